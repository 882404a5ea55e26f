/-
  The scanner of layer 3: how words are read: its walk. Conditions as before.
-/
import Derived.Test.YtkehbepopegboaaGreatDoorPiece2
namespace Go.Proofs.YtkehbepopegboaaGreatDoor
open Go.RowKit
set_option linter.unusedVariables false
set_option maxHeartbeats 8000000 in
set_option maxRecDepth 100000 in
theorem words_any (b p : Nat) (doc : ByteArray) (w : World) (hP : PlaceAt w b doc p) (hp : p ≤ doc.size) (hd : doc.size ≤ 65536) (hg : Gl w) (hb9 : 9 ≤ b) :
    Calls Tryz.prog 25 #[.pointer (some ⟨b, 0, none⟩)] w (PiecePost (wordsP (doc.data.toList.drop p)) b p doc w) := by
  have hb := hP.lt
  have hP1 := hP.below ((Below.refl _ w).alloc (Nat.le_refl _) freshTokO)
  have hF1 := FreshTok.new w
  have hg1 := hg.below (Nat.le_refl 9) ((Below.refl _ w).alloc hg.size freshTokO)
  have hS1 := (Sole.refl b w).alloc freshTokO
  have hP1d : ∀ n, PlaceAt ((w.alloc freshTokO).drewN n) b doc p := fun n => hP1
  have hF1d : ∀ n, FreshTok ((w.alloc freshTokO).drewN n) w.heap.size := fun n => hF1
  have hg1d : ∀ n, Gl ((w.alloc freshTokO).drewN n) := fun n => ⟨hg1.spans, hg1.maxlen, hg1.size⟩
  have hS1d : ∀ n, Sole b w ((w.alloc freshTokO).drewN n) := fun n => hS1.trans (Sole.drewN n)
  unfold freshTokO at hP1 hP1d hF1d hg1d hS1d
  have hA := (rfl : wordsP (doc.data.toList.drop p) = wordsP (doc.data.toList.drop p))
  conv at hA => rhs; unfold wordsP
  generalize wordsP (doc.data.toList.drop p) = res at hA
  have hpos := hP1.pos
  have hdoc := hP1.doc
  have hcut : ∀ wx, (Instr.slice 9 (.string doc) (some (.int .i64 p)) none none).run Tryz.prog wx = .ok (.string (doc.extract p doc.size)) wx := fun wx => slice_from doc p hp wx
  have hde := Lib.extract_to_end doc p
  have htz : (doc.extract p doc.size).size = doc.size - p := by rw [ByteArray.size_extract]; omega
  rw [← hde] at hA
  generalize doc.extract p doc.size = t at hcut hA htz
  have hidx := Tryz.strings_IndexByte t 60
  have Hidx := Lib.hid hidx
  have HA := Lib.hid hA
  clear hA hidx hde hP1 hF1 hg1 hS1
  have HP := Lib.hid hP1d
  have HF := Lib.hid hF1d
  have HG := Lib.hid hg1d
  have HS := Lib.hid hS1d
  clear hP1d hF1d hg1d hS1d
  go_enter Tryz.func25, Tryz.ntmps25
  go_wp2_with fail
  go_quiet (fail)
  rename_i nq
  have hP2 := HP.out nq
  have hF2 := HF.out nq
  have hg2 := HG.out nq
  have hS2 := HS.out nq
  clear HP HF HG HS hpos hdoc
  generalize World.drewN _ nq = w2 at hP2 hF2 hg2 hS2 ⊢
  go_wp2_with fail
  refine (Hidx.out _).mono ?_
  rintro e w3 ⟨rfl, rfl⟩
  rw [show ((60 : Int).toNat.toUInt8) = 60 from rfl]
  clear Hidx hcut
  have hfree := hP2.free 1
  have hpos := hP2.pos
  rcases indexByte_cases t.data.toList 60 with hi | ⟨e, hi, hlt, _, _⟩
  · have hA := HA.out
    rw [hi, if_pos (show (-1 : Int) < 0 by omega)] at hA
    rw [hi]
    obtain ⟨r, hr⟩ : ∃ r, r = t := ⟨_, rfl⟩
    rw [← hr] at hA htz ⊢
    have hrs : r.size ≤ doc.size - p := by omega
    clear hi HA hr htz
    have hrL : r.data.toList.length = r.size := (Lib.size_eq r).symm
    rw [hrL] at hA
    have HA := Lib.hid hA
    have HrL := Lib.hid hrL
    clear hA hrL
    go_wp2_with fail
    have hP4 := hP2.set (p + r.size) (.int .i64 (p + r.size)) (by go_num)
    have hS4 := hS2.setCell 1 (.int .i64 (p + r.size))
    have hg4 := hg2.sole hb9 ((Sole.refl b w3).setCell 1 (.int .i64 (p + r.size)))
    have hF4 := hF2.sole ((Sole.refl b w3).setCell 1 (.int .i64 (p + r.size))) (by omega)
    generalize w3.setCell ⟨b, 1, none⟩ (.int .i64 (p + r.size)) = w4 at hP4 hS4 hg4 hF4 ⊢
    clear hP2 hF2 hg2 hS2 hfree hpos
    obtain ⟨m, hmx⟩ := hg4.maxlen
    refine (Tryz.strings_Contains r ⟨#[93, 93, 62]⟩ m _ (by omega) hmx).mono ?_
    rintro e w5 ⟨rfl, rfl⟩
    have hA := HA.out
    rw [show (⟨#[93, 93, 62]⟩ : ByteArray).data.toList = [93, 93, 62] from rfl]
    clear hmx
    cases hct : Lib.contains r.data.toList [93, 93, 62] with
    | true =>
      rw [if_pos hct] at hA
      have HA2 := Lib.hid hA
      clear hA hct HA
      obtain ⟨c0, c1, c2, c3, c4, ff⟩ := hF4.cell
      have f0 := ff 0
      have f1 := ff 1
      have f2 := ff 2
      have f3 := ff 3
      have f4 := ff 4
      clear ff
      go_wp2_with fail
      refine bodyPost_ret (v := .tuple #[.agg #[.int .i64 0, .string ⟨#[]⟩, .string ⟨#[]⟩, .slice none 0 0, .bool false], .bool false]) (by simp [results, Tryz.results25, go_sem, c0, c1, c2, c3, c4]) rfl (PiecePost.no HA2.out _ _ _ _ rfl (hS4.set5 (Nat.le_refl _) _ _ _ _ _))
    | false =>
      rw [if_neg (by rw [hct]; simp)] at hA
      have hun := fun w h0 hsp => unescape_any r w (by omega) h0 hsp
      generalize hue : unescape r.data.toList = ue at hA hun
      obtain ⟨ec, ev⟩ := ue
      clear hue hct HA
      have HA := Lib.hid hA
      have Hun := Lib.hid hun
      clear hA hun
      go_wp2_with fail
      refine (Hun.out _ (by have := hg4.size; omega) hg4.spans).mono ?_
      rintro e w6 ⟨rfl, hb6⟩
      have hS6 := hS4.trans (Sole.of hb6)
      have hF6 := hF4.sole (Sole.of (b := b) hb6) (by omega)
      have hP6 := hP4.below hb6
      have hA := HA.out
      rw [show unV (ec, ev) = .tuple #[.string ⟨ev.toArray⟩, .int .i64 ec] from rfl]
      obtain ⟨c0, c1, c2, c3, c4, ff⟩ := hF6.cell
      have f0 := ff 0
      have f1 := ff 1
      have f2 := ff 2
      have f3 := ff 3
      have f4 := ff 4
      clear ff
      by_cases hz : ec = 0
      · rw [if_pos hz] at hA
        subst hz
        have HA2 := Lib.hid hA
        clear hA HA Hun
        go_wp2_with fail
        refine bodyPost_ret (v := .tuple #[.agg #[.int .i64 4, .string ⟨#[]⟩, .string ⟨ev.toArray⟩, .slice none 0 0, .bool false], .bool true]) (by simp [results, Tryz.results25, go_sem, c0, c1, c2, c3, c4]) rfl (PiecePost.yes HA2.out rfl ?_ ?_ (hS6.set5 (Nat.le_refl _) _ _ _ _ _))
        · unfold tokV; rfl
        · exact hP6.set5 (by omega) _ _ _ _ _
      · rw [if_neg hz] at hA
        have HA2 := Lib.hid hA
        have hzf : (ec == 0) = false := by rw [beq_eq_false_iff_ne]; exact hz
        clear hA hz HA Hun
        go_wp2_with fail
        refine bodyPost_ret (v := .tuple #[.agg #[.int .i64 4, .string ⟨#[]⟩, .string ⟨ev.toArray⟩, .slice none 0 0, .bool false], .bool false]) (by simp [results, Tryz.results25, go_sem, c0, c1, c2, c3, c4]) rfl (PiecePost.no HA2.out _ _ _ _ rfl (hS6.set5 (Nat.le_refl _) _ _ _ _ _))
  · have hA := HA.out
    rw [hi, if_neg (show ¬ ((e : Nat) : Int) < 0 by omega), Int.toNat_natCast] at hA
    rw [hi]
    rw [← Lib.size_eq] at hlt
    have hcut : ∀ wx, (Instr.slice 9 (.string t) none (some (.int .i64 e)) none).run Tryz.prog wx = .ok (.string (t.extract 0 e)) wx := fun wx => by
      rw [run_slice_string_to_if wx _ t .i64 e Tryz.underlying9, if_pos (by omega)]; rfl
    have hrl : (t.extract 0 e).data.toList = t.data.toList.take e := by rw [Lib.extract_data]; simp
    have hrs : (t.extract 0 e).size ≤ doc.size - p := by rw [ByteArray.size_extract]; omega
    rw [← hrl] at hA
    generalize t.extract 0 e = r at hA hcut hrs
    clear hi HA hrl htz
    have hrL : r.data.toList.length = r.size := (Lib.size_eq r).symm
    rw [hrL] at hA
    have HA := Lib.hid hA
    have HrL := Lib.hid hrL
    clear hA hrL
    go_wp2_with fail
    have hP4 := hP2.set (p + r.size) (.int .i64 (p + r.size)) (by go_num)
    have hS4 := hS2.setCell 1 (.int .i64 (p + r.size))
    have hg4 := hg2.sole hb9 ((Sole.refl b w3).setCell 1 (.int .i64 (p + r.size)))
    have hF4 := hF2.sole ((Sole.refl b w3).setCell 1 (.int .i64 (p + r.size))) (by omega)
    generalize w3.setCell ⟨b, 1, none⟩ (.int .i64 (p + r.size)) = w4 at hP4 hS4 hg4 hF4 ⊢
    clear hP2 hF2 hg2 hS2 hfree hpos
    obtain ⟨m, hmx⟩ := hg4.maxlen
    refine (Tryz.strings_Contains r ⟨#[93, 93, 62]⟩ m _ (by omega) hmx).mono ?_
    rintro e w5 ⟨rfl, rfl⟩
    have hA := HA.out
    rw [show (⟨#[93, 93, 62]⟩ : ByteArray).data.toList = [93, 93, 62] from rfl]
    clear hmx
    cases hct : Lib.contains r.data.toList [93, 93, 62] with
    | true =>
      rw [if_pos hct] at hA
      have HA2 := Lib.hid hA
      clear hA hct HA
      obtain ⟨c0, c1, c2, c3, c4, ff⟩ := hF4.cell
      have f0 := ff 0
      have f1 := ff 1
      have f2 := ff 2
      have f3 := ff 3
      have f4 := ff 4
      clear ff
      go_wp2_with fail
      refine bodyPost_ret (v := .tuple #[.agg #[.int .i64 0, .string ⟨#[]⟩, .string ⟨#[]⟩, .slice none 0 0, .bool false], .bool false]) (by simp [results, Tryz.results25, go_sem, c0, c1, c2, c3, c4]) rfl (PiecePost.no HA2.out _ _ _ _ rfl (hS4.set5 (Nat.le_refl _) _ _ _ _ _))
    | false =>
      rw [if_neg (by rw [hct]; simp)] at hA
      have hun := fun w h0 hsp => unescape_any r w (by omega) h0 hsp
      generalize hue : unescape r.data.toList = ue at hA hun
      obtain ⟨ec, ev⟩ := ue
      clear hue hct HA
      have HA := Lib.hid hA
      have Hun := Lib.hid hun
      clear hA hun
      go_wp2_with fail
      refine (Hun.out _ (by have := hg4.size; omega) hg4.spans).mono ?_
      rintro e w6 ⟨rfl, hb6⟩
      have hS6 := hS4.trans (Sole.of hb6)
      have hF6 := hF4.sole (Sole.of (b := b) hb6) (by omega)
      have hP6 := hP4.below hb6
      have hA := HA.out
      rw [show unV (ec, ev) = .tuple #[.string ⟨ev.toArray⟩, .int .i64 ec] from rfl]
      obtain ⟨c0, c1, c2, c3, c4, ff⟩ := hF6.cell
      have f0 := ff 0
      have f1 := ff 1
      have f2 := ff 2
      have f3 := ff 3
      have f4 := ff 4
      clear ff
      by_cases hz : ec = 0
      · rw [if_pos hz] at hA
        subst hz
        have HA2 := Lib.hid hA
        clear hA HA Hun
        go_wp2_with fail
        refine bodyPost_ret (v := .tuple #[.agg #[.int .i64 4, .string ⟨#[]⟩, .string ⟨ev.toArray⟩, .slice none 0 0, .bool false], .bool true]) (by simp [results, Tryz.results25, go_sem, c0, c1, c2, c3, c4]) rfl (PiecePost.yes HA2.out rfl ?_ ?_ (hS6.set5 (Nat.le_refl _) _ _ _ _ _))
        · unfold tokV; rfl
        · exact hP6.set5 (by omega) _ _ _ _ _
      · rw [if_neg hz] at hA
        have HA2 := Lib.hid hA
        have hzf : (ec == 0) = false := by rw [beq_eq_false_iff_ne]; exact hz
        clear hA hz HA Hun
        go_wp2_with fail
        refine bodyPost_ret (v := .tuple #[.agg #[.int .i64 4, .string ⟨#[]⟩, .string ⟨ev.toArray⟩, .slice none 0 0, .bool false], .bool false]) (by simp [results, Tryz.results25, go_sem, c0, c1, c2, c3, c4]) rfl (PiecePost.no HA2.out _ _ _ _ rfl (hS6.set5 (Nat.le_refl _) _ _ _ _ _))
end Go.Proofs.YtkehbepopegboaaGreatDoor
