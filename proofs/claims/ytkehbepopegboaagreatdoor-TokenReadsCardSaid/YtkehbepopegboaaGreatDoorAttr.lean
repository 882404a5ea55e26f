/-
  The reading place of layer 3: its method attribute: an attribute, without the blanks ahead of it. Conditions as before.
-/
import Derived.Test.YtkehbepopegboaaGreatDoorHelp
namespace Go.Proofs.YtkehbepopegboaaGreatDoor
open Go.RowKit
set_option linter.unusedVariables false
/-- a new variable of type api.Attr, as it is laid -/
def FreshAttr (w : World) (r : Nat) : Prop := w.heap[r]? = some (.cells #[.string ⟨#[]⟩, .string ⟨#[]⟩] 43 (0, 0))
theorem FreshAttr.new (w : World) : FreshAttr (w.alloc (.cells #[.string ⟨#[]⟩, .string ⟨#[]⟩] 43)) w.heap.size := heap_alloc_new w _
theorem FreshAttr.sole {b r : Nat} {w w' : World} (h : FreshAttr w r) (hs : Sole b w w') (hb : r ≠ b) : FreshAttr w' r := (hs.block r (lt_of_block h) hb).trans h
theorem FreshAttr.cell {w : World} {r : Nat} (h : FreshAttr w r) : w.cell? ⟨r, 0, none⟩ = some (.string ⟨#[]⟩) ∧ w.cell? ⟨r, 1, none⟩ = some (.string ⟨#[]⟩) ∧ w.frozen? ⟨r, 0, none⟩ = false ∧ w.frozen? ⟨r, 1, none⟩ = false := by
  unfold FreshAttr at h
  refine ⟨cell_of_row w r 0 _ _ _ h, cell_of_row w r 1 _ _ _ h, ?_, ?_⟩ <;> simp [World.frozen?, h]
theorem hasPrefix_one (l : Bytes) (m : ByteArray) (c : UInt8) (hm : m = ⟨#[c]⟩) (v : Bool) (h : Lib.hasPrefix l [c] = v) : Lib.hasPrefix l m.data.toList = v := by subst hm; exact h
theorem Sole.setNew {b : Nat} {a w : World} (h : Sole b a w) {p : Addr} (hp : a.heap.size ≤ p.block) (v : Value) : Sole b a (w.setCell p v) :=
  ⟨h.os, h.tape, h.output, by simp [World.setCell]; exact h.size, fun k hk hb => by rw [Below.heap_setCell _ _ _ _ (by omega)]; exact h.block k hk hb⟩
theorem PlaceAt.setNew {w : World} {b p : Nat} {doc : ByteArray} (h : PlaceAt w b doc p) {r o : Nat} (v : Value) (hr : r ≠ b) : PlaceAt (w.setCell ⟨r, o, none⟩ v) b doc p := by
  unfold PlaceAt; rw [Below.heap_setCell _ _ _ _ (fun e => hr e.symm)]; exact h
/-- what attribute owes -/
def AttrPost (b p : Nat) (doc : ByteArray) (w : World) (e : Ending) (w' : World) : Prop :=
  match attrP (doc.data.toList.drop p) with
  | none => (∃ x y : ByteArray, e = .returned (.tuple #[.agg #[.string x, .string y], .bool false])) ∧ Sole b w w'
  | some ((n, v), k) => e = .returned (.tuple #[.agg #[.string ⟨n.toArray⟩, .string ⟨v.toArray⟩], .bool true]) ∧ PlaceAt w' b doc (p + k) ∧ Sole b w w'
theorem AttrPost.no {b p : Nat} {doc : ByteArray} {w w' : World} {e : Ending} (h : attrP (doc.data.toList.drop p) = none) (x y : ByteArray) (he : e = .returned (.tuple #[.agg #[.string x, .string y], .bool false])) (hs : Sole b w w') : AttrPost b p doc w e w' := by
  unfold AttrPost; rw [h]; exact ⟨⟨x, y, he⟩, hs⟩
theorem AttrPost.yes {b p : Nat} {doc : ByteArray} {w w' : World} {e : Ending} {n v : Bytes} {k : Nat} (h : attrP (doc.data.toList.drop p) = some ((n, v), k)) (he : e = .returned (.tuple #[.agg #[.string ⟨n.toArray⟩, .string ⟨v.toArray⟩], .bool true])) (hP : PlaceAt w' b doc (p + k)) (hs : Sole b w w') : AttrPost b p doc w e w' := by
  unfold AttrPost; rw [h]; exact ⟨he, hP, hs⟩
set_option maxHeartbeats 8000000 in
set_option maxRecDepth 100000 in
theorem attribute_any (b p : Nat) (doc : ByteArray) (w : World) (hP : PlaceAt w b doc p) (hp : p ≤ doc.size) (hd : doc.size ≤ 65536) (hg : Gl w) (hb9 : 9 ≤ b) :
    Calls Tryz.prog 48 #[.pointer (some ⟨b, 0, none⟩)] w (AttrPost b p doc w) := by
  have hb := hP.lt
  have hP1 := hP.below ((Below.refl _ w).alloc (Nat.le_refl _) (.cells #[.string ⟨#[]⟩, .string ⟨#[]⟩] 43))
  have hF1 := FreshAttr.new w
  have hg1 := hg.below (Nat.le_refl 9) ((Below.refl _ w).alloc hg.size (.cells #[.string ⟨#[]⟩, .string ⟨#[]⟩] 43))
  have hS1 := (Sole.refl b w).alloc (.cells #[.string ⟨#[]⟩, .string ⟨#[]⟩] 43)
  have hA := (rfl : attrP (doc.data.toList.drop p) = attrP (doc.data.toList.drop p))
  conv at hA => rhs; unfold attrP; simp only [List.drop_drop, take_partN]
  have hle := partN_le (doc.data.toList.drop p)
  rw [List.length_drop, ← Lib.size_eq] at hle
  have hex : (doc.extract p (p + partN (doc.data.toList.drop p))).data.toList = (doc.data.toList.drop p).takeWhile fun c => partB (c.toNat : Nat) := by
    rw [Lib.extract_data, Nat.add_sub_cancel_left, take_partN]
  have hna := name_any b p doc _ hP1 hp hd
  generalize hnn : partN (doc.data.toList.drop p) = n at hA hle hex hna
  generalize htw : ((doc.data.toList.drop p).takeWhile fun c => partB (c.toNat : Nat)) = tw at hA hex hna
  generalize hnm : doc.extract p (p + n) = nm at hna hex
  clear hnn htw hnm
  have HA := Lib.hid hA
  clear hA
  go_enter Tryz.func48, Tryz.ntmps48
  go_wp2_with fail
  refine hna.mono ?_
  rintro e w1 ⟨rfl, hP2, hS2⟩
  have hg2 := hg1.sole hb9 hS2
  have hF2 := hF1.sole hS2 (by omega)
  have hS2' := hS1.trans hS2
  clear hna
  cases hin : isName tw with
  | false =>
    have hA := HA.out
    rw [if_pos hin] at hA
    have HA2 := Lib.hid hA
    obtain ⟨c0, c1, f0, f1⟩ := hF2.cell
    clear hA hin
    go_wp2_with fail
    refine bodyPost_ret (v := .tuple #[.agg #[.string ⟨#[]⟩, .string ⟨#[]⟩], .bool false]) (by simp [results, Tryz.results48, go_sem, c0, c1]) rfl (AttrPost.no HA2.out _ _ rfl ((hS2'.setNew (by simp) _).setNew (by simp) _))
  | true =>
    have hA := HA.out
    rw [if_neg (by simp [hin])] at hA
    have hbl := blanks_any b (p + n) doc _ hP2 (by omega) hd
    have hgl := blanksN_le (doc.data.toList.drop (p + n))
    rw [List.length_drop, ← Lib.size_eq] at hgl
    generalize blanksN (doc.data.toList.drop (p + n)) = g1 at hA hbl hgl
    clear HA hin
    have HA := Lib.hid hA
    clear hA
    go_wp2_with fail
    refine hbl.mono ?_
    rintro e w2 ⟨rfl, hP3, hS3⟩
    have hg3 := hg2.sole hb9 hS3
    have hF3 := hF2.sole hS3 (by omega)
    have hS3' := hS2'.trans hS3
    clear hbl
    obtain ⟨a, ha⟩ : ∃ a, a = n + g1 := ⟨_, rfl⟩
    have hA := HA.out
    rw [← ha] at hA
    have hP3' : PlaceAt w2 b doc (p + a) := by rw [ha, ← Nat.add_assoc]; exact hP3
    have had : p + a ≤ doc.size := by omega
    clear HA ha hP3
    cases heq : Lib.hasPrefix (doc.data.toList.drop (p + a)) [61] with
    | false =>
      rw [if_pos heq] at hA
      have HA2 := Lib.hid hA
      have hsk := skipM_no b (p + a) doc [61] _ hP3' had heq
      clear hA heq
      go_wp2_with fail
      refine hsk.mono ?_
      rintro e w3 ⟨rfl, hP4, hS4⟩
      have hF4 := hF3.sole hS4 (by omega)
      have hS4' := hS3'.trans hS4
      obtain ⟨c0, c1, f0, f1⟩ := hF4.cell
      clear hsk
      go_wp2_with fail
      refine bodyPost_ret (v := .tuple #[.agg #[.string ⟨#[]⟩, .string ⟨#[]⟩], .bool false]) (by simp [results, Tryz.results48, go_sem, c0, c1]) rfl (AttrPost.no HA2.out _ _ rfl ((hS4'.setNew (by simp) _).setNew (by simp) _))
    | true =>
      rw [if_neg (by simp [heq])] at hA
      have hroom := prefix_room heq (by simp)
      simp only [List.length_cons, List.length_nil] at hroom
      have hsk := skipM_yes b (p + a) doc [61] 1 rfl _ hP3' had hd heq
      clear heq
      have HA := Lib.hid hA
      clear hA
      go_wp2_with fail
      refine hsk.mono ?_
      rintro e w3 ⟨rfl, hP4, hS4⟩
      have hF4 := hF3.sole hS4 (by omega)
      have hg4 := hg3.sole hb9 hS4
      have hS4' := hS3'.trans hS4
      clear hsk
      have hbl := blanks_any b (p + a + 1) doc _ hP4 (by omega) hd
      have hgl := blanksN_le (doc.data.toList.drop (p + a + 1))
      rw [List.length_drop, ← Lib.size_eq] at hgl
      have hA := HA.out
      rw [show p + (a + 1) = p + a + 1 from rfl] at hA
      generalize blanksN (doc.data.toList.drop (p + a + 1)) = g2 at hA hbl hgl
      obtain ⟨bb, hbb⟩ : ∃ bb, bb = a + 1 + g2 := ⟨_, rfl⟩
      rw [← hbb] at hA
      clear HA
      have HA := Lib.hid hA
      clear hA
      go_wp2_with fail
      refine hbl.mono ?_
      rintro e w4 ⟨rfl, hP5, hS5⟩
      have hF5 := hF4.sole hS5 (by omega)
      have hg5 := hg4.sole hb9 hS5
      have hS5' := hS4'.trans hS5
      have hP5' : PlaceAt w4 b doc (p + bb) := by rw [hbb, ← Nat.add_assoc, ← Nat.add_assoc]; exact hP5
      have hbd : p + bb ≤ doc.size := by omega
      clear hbl hbb hP5
      have hA := HA.out
      cases h34 : Lib.hasPrefix (doc.data.toList.drop (p + bb)) [34] with
      | true =>
        rw [if_pos h34] at hA
        simp only at hA
        have hroom := prefix_room h34 (by simp)
        simp only [List.length_cons, List.length_nil] at hroom
        have hsk := skipM_yes b (p + bb) doc [34] 1 rfl _ hP5' hbd hd h34
        clear h34 HA
        have HA := Lib.hid hA
        clear hA
        go_wp2_with fail
        refine hsk.mono ?_
        rintro e w5 ⟨rfl, hP6, hS6⟩
        have hF6 := hF5.sole hS6 (by omega)
        have hg6 := hg5.sole hb9 hS6
        have hS6' := hS5'.trans hS6
        have hA := HA.out
        clear hsk
        obtain ⟨q, hq⟩ : ∃ q, q = bb + 1 := ⟨_, rfl⟩
        rw [← hq] at hA
        have hP7 : PlaceAt w5 b doc (p + q) := by rw [show p + q = p + bb + 1 from by omega]; exact hP6
        have hqd : p + q ≤ doc.size := by omega
        clear hq
        rcases index_cases (doc.data.toList.drop (p + q)) [34] with hix | ⟨i, hix⟩
        · rw [hix, if_pos (by omega)] at hA
          have HA2 := Lib.hid hA
          have hun := untilM_no b (p + q) doc [34] _ hP7 hqd hd hg6 hix
          clear hA hix HA
          go_wp2_with fail
          refine hun.mono ?_
          rintro e w7 ⟨rfl, hP8, hS8⟩
          have hF8 := hF6.sole hS8 (by omega)
          have hS8' := hS6'.trans hS8
          obtain ⟨c0, c1, f0, f1⟩ := hF8.cell
          clear hun
          go_wp2_with fail
          refine bodyPost_ret (v := .tuple #[.agg #[.string ⟨#[]⟩, .string ⟨#[]⟩], .bool false]) (by simp [results, Tryz.results48, go_sem, c0, c1]) rfl (AttrPost.no HA2.out _ _ rfl ((hS8'.setNew (by simp) _).setNew (by simp) _))
        · have hroom := index_room_doc hix hqd
          simp only [List.length_cons, List.length_nil] at hroom
          rw [hix, if_neg (by omega), Int.toNat_natCast] at hA
          have hun := untilM_yes b (p + q) i doc [34] 1 rfl _ hP7 hqd hd hg6 hix
          have hraw : (doc.extract (p + q) (p + q + i)).data.toList = (doc.data.toList.drop (p + q)).take i := by rw [Lib.extract_data, Nat.add_sub_cancel_left]
          have hrl : ((doc.data.toList.drop (p + q)).take i).length ≤ 65536 := by rw [List.length_take]; omega
          have hre : doc.extract (p + q) (p + q + i) = ⟨((doc.data.toList.drop (p + q)).take i).toArray⟩ := by rw [← hraw]
          rw [hre] at hun
          generalize (doc.data.toList.drop (p + q)).take i = raw at hA hun hrl
          clear hix hraw hre HA
          have HA := Lib.hid hA
          clear hA
          go_wp2_with fail
          refine hun.mono ?_
          rintro e w7 ⟨rfl, hP8, hS8⟩
          have hF8 := hF6.sole hS8 (by omega)
          have hS8' := hS6'.trans hS8
          have hg8 := hg6.sole hb9 hS8
          clear hun
          go_wp2_with fail
          refine (Tryz.strings_Contains_one ⟨raw.toArray⟩ 60 _).mono ?_
          rintro e w8 ⟨rfl, rfl⟩
          by_cases hlt : 0 ≤ Lib.indexByte raw 60
          · have hA := HA.out
            rw [if_pos hlt] at hA
            have HA2 := Lib.hid hA
            rw [show (decide (0 ≤ Lib.indexByte (⟨raw.toArray⟩ : ByteArray).data.toList 60)) = true from by simpa using hlt]
            obtain ⟨c0, c1, f0, f1⟩ := hF8.cell
            clear hA hlt
            go_wp2_with fail
            refine bodyPost_ret (v := .tuple #[.agg #[.string ⟨#[]⟩, .string ⟨#[]⟩], .bool false]) (by simp [results, Tryz.results48, go_sem, c0, c1]) rfl (AttrPost.no HA2.out _ _ rfl ((hS8'.setNew (by simp) _).setNew (by simp) _))
          · have hA := HA.out
            rw [if_neg hlt, ← spaces_eq] at hA
            rw [show (decide (0 ≤ Lib.indexByte (⟨raw.toArray⟩ : ByteArray).data.toList 60)) = false from by simpa using hlt]
            have hl1 : (Lib.replaceAll raw [9] [32]).length ≤ 65536 := by rw [replace_one 9 32 (by decide), List.length_map]; exact hrl
            have hl2 : (Lib.replaceAll (Lib.replaceAll raw [9] [32]) [10] [32]).length ≤ 65536 := by rw [replace_one 10 32 (by decide), List.length_map]; exact hl1
            have hr1 := fun w h => replace1_any raw 9 32 (by decide) w (by omega) h
            generalize Lib.replaceAll raw [9] [32] = raw1 at hA hl1 hl2 hr1
            have hr2 := fun w h => replace1_any raw1 10 32 (by decide) w (by omega) h
            generalize Lib.replaceAll raw1 [10] [32] = raw2 at hA hl2 hr2
            have hs2 : (⟨raw2.toArray⟩ : ByteArray).size = raw2.length := by rw [Lib.size_eq]
            have hun := fun w h0 hsp => unescape_any ⟨raw2.toArray⟩ w (by rw [hs2]; omega) h0 hsp
            rw [show (⟨raw2.toArray⟩ : ByteArray).data.toList = raw2 from by simp] at hun
            generalize hue : unescape raw2 = ue at hA hun
            obtain ⟨ec, ev⟩ := ue
            clear HA hlt hue hs2
            have HA := Lib.hid hA
            have Hr1 := Lib.hid hr1
            have Hr2 := Lib.hid hr2
            have Hun := Lib.hid hun
            clear hA hr1 hr2 hun
            go_wp2_with fail
            refine (Hr1.out _ hg8).mono ?_
            rintro e w9 ⟨rfl, hb9'⟩
            have hg9 := hg8.below hg8.size hb9'
            go_wp2_with fail
            refine (Hr2.out _ hg9).mono ?_
            rintro e w10 ⟨rfl, hb10⟩
            have hg10 := hg9.below hg9.size hb10
            go_wp2_with fail
            refine (Hun.out _ (by have := hg10.size; omega) hg10.spans).mono ?_
            rintro e w11 ⟨rfl, hb11⟩
            have hS11 := ((Sole.of (b := b) hb9').trans (Sole.of hb10)).trans (Sole.of hb11)
            have hF11 := hF8.sole hS11 (by omega)
            have hS11' := hS8'.trans hS11
            have hP11 := ((hP8.below hb9').below hb10).below hb11
            obtain ⟨c0, c1, f0, f1⟩ := hF11.cell
            have hA := HA.out
            rw [show unV (ec, ev) = .tuple #[.string ⟨ev.toArray⟩, .int .i64 ec] from rfl]
            by_cases hz : ec = 0
            · rw [if_pos hz] at hA
              subst hz
              have HA2 := Lib.hid hA
              have Hex := Lib.hid hex
              clear hA hex
              go_wp2_with fail
              refine bodyPost_ret (v := .tuple #[.agg #[.string nm, .string ⟨ev.toArray⟩], .bool true]) (by simp [results, Tryz.results48, go_sem, c0, c1]) rfl (AttrPost.yes HA2.out ?_ ?_ ((hS11'.setNew (by simp) _).setNew (by simp) _))
              · rw [← Hex.out]
              · show PlaceAt _ b doc (p + (q + i + 1))
                rw [show p + (q + i + 1) = p + q + (i + 1) from by omega]
                exact (hP11.setNew _ (by omega)).setNew _ (by omega)
            · rw [if_neg hz] at hA
              have HA2 := Lib.hid hA
              have hzf : (ec == 0) = false := by rw [beq_eq_false_iff_ne]; exact hz
              clear hA hz
              go_wp2_with fail
              refine bodyPost_ret (v := .tuple #[.agg #[.string nm, .string ⟨ev.toArray⟩], .bool false]) (by simp [results, Tryz.results48, go_sem, c0, c1]) rfl (AttrPost.no HA2.out _ _ rfl ((hS11'.setNew (by simp) _).setNew (by simp) _))
      | false =>
        rw [if_neg (by simp [h34])] at hA
        have hsk := skipM_no b (p + bb) doc [34] _ hP5' hbd h34
        clear h34 HA
        have HA := Lib.hid hA
        clear hA
        go_wp2_with fail
        refine hsk.mono ?_
        rintro e w5 ⟨rfl, hP6, hS6⟩
        have hF6 := hF5.sole hS6 (by omega)
        have hg6 := hg5.sole hb9 hS6
        have hS6' := hS5'.trans hS6
        have hA := HA.out
        clear hsk
        cases h39 : Lib.hasPrefix (doc.data.toList.drop (p + bb)) [39] with
        | false =>
          rw [if_neg (by simp [h39])] at hA
          simp only at hA
          have HA2 := Lib.hid hA
          have hsk := skipM_no b (p + bb) doc [39] _ hP6 hbd h39
          clear hA h39
          go_wp2_with fail
          refine hsk.mono ?_
          rintro e w6 ⟨rfl, hP6b, hS6b⟩
          have hF6b := hF6.sole hS6b (by omega)
          have hS6b' := hS6'.trans hS6b
          obtain ⟨c0, c1, f0, f1⟩ := hF6b.cell
          clear hsk
          go_wp2_with fail
          refine bodyPost_ret (v := .tuple #[.agg #[.string ⟨#[]⟩, .string ⟨#[]⟩], .bool false]) (by simp [results, Tryz.results48, go_sem, c0, c1]) rfl (AttrPost.no HA2.out _ _ rfl ((hS6b'.setNew (by simp) _).setNew (by simp) _))
        | true =>
          rw [if_pos h39] at hA
          simp only at hA
          have hroom := prefix_room h39 (by simp)
          simp only [List.length_cons, List.length_nil] at hroom
          have hsk := skipM_yes b (p + bb) doc [39] 1 rfl _ hP6 hbd hd h39
          clear h39 HA
          have HA := Lib.hid hA
          clear hA
          go_wp2_with fail
          refine hsk.mono ?_
          rintro e w6 ⟨rfl, hP6b, hS6b⟩
          have hF6b := hF6.sole hS6b (by omega)
          have hg6b := hg6.sole hb9 hS6b
          have hS6b' := hS6'.trans hS6b
          have hA := HA.out
          clear hsk
          obtain ⟨q, hq⟩ : ∃ q, q = bb + 1 := ⟨_, rfl⟩
          rw [← hq] at hA
          have hP7 : PlaceAt w6 b doc (p + q) := by rw [show p + q = p + bb + 1 from by omega]; exact hP6b
          have hqd : p + q ≤ doc.size := by omega
          clear hq
          rcases index_cases (doc.data.toList.drop (p + q)) [39] with hix | ⟨i, hix⟩
          · rw [hix, if_pos (by omega)] at hA
            have HA2 := Lib.hid hA
            have hun := untilM_no b (p + q) doc [39] _ hP7 hqd hd hg6b hix
            clear hA hix HA
            go_wp2_with fail
            refine hun.mono ?_
            rintro e w7 ⟨rfl, hP8, hS8⟩
            have hF8 := hF6b.sole hS8 (by omega)
            have hS8' := hS6b'.trans hS8
            obtain ⟨c0, c1, f0, f1⟩ := hF8.cell
            clear hun
            go_wp2_with fail
            refine bodyPost_ret (v := .tuple #[.agg #[.string ⟨#[]⟩, .string ⟨#[]⟩], .bool false]) (by simp [results, Tryz.results48, go_sem, c0, c1]) rfl (AttrPost.no HA2.out _ _ rfl ((hS8'.setNew (by simp) _).setNew (by simp) _))
          · have hroom := index_room_doc hix hqd
            simp only [List.length_cons, List.length_nil] at hroom
            rw [hix, if_neg (by omega), Int.toNat_natCast] at hA
            have hun := untilM_yes b (p + q) i doc [39] 1 rfl _ hP7 hqd hd hg6b hix
            have hraw : (doc.extract (p + q) (p + q + i)).data.toList = (doc.data.toList.drop (p + q)).take i := by rw [Lib.extract_data, Nat.add_sub_cancel_left]
            have hrl : ((doc.data.toList.drop (p + q)).take i).length ≤ 65536 := by rw [List.length_take]; omega
            have hre : doc.extract (p + q) (p + q + i) = ⟨((doc.data.toList.drop (p + q)).take i).toArray⟩ := by rw [← hraw]
            rw [hre] at hun
            generalize (doc.data.toList.drop (p + q)).take i = raw at hA hun hrl
            clear hix hraw hre HA
            have HA := Lib.hid hA
            clear hA
            go_wp2_with fail
            refine hun.mono ?_
            rintro e w7 ⟨rfl, hP8, hS8⟩
            have hF8 := hF6b.sole hS8 (by omega)
            have hS8' := hS6b'.trans hS8
            have hg8 := hg6b.sole hb9 hS8
            clear hun
            go_wp2_with fail
            refine (Tryz.strings_Contains_one ⟨raw.toArray⟩ 60 _).mono ?_
            rintro e w8 ⟨rfl, rfl⟩
            by_cases hlt : 0 ≤ Lib.indexByte raw 60
            · have hA := HA.out
              rw [if_pos hlt] at hA
              have HA2 := Lib.hid hA
              rw [show (decide (0 ≤ Lib.indexByte (⟨raw.toArray⟩ : ByteArray).data.toList 60)) = true from by simpa using hlt]
              obtain ⟨c0, c1, f0, f1⟩ := hF8.cell
              clear hA hlt
              go_wp2_with fail
              refine bodyPost_ret (v := .tuple #[.agg #[.string ⟨#[]⟩, .string ⟨#[]⟩], .bool false]) (by simp [results, Tryz.results48, go_sem, c0, c1]) rfl (AttrPost.no HA2.out _ _ rfl ((hS8'.setNew (by simp) _).setNew (by simp) _))
            · have hA := HA.out
              rw [if_neg hlt, ← spaces_eq] at hA
              rw [show (decide (0 ≤ Lib.indexByte (⟨raw.toArray⟩ : ByteArray).data.toList 60)) = false from by simpa using hlt]
              have hl1 : (Lib.replaceAll raw [9] [32]).length ≤ 65536 := by rw [replace_one 9 32 (by decide), List.length_map]; exact hrl
              have hl2 : (Lib.replaceAll (Lib.replaceAll raw [9] [32]) [10] [32]).length ≤ 65536 := by rw [replace_one 10 32 (by decide), List.length_map]; exact hl1
              have hr1 := fun w h => replace1_any raw 9 32 (by decide) w (by omega) h
              generalize Lib.replaceAll raw [9] [32] = raw1 at hA hl1 hl2 hr1
              have hr2 := fun w h => replace1_any raw1 10 32 (by decide) w (by omega) h
              generalize Lib.replaceAll raw1 [10] [32] = raw2 at hA hl2 hr2
              have hs2 : (⟨raw2.toArray⟩ : ByteArray).size = raw2.length := by rw [Lib.size_eq]
              have hun := fun w h0 hsp => unescape_any ⟨raw2.toArray⟩ w (by rw [hs2]; omega) h0 hsp
              rw [show (⟨raw2.toArray⟩ : ByteArray).data.toList = raw2 from by simp] at hun
              generalize hue : unescape raw2 = ue at hA hun
              obtain ⟨ec, ev⟩ := ue
              clear HA hlt hue hs2
              have HA := Lib.hid hA
              have Hr1 := Lib.hid hr1
              have Hr2 := Lib.hid hr2
              have Hun := Lib.hid hun
              clear hA hr1 hr2 hun
              go_wp2_with fail
              refine (Hr1.out _ hg8).mono ?_
              rintro e w9 ⟨rfl, hb9'⟩
              have hg9 := hg8.below hg8.size hb9'
              go_wp2_with fail
              refine (Hr2.out _ hg9).mono ?_
              rintro e w10 ⟨rfl, hb10⟩
              have hg10 := hg9.below hg9.size hb10
              go_wp2_with fail
              refine (Hun.out _ (by have := hg10.size; omega) hg10.spans).mono ?_
              rintro e w11 ⟨rfl, hb11⟩
              have hS11 := ((Sole.of (b := b) hb9').trans (Sole.of hb10)).trans (Sole.of hb11)
              have hF11 := hF8.sole hS11 (by omega)
              have hS11' := hS8'.trans hS11
              have hP11 := ((hP8.below hb9').below hb10).below hb11
              obtain ⟨c0, c1, f0, f1⟩ := hF11.cell
              have hA := HA.out
              rw [show unV (ec, ev) = .tuple #[.string ⟨ev.toArray⟩, .int .i64 ec] from rfl]
              by_cases hz : ec = 0
              · rw [if_pos hz] at hA
                subst hz
                have HA2 := Lib.hid hA
                have Hex := Lib.hid hex
                clear hA hex
                go_wp2_with fail
                refine bodyPost_ret (v := .tuple #[.agg #[.string nm, .string ⟨ev.toArray⟩], .bool true]) (by simp [results, Tryz.results48, go_sem, c0, c1]) rfl (AttrPost.yes HA2.out ?_ ?_ ((hS11'.setNew (by simp) _).setNew (by simp) _))
                · rw [← Hex.out]
                · show PlaceAt _ b doc (p + (q + i + 1))
                  rw [show p + (q + i + 1) = p + q + (i + 1) from by omega]
                  exact (hP11.setNew _ (by omega)).setNew _ (by omega)
              · rw [if_neg hz] at hA
                have HA2 := Lib.hid hA
                have hzf : (ec == 0) = false := by rw [beq_eq_false_iff_ne]; exact hz
                clear hA hz
                go_wp2_with fail
                refine bodyPost_ret (v := .tuple #[.agg #[.string nm, .string ⟨ev.toArray⟩], .bool false]) (by simp [results, Tryz.results48, go_sem, c0, c1]) rfl (AttrPost.no HA2.out _ _ rfl ((hS11'.setNew (by simp) _).setNew (by simp) _))
end Go.Proofs.YtkehbepopegboaaGreatDoor
