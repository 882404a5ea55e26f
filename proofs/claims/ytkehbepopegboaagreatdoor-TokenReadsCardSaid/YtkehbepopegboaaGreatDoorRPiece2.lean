/-
  The document's answer, layer 3: a piece of a document: its walk, a branch a theorem, for every text of at most 65536 bytes.
  The document's answer, layer 3: a piece of a document: its walk, the other branches, for every text of at most 65536 bytes.
-/
import Derived.Test.YtkehbepopegboaaGreatDoorROpen
import Derived.Deep.RegionHeld3
namespace Go.Proofs.YtkehbepopegboaaGreatDoor
open Go.RowKit
set_option linter.unusedVariables false
theorem begins_at (s : ByteArray) (p : Nat) (m : Bytes) (hs : s.size ≤ 65536) (hp : p ≤ s.size) (hm : m.length ≤ 64) (w : World) :
    Calls Tryz.prog 29 #[.string s, .int .i64 p, .string ⟨m.toArray⟩] w fun e w' => e = .returned (.bool (Lib.hasPrefix (s.data.toList.drop p) m)) ∧ w = w' :=
  rBegins_any s ⟨m.toArray⟩ p w (by omega) hp (by rw [Lib.size_eq]; show m.length ≤ _; omega)
theorem begins_zero (s : ByteArray) (p : Nat) (m : Bytes) (hs : s.size ≤ 65536) (hp : p = 0) (hm : m.length ≤ 64) (w : World) :
    Calls Tryz.prog 29 #[.string s, .int .i64 0, .string ⟨m.toArray⟩] w fun e w' => e = .returned (.bool (Lib.hasPrefix (s.data.toList.drop p) m)) ∧ w = w' := by
  subst hp
  exact begins_at s 0 m hs (Nat.zero_le _) hm w
theorem fresh_new (w : World) : RTok (w.alloc (.cells #[.int .i64 0, .string ⟨#[]⟩, .string ⟨#[]⟩, .slice none 0 0, .bool false] 38)) w.heap.size 0 ⟨#[]⟩ ⟨#[]⟩ (.slice none 0 0) false := heap_alloc_new w _
theorem fresh_bel (w : World) : Below w.heap.size w (w.alloc (.cells #[.int .i64 0, .string ⟨#[]⟩, .string ⟨#[]⟩, .slice none 0 0, .bool false] 38)) := (Below.refl _ w).alloc (Nat.le_refl _) _
theorem fresh_size (w : World) : (w.alloc (.cells #[.int .i64 0, .string ⟨#[]⟩, .string ⟨#[]⟩, .slice none 0 0, .bool false] 38)).heap.size = w.heap.size + 1 := World.size_alloc w _
theorem find_at (s : ByteArray) (p : Nat) (m : Bytes) (hs : s.size ≤ 65536) (hp : p ≤ s.size) (hm : m.length ≤ 64) (w : World) :
    Calls Tryz.prog 30 #[.string s, .int .i64 p, .string ⟨m.toArray⟩] w fun e w' => e = .returned (.int .i64 (findZ s.data.toList m p)) ∧ w = w' :=
  rFind_any s ⟨m.toArray⟩ p w (by omega) hp (by rw [Lib.size_eq]; show m.length ≤ _; omega)
theorem pre_more {l : Bytes} (h : Lib.hasPrefix l [45, 45] = true) : Lib.hasPrefix l [45, 45, 62] = Lib.hasPrefix (l.drop 2) [62] := by
  unfold Lib.hasPrefix at *
  rw [List.isPrefixOf_iff_prefix] at h
  obtain ⟨r, rfl⟩ := h
  simp [List.isPrefixOf]
theorem slice_i (s : ByteArray) (a b : Nat) (h : a ≤ b) (h2 : b ≤ s.size) (wx : World) : (Instr.slice 9 (.string s) (some (.int .i64 a)) (some (.int .i64 b)) none).run Tryz.prog wx = .ok (.string (s.extract a b)) wx := slice_mid s a b h h2 wx
set_option maxHeartbeats 4000000 in
set_option maxRecDepth 100000 in
theorem piece_decl (s : ByteArray) (p : Nat) (w : World) (hs : s.size ≤ 65536) (hp : p < s.size) (h0 : p = 0) (hx : Lib.hasPrefix (s.data.toList.drop p) [60, 63, 120, 109, 108] = true) :
    Calls Tryz.prog 16 #[.string s, .int .i64 p] w (RPiece (pieceR (decide (p = 0)) (s.data.toList.drop p)) p w) := by
  have hlen : s.data.toList.length = s.size := (Lib.size_eq s).symm
  have Hlen := Lib.hid hlen
  clear hlen
  have hN0 := fresh_new w
  have hB0 := fresh_bel w
  have hz0 := fresh_size w
  have hA := (rfl : pieceR (decide (p = 0)) (s.data.toList.drop p) = pieceR (decide (p = 0)) (s.data.toList.drop p))
  conv at hA => rhs; unfold pieceR
  generalize pieceR (decide (p = 0)) (s.data.toList.drop p) = res at hA
  rw [if_pos ⟨by simpa using h0, hx⟩] at hA
  unfold declP at hA
  rw [if_neg (by simp)] at hA
  have hp0 : ((p : Int) == 0) = true := by rw [beq_iff_eq]; omega
  have b0 := begins_zero s p [60, 63, 120, 109, 108] hs h0 (by decide)
  have b1 := begins_zero s p plainD hs h0 (by decide)
  have b2 := begins_zero s p encodedD hs h0 (by decide)
  unfold plainD encodedD at *
  rw [hx] at b0
  clear hx
  cases h1 : Lib.hasPrefix (s.data.toList.drop p) [60, 63, 120, 109, 108, 32, 118, 101, 114, 115, 105, 111, 110, 61, 34, 49, 46, 48, 34, 63, 62] with
  | true =>
    rw [if_pos h1] at hA
    rw [h1] at b1
    have HA := Lib.hid hA
    clear hA h1 b2
    have hpn : ((p + 21 : Nat) : Int) = 21 := by omega
    have Hpn := Lib.hid hpn
    clear hpn h0
    obtain ⟨c0, c1, c2, c3, c4, ff⟩ := hN0.cell
    have f0 := ff 0
    have f1 := ff 1
    have f2 := ff 2
    have f3 := ff 3
    have f4 := ff 4
    clear ff
    go_enter Tryz.func16, Tryz.ntmps16
    go_wp2_with fail
    refine (b0 _).mono ?_
    rintro e w' ⟨rfl, rfl⟩
    clear b0
    go_wp2_with fail
    refine (b1 _).mono ?_
    rintro e w' ⟨rfl, rfl⟩
    clear b1
    go_wp2_with fail
    refine bodyPost_ret (v := .tuple #[.agg #[.int .i64 1, .string ⟨#[]⟩, .string ⟨#[]⟩, .slice none 0 0, .bool false], .int .i64 21]) (by first | (simp [results, Tryz.results16, go_sem]; done) | simp [results, Tryz.results16, go_sem, c0, c1, c2, c3, c4]) rfl (RPiece.yes (av := .slice none 0 0) HA.out ?_ (AttrsAt.none _ _) (by first | exact hB0 | exact (Below.refl _ w).alloc (Nat.le_refl _) _ | exact below_set5 hB0 (Nat.le_refl _) _ _ _ _ _))
    rw [Hpn.out]
    rfl
  | false =>
    rw [if_neg (by rw [h1]; simp)] at hA
    rw [h1] at b1
    clear h1
    cases h2 : Lib.hasPrefix (s.data.toList.drop p) [60, 63, 120, 109, 108, 32, 118, 101, 114, 115, 105, 111, 110, 61, 34, 49, 46, 48, 34, 32, 101, 110, 99, 111, 100, 105, 110, 103, 61, 34, 85, 84, 70, 45, 56, 34, 63, 62] with
    | true =>
      rw [if_pos h2] at hA
      rw [h2] at b2
      have HA := Lib.hid hA
      clear hA h2
      have hpn : ((p + 38 : Nat) : Int) = 38 := by omega
      have Hpn := Lib.hid hpn
      clear hpn h0
      obtain ⟨c0, c1, c2, c3, c4, ff⟩ := hN0.cell
      have f0 := ff 0
      have f1 := ff 1
      have f2 := ff 2
      have f3 := ff 3
      have f4 := ff 4
      clear ff
      go_enter Tryz.func16, Tryz.ntmps16
      go_wp2_with fail
      refine (b0 _).mono ?_
      rintro e w' ⟨rfl, rfl⟩
      clear b0
      go_wp2_with fail
      refine (b1 _).mono ?_
      rintro e w' ⟨rfl, rfl⟩
      clear b1
      go_wp2_with fail
      refine (b2 _).mono ?_
      rintro e w' ⟨rfl, rfl⟩
      clear b2
      go_wp2_with fail
      refine bodyPost_ret (v := .tuple #[.agg #[.int .i64 1, .string ⟨#[]⟩, .string ⟨#[85, 84, 70, 45, 56]⟩, .slice none 0 0, .bool false], .int .i64 38]) (by first | (simp [results, Tryz.results16, go_sem]; done) | simp [results, Tryz.results16, go_sem, c0, c1, c2, c3, c4]) rfl (RPiece.yes (av := .slice none 0 0) HA.out ?_ (AttrsAt.none _ _) (by first | exact hB0 | exact (Below.refl _ w).alloc (Nat.le_refl _) _ | exact below_set5 hB0 (Nat.le_refl _) _ _ _ _ _))
      rw [Hpn.out]
      rfl
    | false =>
      rw [if_neg (by rw [h2]; simp)] at hA
      rw [h2] at b2
      have HA := Lib.hid hA
      clear hA h2 h0
      obtain ⟨c0, c1, c2, c3, c4, ff⟩ := hN0.cell
      have f0 := ff 0
      have f1 := ff 1
      have f2 := ff 2
      have f3 := ff 3
      have f4 := ff 4
      clear ff
      go_enter Tryz.func16, Tryz.ntmps16
      go_wp2_with fail
      refine (b0 _).mono ?_
      rintro e w' ⟨rfl, rfl⟩
      clear b0
      go_wp2_with fail
      refine (b1 _).mono ?_
      rintro e w' ⟨rfl, rfl⟩
      clear b1
      go_wp2_with fail
      refine (b2 _).mono ?_
      rintro e w' ⟨rfl, rfl⟩
      clear b2
      go_wp2_with fail
      exact bodyPost_ret (v := .tuple #[.agg #[.int .i64 0, .string ⟨#[]⟩, .string ⟨#[]⟩, .slice none 0 0, .bool false], .int .i64 (-1)]) (by first | (simp [results, Tryz.results16, go_sem]; done) | simp [results, Tryz.results16, go_sem, c0, c1, c2, c3, c4]) rfl ((RPiece.no HA.out _ _ _ _ rfl (by first | exact hB0 | exact (Below.refl _ w).alloc (Nat.le_refl _) _ | exact below_set5 hB0 (Nat.le_refl _) _ _ _ _ _)))
set_option maxHeartbeats 4000000 in
set_option maxRecDepth 100000 in
theorem piece_comment (s : ByteArray) (p : Nat) (w : World) (hs : s.size ≤ 65536) (hp : p < s.size) (hx : p = 0 → Lib.hasPrefix (s.data.toList.drop p) [60, 63, 120, 109, 108] = false) (hc : Lib.hasPrefix (s.data.toList.drop p) [60, 33, 45, 45] = true) :
    Calls Tryz.prog 16 #[.string s, .int .i64 p] w (RPiece (pieceR (decide (p = 0)) (s.data.toList.drop p)) p w) := by
  have hlen : s.data.toList.length = s.size := (Lib.size_eq s).symm
  have Hlen := Lib.hid hlen
  clear hlen
  have hN0 := fresh_new w
  have hB0 := fresh_bel w
  have hz0 := fresh_size w
  have hA := (rfl : pieceR (decide (p = 0)) (s.data.toList.drop p) = pieceR (decide (p = 0)) (s.data.toList.drop p))
  conv at hA => rhs; unfold pieceR
  generalize pieceR (decide (p = 0)) (s.data.toList.drop p) = res at hA
  rw [if_neg (fun e => by rw [hx (by simpa using e.1)] at e; simp at e)] at hA
  rw [if_pos hc] at hA
  have b1 := begins_at s p [60, 33, 45, 45] hs (by omega) (by decide)
  rw [hc] at b1
  have hroom := prefix_room hc (by simp)
  simp only [List.length_cons, List.length_nil] at hroom
  clear hc
  unfold commentP at hA
  simp only [List.drop_drop] at hA
  have hfd : ∀ w, Calls Tryz.prog 30 #[.string s, .int .i64 ((p : Int) + 4), .string ⟨#[45, 45]⟩] w fun e w' => e = .returned (.int .i64 (findZ s.data.toList [45, 45] (p + 4))) ∧ w = w' := fun w => find_at s (p + 4) [45, 45] hs (by omega) (by decide) w
  have hge := Lib.index_ge (s.data.toList.drop (p + 4)) [45, 45]
  have hro := Lib.index_room (s.data.toList.drop (p + 4)) [45, 45]
  have hat := fun i (h : Lib.index (s.data.toList.drop (p + 4)) [45, 45] = (i : Nat)) => index_at h
  unfold findZ at hfd
  rw [List.length_drop, Hlen.out] at hro
  simp only [List.length_cons, List.length_nil] at hro
  generalize Lib.index (s.data.toList.drop (p + 4)) [45, 45] = ix at hA hfd hge hro hat
  by_cases hix : ix = -1
  · rw [if_pos (by omega)] at hA
    rw [if_pos hix] at hfd
    have HA := Lib.hid hA
    clear hA hix hge hro hat
    rcases (by omega : p = 0 ∨ p ≠ 0) with h0 | h0
    · have hp0 : ((p : Int) == 0) = true := by rw [beq_iff_eq]; omega
      have b0 := begins_zero s p [60, 63, 120, 109, 108] hs h0 (by decide)
      rw [hx h0] at b0
      clear h0 hx
      obtain ⟨c0, c1, c2, c3, c4, ff⟩ := hN0.cell
      have f0 := ff 0
      have f1 := ff 1
      have f2 := ff 2
      have f3 := ff 3
      have f4 := ff 4
      clear ff
      go_enter Tryz.func16, Tryz.ntmps16
      go_wp2_with fail
      refine (b0 _).mono ?_
      rintro e w' ⟨rfl, rfl⟩
      clear b0
      go_wp2_with fail
      refine (b1 _).mono ?_
      rintro e w' ⟨rfl, rfl⟩
      clear b1
      go_wp2_with fail
      refine (hfd _).mono ?_
      rintro e w' ⟨rfl, rfl⟩
      clear hfd
      go_wp2_with fail
      exact bodyPost_ret (v := .tuple #[.agg #[.int .i64 0, .string ⟨#[]⟩, .string ⟨#[]⟩, .slice none 0 0, .bool false], .int .i64 (-1)]) (by first | (simp [results, Tryz.results16, go_sem]; done) | simp [results, Tryz.results16, go_sem, c0, c1, c2, c3, c4]) rfl ((RPiece.no HA.out _ _ _ _ rfl (by first | exact hB0 | exact (Below.refl _ w).alloc (Nat.le_refl _) _ | exact below_set5 hB0 (Nat.le_refl _) _ _ _ _ _)))
    · have hp0 : ((p : Int) == 0) = false := by rw [beq_eq_false_iff_ne]; omega
      clear h0 hx
      obtain ⟨c0, c1, c2, c3, c4, ff⟩ := hN0.cell
      have f0 := ff 0
      have f1 := ff 1
      have f2 := ff 2
      have f3 := ff 3
      have f4 := ff 4
      clear ff
      go_enter Tryz.func16, Tryz.ntmps16
      go_wp2_with fail
      refine (b1 _).mono ?_
      rintro e w' ⟨rfl, rfl⟩
      clear b1
      go_wp2_with fail
      refine (hfd _).mono ?_
      rintro e w' ⟨rfl, rfl⟩
      clear hfd
      go_wp2_with fail
      exact bodyPost_ret (v := .tuple #[.agg #[.int .i64 0, .string ⟨#[]⟩, .string ⟨#[]⟩, .slice none 0 0, .bool false], .int .i64 (-1)]) (by first | (simp [results, Tryz.results16, go_sem]; done) | simp [results, Tryz.results16, go_sem, c0, c1, c2, c3, c4]) rfl ((RPiece.no HA.out _ _ _ _ rfl (by first | exact hB0 | exact (Below.refl _ w).alloc (Nat.le_refl _) _ | exact below_set5 hB0 (Nat.le_refl _) _ _ _ _ _)))
  · have hro := hro (by omega)
    obtain ⟨i, rfl⟩ : ∃ i : Nat, ix = i := ⟨ix.toNat, by omega⟩
    rw [if_neg (by omega), Int.toNat_natCast] at hA
    rw [if_neg hix] at hfd
    have hat := hat i rfl
    rw [List.drop_drop] at hat
    obtain ⟨E, hE⟩ : ∃ E, E = p + 4 + i := ⟨_, rfl⟩
    rw [show p + (4 + i + 2) = E + 2 by omega] at hA
    rw [← hE] at hat
    have hfd' : ∀ w, Calls Tryz.prog 30 #[.string s, .int .i64 ((p : Int) + 4), .string ⟨#[45, 45]⟩] w fun e w' => e = .returned (.int .i64 (E : Int)) ∧ w = w' := fun w => by
      have := hfd w
      rwa [show (((p + 4 : Nat) : Int) + (i : Int)) = (E : Int) by omega] at this
    have hb3 := begins_at s E [45, 45, 62] hs (by omega) (by decide)
    rw [pre_more hat, List.drop_drop] at hb3
    have hcut : ∀ wx, (Instr.slice 9 (.string s) (some (.int .i64 ((p : Int) + 4))) (some (.int .i64 (E : Int))) none).run Tryz.prog wx = .ok (.string (s.extract (p + 4) E)) wx := fun wx => slice_mid s (p + 4) E (by omega) (by omega) wx
    have hex : s.extract (p + 4) E = ⟨((s.data.toList.drop (p + 4)).take i).toArray⟩ := by rw [Lib.extract_eq, show E - (p + 4) = i by omega]
    rw [hex] at hcut
    have hE1 := Nat.le_of_eq hE
    have hE2 := Nat.le_of_eq hE.symm
    have hE0 : decide ((E : Int) < 0) = false := by rw [decide_eq_false_iff_not]; omega
    have HE := Lib.hid hE
    clear hfd hge hat hix hE hex
    generalize (s.data.toList.drop (p + 4)).take i = tx at hA hcut
    cases h3 : Lib.hasPrefix (s.data.toList.drop (E + 2)) [62] with
    | false =>
      rw [if_pos h3] at hA
      rw [h3] at hb3
      have HA := Lib.hid hA
      clear hA h3 hcut
      rcases (by omega : p = 0 ∨ p ≠ 0) with h0 | h0
      · have hp0 : ((p : Int) == 0) = true := by rw [beq_iff_eq]; omega
        have b0 := begins_zero s p [60, 63, 120, 109, 108] hs h0 (by decide)
        rw [hx h0] at b0
        clear h0 hx
        obtain ⟨c0, c1, c2, c3, c4, ff⟩ := hN0.cell
        have f0 := ff 0
        have f1 := ff 1
        have f2 := ff 2
        have f3 := ff 3
        have f4 := ff 4
        clear ff
        go_enter Tryz.func16, Tryz.ntmps16
        go_wp2_with fail
        refine (b0 _).mono ?_
        rintro e w' ⟨rfl, rfl⟩
        clear b0
        go_wp2_with fail
        refine (b1 _).mono ?_
        rintro e w' ⟨rfl, rfl⟩
        clear b1
        go_wp2_with fail
        refine (hfd' _).mono ?_
        rintro e w' ⟨rfl, rfl⟩
        clear hfd'
        go_wp2_with fail
        refine (hb3 _).mono ?_
        rintro e w' ⟨rfl, rfl⟩
        clear hb3
        go_wp2_with fail
        exact bodyPost_ret (v := .tuple #[.agg #[.int .i64 0, .string ⟨#[]⟩, .string ⟨#[]⟩, .slice none 0 0, .bool false], .int .i64 (-1)]) (by first | (simp [results, Tryz.results16, go_sem]; done) | simp [results, Tryz.results16, go_sem, c0, c1, c2, c3, c4]) rfl ((RPiece.no HA.out _ _ _ _ rfl (by first | exact hB0 | exact (Below.refl _ w).alloc (Nat.le_refl _) _ | exact below_set5 hB0 (Nat.le_refl _) _ _ _ _ _)))
      · have hp0 : ((p : Int) == 0) = false := by rw [beq_eq_false_iff_ne]; omega
        clear h0 hx
        obtain ⟨c0, c1, c2, c3, c4, ff⟩ := hN0.cell
        have f0 := ff 0
        have f1 := ff 1
        have f2 := ff 2
        have f3 := ff 3
        have f4 := ff 4
        clear ff
        go_enter Tryz.func16, Tryz.ntmps16
        go_wp2_with fail
        refine (b1 _).mono ?_
        rintro e w' ⟨rfl, rfl⟩
        clear b1
        go_wp2_with fail
        refine (hfd' _).mono ?_
        rintro e w' ⟨rfl, rfl⟩
        clear hfd'
        go_wp2_with fail
        refine (hb3 _).mono ?_
        rintro e w' ⟨rfl, rfl⟩
        clear hb3
        go_wp2_with fail
        exact bodyPost_ret (v := .tuple #[.agg #[.int .i64 0, .string ⟨#[]⟩, .string ⟨#[]⟩, .slice none 0 0, .bool false], .int .i64 (-1)]) (by first | (simp [results, Tryz.results16, go_sem]; done) | simp [results, Tryz.results16, go_sem, c0, c1, c2, c3, c4]) rfl ((RPiece.no HA.out _ _ _ _ rfl (by first | exact hB0 | exact (Below.refl _ w).alloc (Nat.le_refl _) _ | exact below_set5 hB0 (Nat.le_refl _) _ _ _ _ _)))
    | true =>
      rw [if_neg (by rw [h3]; simp)] at hA
      have hr3 := prefix_room h3 (by simp)
      simp only [List.length_cons, List.length_nil] at hr3
      rw [h3] at hb3
      have HA := Lib.hid hA
      clear hA h3
      rcases (by omega : p = 0 ∨ p ≠ 0) with h0 | h0
      · have hp0 : ((p : Int) == 0) = true := by rw [beq_iff_eq]; omega
        have b0 := begins_zero s p [60, 63, 120, 109, 108] hs h0 (by decide)
        rw [hx h0] at b0
        clear h0 hx
        obtain ⟨c0, c1, c2, c3, c4, ff⟩ := hN0.cell
        have f0 := ff 0
        have f1 := ff 1
        have f2 := ff 2
        have f3 := ff 3
        have f4 := ff 4
        clear ff
        go_enter Tryz.func16, Tryz.ntmps16
        go_wp2_with fail
        refine (b0 _).mono ?_
        rintro e w' ⟨rfl, rfl⟩
        clear b0
        go_wp2_with fail
        refine (b1 _).mono ?_
        rintro e w' ⟨rfl, rfl⟩
        clear b1
        go_wp2_with fail
        refine (hfd' _).mono ?_
        rintro e w' ⟨rfl, rfl⟩
        clear hfd'
        go_wp2_with fail
        refine (hb3 _).mono ?_
        rintro e w' ⟨rfl, rfl⟩
        clear hb3
        go_wp2_with fail
        refine bodyPost_ret (v := .tuple #[.agg #[.int .i64 5, .string ⟨#[]⟩, .string ⟨tx.toArray⟩, .slice none 0 0, .bool false], .int .i64 ((E : Int) + 3)]) (by first | (simp [results, Tryz.results16, go_sem]; done) | simp [results, Tryz.results16, go_sem, c0, c1, c2, c3, c4]) rfl (RPiece.yes (av := .slice none 0 0) HA.out ?_ (AttrsAt.none _ _) (by first | exact hB0 | exact (Below.refl _ w).alloc (Nat.le_refl _) _ | exact below_set5 hB0 (Nat.le_refl _) _ _ _ _ _))
        rw [show ((p + (4 + i + 2 + 1) : Nat) : Int) = (E : Int) + 3 from by omega]
        rfl
      · have hp0 : ((p : Int) == 0) = false := by rw [beq_eq_false_iff_ne]; omega
        clear h0 hx
        obtain ⟨c0, c1, c2, c3, c4, ff⟩ := hN0.cell
        have f0 := ff 0
        have f1 := ff 1
        have f2 := ff 2
        have f3 := ff 3
        have f4 := ff 4
        clear ff
        go_enter Tryz.func16, Tryz.ntmps16
        go_wp2_with fail
        refine (b1 _).mono ?_
        rintro e w' ⟨rfl, rfl⟩
        clear b1
        go_wp2_with fail
        refine (hfd' _).mono ?_
        rintro e w' ⟨rfl, rfl⟩
        clear hfd'
        go_wp2_with fail
        refine (hb3 _).mono ?_
        rintro e w' ⟨rfl, rfl⟩
        clear hb3
        go_wp2_with fail
        refine bodyPost_ret (v := .tuple #[.agg #[.int .i64 5, .string ⟨#[]⟩, .string ⟨tx.toArray⟩, .slice none 0 0, .bool false], .int .i64 ((E : Int) + 3)]) (by first | (simp [results, Tryz.results16, go_sem]; done) | simp [results, Tryz.results16, go_sem, c0, c1, c2, c3, c4]) rfl (RPiece.yes (av := .slice none 0 0) HA.out ?_ (AttrsAt.none _ _) (by first | exact hB0 | exact (Below.refl _ w).alloc (Nat.le_refl _) _ | exact below_set5 hB0 (Nat.le_refl _) _ _ _ _ _))
        rw [show ((p + (4 + i + 2 + 1) : Nat) : Int) = (E : Int) + 3 from by omega]
        rfl
set_option maxHeartbeats 4000000 in
set_option maxRecDepth 100000 in
theorem piece_data (s : ByteArray) (p : Nat) (w : World) (hs : s.size ≤ 65536) (hp : p < s.size) (hx : p = 0 → Lib.hasPrefix (s.data.toList.drop p) [60, 63, 120, 109, 108] = false) (hc : Lib.hasPrefix (s.data.toList.drop p) [60, 33, 45, 45] = false) (hd : Lib.hasPrefix (s.data.toList.drop p) [60, 33, 91, 67, 68, 65, 84, 65, 91] = true) :
    Calls Tryz.prog 16 #[.string s, .int .i64 p] w (RPiece (pieceR (decide (p = 0)) (s.data.toList.drop p)) p w) := by
  have hlen : s.data.toList.length = s.size := (Lib.size_eq s).symm
  have Hlen := Lib.hid hlen
  clear hlen
  have hN0 := fresh_new w
  have hB0 := fresh_bel w
  have hz0 := fresh_size w
  have hA := (rfl : pieceR (decide (p = 0)) (s.data.toList.drop p) = pieceR (decide (p = 0)) (s.data.toList.drop p))
  conv at hA => rhs; unfold pieceR
  generalize pieceR (decide (p = 0)) (s.data.toList.drop p) = res at hA
  rw [if_neg (fun e => by rw [hx (by simpa using e.1)] at e; simp at e)] at hA
  rw [if_neg (by rw [hc]; simp)] at hA
  rw [if_pos hd] at hA
  have b1 := begins_at s p [60, 33, 45, 45] hs (by omega) (by decide)
  rw [hc] at b1
  have b2 := begins_at s p [60, 33, 91, 67, 68, 65, 84, 65, 91] hs (by omega) (by decide)
  rw [hd] at b2
  have hroom := prefix_room hd (by simp)
  simp only [List.length_cons, List.length_nil] at hroom
  clear hc hd
  unfold dataP at hA
  simp only [List.drop_drop] at hA
  have hfd : ∀ w, Calls Tryz.prog 30 #[.string s, .int .i64 ((p : Int) + 9), .string ⟨#[93, 93, 62]⟩] w fun e w' => e = .returned (.int .i64 (findZ s.data.toList [93, 93, 62] (p + 9))) ∧ w = w' := fun w => find_at s (p + 9) [93, 93, 62] hs (by omega) (by decide) w
  have hge := Lib.index_ge (s.data.toList.drop (p + 9)) [93, 93, 62]
  have hro := Lib.index_room (s.data.toList.drop (p + 9)) [93, 93, 62]
  unfold findZ at hfd
  rw [List.length_drop, Hlen.out] at hro
  simp only [List.length_cons, List.length_nil] at hro
  generalize Lib.index (s.data.toList.drop (p + 9)) [93, 93, 62] = ix at hA hfd hge hro
  by_cases hix : ix = -1
  · rw [if_pos (by omega)] at hA
    rw [if_pos hix] at hfd
    have HA := Lib.hid hA
    clear hA hix hge hro
    rcases (by omega : p = 0 ∨ p ≠ 0) with h0 | h0
    · have hp0 : ((p : Int) == 0) = true := by rw [beq_iff_eq]; omega
      have b0 := begins_zero s p [60, 63, 120, 109, 108] hs h0 (by decide)
      rw [hx h0] at b0
      clear h0 hx
      obtain ⟨c0, c1, c2, c3, c4, ff⟩ := hN0.cell
      have f0 := ff 0
      have f1 := ff 1
      have f2 := ff 2
      have f3 := ff 3
      have f4 := ff 4
      clear ff
      go_enter Tryz.func16, Tryz.ntmps16
      go_wp2_with fail
      refine (b0 _).mono ?_
      rintro e w' ⟨rfl, rfl⟩
      clear b0
      go_wp2_with fail
      refine (b1 _).mono ?_
      rintro e w' ⟨rfl, rfl⟩
      clear b1
      go_wp2_with fail
      refine (b2 _).mono ?_
      rintro e w' ⟨rfl, rfl⟩
      clear b2
      go_wp2_with fail
      refine (hfd _).mono ?_
      rintro e w' ⟨rfl, rfl⟩
      clear hfd
      go_wp2_with fail
      exact bodyPost_ret (v := .tuple #[.agg #[.int .i64 0, .string ⟨#[]⟩, .string ⟨#[]⟩, .slice none 0 0, .bool false], .int .i64 (-1)]) (by first | (simp [results, Tryz.results16, go_sem]; done) | simp [results, Tryz.results16, go_sem, c0, c1, c2, c3, c4]) rfl ((RPiece.no HA.out _ _ _ _ rfl (by first | exact hB0 | exact (Below.refl _ w).alloc (Nat.le_refl _) _ | exact below_set5 hB0 (Nat.le_refl _) _ _ _ _ _)))
    · have hp0 : ((p : Int) == 0) = false := by rw [beq_eq_false_iff_ne]; omega
      clear h0 hx
      obtain ⟨c0, c1, c2, c3, c4, ff⟩ := hN0.cell
      have f0 := ff 0
      have f1 := ff 1
      have f2 := ff 2
      have f3 := ff 3
      have f4 := ff 4
      clear ff
      go_enter Tryz.func16, Tryz.ntmps16
      go_wp2_with fail
      refine (b1 _).mono ?_
      rintro e w' ⟨rfl, rfl⟩
      clear b1
      go_wp2_with fail
      refine (b2 _).mono ?_
      rintro e w' ⟨rfl, rfl⟩
      clear b2
      go_wp2_with fail
      refine (hfd _).mono ?_
      rintro e w' ⟨rfl, rfl⟩
      clear hfd
      go_wp2_with fail
      exact bodyPost_ret (v := .tuple #[.agg #[.int .i64 0, .string ⟨#[]⟩, .string ⟨#[]⟩, .slice none 0 0, .bool false], .int .i64 (-1)]) (by first | (simp [results, Tryz.results16, go_sem]; done) | simp [results, Tryz.results16, go_sem, c0, c1, c2, c3, c4]) rfl ((RPiece.no HA.out _ _ _ _ rfl (by first | exact hB0 | exact (Below.refl _ w).alloc (Nat.le_refl _) _ | exact below_set5 hB0 (Nat.le_refl _) _ _ _ _ _)))
  · have hro := hro (by omega)
    obtain ⟨i, rfl⟩ : ∃ i : Nat, ix = i := ⟨ix.toNat, by omega⟩
    rw [if_neg (by omega), Int.toNat_natCast] at hA
    rw [if_neg hix] at hfd
    obtain ⟨E, hE⟩ : ∃ E, E = p + 9 + i := ⟨_, rfl⟩
    have hfd' : ∀ w, Calls Tryz.prog 30 #[.string s, .int .i64 ((p : Int) + 9), .string ⟨#[93, 93, 62]⟩] w fun e w' => e = .returned (.int .i64 (E : Int)) ∧ w = w' := fun w => by
      have := hfd w
      rwa [show (((p + 9 : Nat) : Int) + (i : Int)) = (E : Int) by omega] at this
    have hcut : ∀ wx, (Instr.slice 9 (.string s) (some (.int .i64 ((p : Int) + 9))) (some (.int .i64 (E : Int))) none).run Tryz.prog wx = .ok (.string (s.extract (p + 9) E)) wx := fun wx => slice_mid s (p + 9) E (by omega) (by omega) wx
    have hex : s.extract (p + 9) E = ⟨((s.data.toList.drop (p + 9)).take i).toArray⟩ := by rw [Lib.extract_eq, show E - (p + 9) = i by omega]
    rw [hex] at hcut
    have hE1 := Nat.le_of_eq hE
    have hE2 := Nat.le_of_eq hE.symm
    have hE0 : decide ((E : Int) < 0) = false := by rw [decide_eq_false_iff_not]; omega
    have HE := Lib.hid hE
    clear hfd hge hix hE hex
    generalize (s.data.toList.drop (p + 9)).take i = tx at hA hcut
    have HA := Lib.hid hA
    clear hA
    rcases (by omega : p = 0 ∨ p ≠ 0) with h0 | h0
    · have hp0 : ((p : Int) == 0) = true := by rw [beq_iff_eq]; omega
      have b0 := begins_zero s p [60, 63, 120, 109, 108] hs h0 (by decide)
      rw [hx h0] at b0
      clear h0 hx
      obtain ⟨c0, c1, c2, c3, c4, ff⟩ := hN0.cell
      have f0 := ff 0
      have f1 := ff 1
      have f2 := ff 2
      have f3 := ff 3
      have f4 := ff 4
      clear ff
      go_enter Tryz.func16, Tryz.ntmps16
      go_wp2_with fail
      refine (b0 _).mono ?_
      rintro e w' ⟨rfl, rfl⟩
      clear b0
      go_wp2_with fail
      refine (b1 _).mono ?_
      rintro e w' ⟨rfl, rfl⟩
      clear b1
      go_wp2_with fail
      refine (b2 _).mono ?_
      rintro e w' ⟨rfl, rfl⟩
      clear b2
      go_wp2_with fail
      refine (hfd' _).mono ?_
      rintro e w' ⟨rfl, rfl⟩
      clear hfd'
      go_wp2_with fail
      refine bodyPost_ret (v := .tuple #[.agg #[.int .i64 4, .string ⟨#[]⟩, .string ⟨tx.toArray⟩, .slice none 0 0, .bool false], .int .i64 ((E : Int) + 3)]) (by first | (simp [results, Tryz.results16, go_sem]; done) | simp [results, Tryz.results16, go_sem, c0, c1, c2, c3, c4]) rfl (RPiece.yes (av := .slice none 0 0) HA.out ?_ (AttrsAt.none _ _) (by first | exact hB0 | exact (Below.refl _ w).alloc (Nat.le_refl _) _ | exact below_set5 hB0 (Nat.le_refl _) _ _ _ _ _))
      rw [show ((p + (9 + i + 3) : Nat) : Int) = (E : Int) + 3 from by omega]
      rfl
    · have hp0 : ((p : Int) == 0) = false := by rw [beq_eq_false_iff_ne]; omega
      clear h0 hx
      obtain ⟨c0, c1, c2, c3, c4, ff⟩ := hN0.cell
      have f0 := ff 0
      have f1 := ff 1
      have f2 := ff 2
      have f3 := ff 3
      have f4 := ff 4
      clear ff
      go_enter Tryz.func16, Tryz.ntmps16
      go_wp2_with fail
      refine (b1 _).mono ?_
      rintro e w' ⟨rfl, rfl⟩
      clear b1
      go_wp2_with fail
      refine (b2 _).mono ?_
      rintro e w' ⟨rfl, rfl⟩
      clear b2
      go_wp2_with fail
      refine (hfd' _).mono ?_
      rintro e w' ⟨rfl, rfl⟩
      clear hfd'
      go_wp2_with fail
      refine bodyPost_ret (v := .tuple #[.agg #[.int .i64 4, .string ⟨#[]⟩, .string ⟨tx.toArray⟩, .slice none 0 0, .bool false], .int .i64 ((E : Int) + 3)]) (by first | (simp [results, Tryz.results16, go_sem]; done) | simp [results, Tryz.results16, go_sem, c0, c1, c2, c3, c4]) rfl (RPiece.yes (av := .slice none 0 0) HA.out ?_ (AttrsAt.none _ _) (by first | exact hB0 | exact (Below.refl _ w).alloc (Nat.le_refl _) _ | exact below_set5 hB0 (Nat.le_refl _) _ _ _ _ _))
      rw [show ((p + (9 + i + 3) : Nat) : Int) = (E : Int) + 3 from by omega]
      rfl
set_option maxHeartbeats 4000000 in
set_option maxRecDepth 100000 in
theorem piece_end (s : ByteArray) (p : Nat) (w : World) (hs : s.size ≤ 65536) (hp : p < s.size) (hx : p = 0 → Lib.hasPrefix (s.data.toList.drop p) [60, 63, 120, 109, 108] = false) (hc : Lib.hasPrefix (s.data.toList.drop p) [60, 33, 45, 45] = false) (hd : Lib.hasPrefix (s.data.toList.drop p) [60, 33, 91, 67, 68, 65, 84, 65, 91] = false) (he : Lib.hasPrefix (s.data.toList.drop p) [60, 47] = true) :
    Calls Tryz.prog 16 #[.string s, .int .i64 p] w (RPiece (pieceR (decide (p = 0)) (s.data.toList.drop p)) p w) := by
  have hlen : s.data.toList.length = s.size := (Lib.size_eq s).symm
  have Hlen := Lib.hid hlen
  clear hlen
  have hN0 := fresh_new w
  have hB0 := fresh_bel w
  have hz0 := fresh_size w
  have hA := (rfl : pieceR (decide (p = 0)) (s.data.toList.drop p) = pieceR (decide (p = 0)) (s.data.toList.drop p))
  conv at hA => rhs; unfold pieceR
  generalize pieceR (decide (p = 0)) (s.data.toList.drop p) = res at hA
  rw [if_neg (fun e => by rw [hx (by simpa using e.1)] at e; simp at e)] at hA
  rw [if_neg (by rw [hc]; simp)] at hA
  rw [if_neg (by rw [hd]; simp)] at hA
  rw [if_pos he] at hA
  have b1 := begins_at s p [60, 33, 45, 45] hs (by omega) (by decide)
  rw [hc] at b1
  have b2 := begins_at s p [60, 33, 91, 67, 68, 65, 84, 65, 91] hs (by omega) (by decide)
  rw [hd] at b2
  have b3 := begins_at s p [60, 47] hs (by omega) (by decide)
  rw [he] at b3
  have hroom := prefix_room he (by simp)
  simp only [List.length_cons, List.length_nil] at hroom
  clear hc hd he
  unfold endP at hA
  simp only [List.drop_drop] at hA
  have hnm : ∀ w, Calls Tryz.prog 31 #[.string s, .int .i64 ((p : Int) + 2)] w fun e w' => e = .returned (.int .i64 (if isName ((s.data.toList.drop (p + 2)).take (partN (s.data.toList.drop (p + 2)))) = true then ((p + 2 + partN (s.data.toList.drop (p + 2)) : Nat) : Int) else -1)) ∧ w = w' := fun w => rName_any s (p + 2) w (by omega) (by omega)
  have hpn := partN_le (s.data.toList.drop (p + 2))
  rw [List.length_drop, Hlen.out] at hpn
  generalize partN (s.data.toList.drop (p + 2)) = n at hA hnm hpn
  obtain ⟨E, hE⟩ : ∃ E, E = p + 2 + n := ⟨_, rfl⟩
  have hcut : ∀ wx, (Instr.slice 9 (.string s) (some (.int .i64 ((p : Int) + 2))) (some (.int .i64 (E : Int))) none).run Tryz.prog wx = .ok (.string (s.extract (p + 2) E)) wx := fun wx => slice_mid s (p + 2) E (by omega) (by omega) wx
  have hex : s.extract (p + 2) E = ⟨((s.data.toList.drop (p + 2)).take n).toArray⟩ := by rw [Lib.extract_eq, show E - (p + 2) = n by omega]
  rw [hex] at hcut
  clear hex
  rw [show p + (2 + n) = E by omega] at hA
  rw [← hE] at hnm
  generalize (s.data.toList.drop (p + 2)).take n = tx at hA hnm hcut
  cases hin : isName tx with
  | false =>
    rw [if_pos hin] at hA
    rw [hin] at hnm
    have HA := Lib.hid hA
    clear hA hin hcut hE
    rcases (by omega : p = 0 ∨ p ≠ 0) with h0 | h0
    · have hp0 : ((p : Int) == 0) = true := by rw [beq_iff_eq]; omega
      have b0 := begins_zero s p [60, 63, 120, 109, 108] hs h0 (by decide)
      rw [hx h0] at b0
      clear h0 hx
      obtain ⟨c0, c1, c2, c3, c4, ff⟩ := hN0.cell
      have f0 := ff 0
      have f1 := ff 1
      have f2 := ff 2
      have f3 := ff 3
      have f4 := ff 4
      clear ff
      go_enter Tryz.func16, Tryz.ntmps16
      go_wp2_with fail
      refine (b0 _).mono ?_
      rintro e w' ⟨rfl, rfl⟩
      clear b0
      go_wp2_with fail
      refine (b1 _).mono ?_
      rintro e w' ⟨rfl, rfl⟩
      clear b1
      go_wp2_with fail
      refine (b2 _).mono ?_
      rintro e w' ⟨rfl, rfl⟩
      clear b2
      go_wp2_with fail
      refine (b3 _).mono ?_
      rintro e w' ⟨rfl, rfl⟩
      clear b3
      go_wp2_with fail
      refine (hnm _).mono ?_
      rintro e w' ⟨rfl, rfl⟩
      clear hnm
      go_wp2_with fail
      exact bodyPost_ret (v := .tuple #[.agg #[.int .i64 0, .string ⟨#[]⟩, .string ⟨#[]⟩, .slice none 0 0, .bool false], .int .i64 (-1)]) (by first | (simp [results, Tryz.results16, go_sem]; done) | simp [results, Tryz.results16, go_sem, c0, c1, c2, c3, c4]) rfl ((RPiece.no HA.out _ _ _ _ rfl (by first | exact hB0 | exact (Below.refl _ w).alloc (Nat.le_refl _) _ | exact below_set5 hB0 (Nat.le_refl _) _ _ _ _ _)))
    · have hp0 : ((p : Int) == 0) = false := by rw [beq_eq_false_iff_ne]; omega
      clear h0 hx
      obtain ⟨c0, c1, c2, c3, c4, ff⟩ := hN0.cell
      have f0 := ff 0
      have f1 := ff 1
      have f2 := ff 2
      have f3 := ff 3
      have f4 := ff 4
      clear ff
      go_enter Tryz.func16, Tryz.ntmps16
      go_wp2_with fail
      refine (b1 _).mono ?_
      rintro e w' ⟨rfl, rfl⟩
      clear b1
      go_wp2_with fail
      refine (b2 _).mono ?_
      rintro e w' ⟨rfl, rfl⟩
      clear b2
      go_wp2_with fail
      refine (b3 _).mono ?_
      rintro e w' ⟨rfl, rfl⟩
      clear b3
      go_wp2_with fail
      refine (hnm _).mono ?_
      rintro e w' ⟨rfl, rfl⟩
      clear hnm
      go_wp2_with fail
      exact bodyPost_ret (v := .tuple #[.agg #[.int .i64 0, .string ⟨#[]⟩, .string ⟨#[]⟩, .slice none 0 0, .bool false], .int .i64 (-1)]) (by first | (simp [results, Tryz.results16, go_sem]; done) | simp [results, Tryz.results16, go_sem, c0, c1, c2, c3, c4]) rfl ((RPiece.no HA.out _ _ _ _ rfl (by first | exact hB0 | exact (Below.refl _ w).alloc (Nat.le_refl _) _ | exact below_set5 hB0 (Nat.le_refl _) _ _ _ _ _)))
  | true =>
    rw [if_neg (by rw [hin]; simp)] at hA
    rw [hin] at hnm
    simp only [if_true] at hnm
    have hE1 := Nat.le_of_eq hE
    have hE2 := Nat.le_of_eq hE.symm
    have hE0 : decide ((E : Int) < 0) = false := by rw [decide_eq_false_iff_not]; omega
    have hEs : E ≤ s.size := by omega
    clear hE hin
    have hbl := fun w => rBlanks_any s E w (by omega) hEs
    have hble := blanksN_le (s.data.toList.drop E)
    rw [List.length_drop, Hlen.out] at hble
    generalize blanksN (s.data.toList.drop E) = g at hA hbl hble
    obtain ⟨Q, hQ⟩ : ∃ Q, Q = E + g := ⟨_, rfl⟩
    rw [← hQ] at hbl
    rw [show p + (2 + n + g) = Q by omega] at hA
    have hQ1 := Nat.le_of_eq hQ
    have hQ2 := Nat.le_of_eq hQ.symm
    have b4 := begins_at s Q [62] hs (by omega) (by decide)
    have hbl2 := hbl
    have hw2 : IntKind.i64.wrap ((p : Int) + 2) = (p : Int) + 2 := IntWalk.i64_in _ (by omega)
    have hwQ : IntKind.i64.wrap ((Q : Int) + 1) = (Q : Int) + 1 := IntWalk.i64_in _ (by omega)
    clear hQ
    cases h3 : Lib.hasPrefix (s.data.toList.drop Q) [62] with
    | false =>
      rw [if_pos h3] at hA
      rw [h3] at b4
      have HA := Lib.hid hA
      clear hA h3 hcut hbl2 hw2 hwQ
      rcases (by omega : p = 0 ∨ p ≠ 0) with h0 | h0
      · have hp0 : ((p : Int) == 0) = true := by rw [beq_iff_eq]; omega
        have b0 := begins_zero s p [60, 63, 120, 109, 108] hs h0 (by decide)
        rw [hx h0] at b0
        clear h0 hx
        obtain ⟨c0, c1, c2, c3, c4, ff⟩ := hN0.cell
        have f0 := ff 0
        have f1 := ff 1
        have f2 := ff 2
        have f3 := ff 3
        have f4 := ff 4
        clear ff
        go_enter Tryz.func16, Tryz.ntmps16
        go_wp2_with fail
        refine (b0 _).mono ?_
        rintro e w' ⟨rfl, rfl⟩
        clear b0
        go_wp2_with fail
        refine (b1 _).mono ?_
        rintro e w' ⟨rfl, rfl⟩
        clear b1
        go_wp2_with fail
        refine (b2 _).mono ?_
        rintro e w' ⟨rfl, rfl⟩
        clear b2
        go_wp2_with fail
        refine (b3 _).mono ?_
        rintro e w' ⟨rfl, rfl⟩
        clear b3
        go_wp2_with fail
        refine (hnm _).mono ?_
        rintro e w' ⟨rfl, rfl⟩
        clear hnm
        go_wp2_with fail
        refine (hbl _).mono ?_
        rintro e w' ⟨rfl, rfl⟩
        clear hbl
        go_wp2_with fail
        refine (b4 _).mono ?_
        rintro e w' ⟨rfl, rfl⟩
        clear b4
        go_wp2_with fail
        exact bodyPost_ret (v := .tuple #[.agg #[.int .i64 0, .string ⟨#[]⟩, .string ⟨#[]⟩, .slice none 0 0, .bool false], .int .i64 (-1)]) (by first | (simp [results, Tryz.results16, go_sem]; done) | simp [results, Tryz.results16, go_sem, c0, c1, c2, c3, c4]) rfl ((RPiece.no HA.out _ _ _ _ rfl (by first | exact hB0 | exact (Below.refl _ w).alloc (Nat.le_refl _) _ | exact below_set5 hB0 (Nat.le_refl _) _ _ _ _ _)))
      · have hp0 : ((p : Int) == 0) = false := by rw [beq_eq_false_iff_ne]; omega
        clear h0 hx
        obtain ⟨c0, c1, c2, c3, c4, ff⟩ := hN0.cell
        have f0 := ff 0
        have f1 := ff 1
        have f2 := ff 2
        have f3 := ff 3
        have f4 := ff 4
        clear ff
        go_enter Tryz.func16, Tryz.ntmps16
        go_wp2_with fail
        refine (b1 _).mono ?_
        rintro e w' ⟨rfl, rfl⟩
        clear b1
        go_wp2_with fail
        refine (b2 _).mono ?_
        rintro e w' ⟨rfl, rfl⟩
        clear b2
        go_wp2_with fail
        refine (b3 _).mono ?_
        rintro e w' ⟨rfl, rfl⟩
        clear b3
        go_wp2_with fail
        refine (hnm _).mono ?_
        rintro e w' ⟨rfl, rfl⟩
        clear hnm
        go_wp2_with fail
        refine (hbl _).mono ?_
        rintro e w' ⟨rfl, rfl⟩
        clear hbl
        go_wp2_with fail
        refine (b4 _).mono ?_
        rintro e w' ⟨rfl, rfl⟩
        clear b4
        go_wp2_with fail
        exact bodyPost_ret (v := .tuple #[.agg #[.int .i64 0, .string ⟨#[]⟩, .string ⟨#[]⟩, .slice none 0 0, .bool false], .int .i64 (-1)]) (by first | (simp [results, Tryz.results16, go_sem]; done) | simp [results, Tryz.results16, go_sem, c0, c1, c2, c3, c4]) rfl ((RPiece.no HA.out _ _ _ _ rfl (by first | exact hB0 | exact (Below.refl _ w).alloc (Nat.le_refl _) _ | exact below_set5 hB0 (Nat.le_refl _) _ _ _ _ _)))
    | true =>
      rw [if_neg (by rw [h3]; simp)] at hA
      have hr3 := prefix_room h3 (by simp)
      simp only [List.length_cons, List.length_nil] at hr3
      rw [h3] at b4
      have HA := Lib.hid hA
      clear hA h3
      rcases (by omega : p = 0 ∨ p ≠ 0) with h0 | h0
      · have hp0 : ((p : Int) == 0) = true := by rw [beq_iff_eq]; omega
        have b0 := begins_zero s p [60, 63, 120, 109, 108] hs h0 (by decide)
        rw [hx h0] at b0
        clear h0 hx
        obtain ⟨c0, c1, c2, c3, c4, ff⟩ := hN0.cell
        have f0 := ff 0
        have f1 := ff 1
        have f2 := ff 2
        have f3 := ff 3
        have f4 := ff 4
        clear ff
        go_enter Tryz.func16, Tryz.ntmps16
        go_wp2_with fail
        refine (b0 _).mono ?_
        rintro e w' ⟨rfl, rfl⟩
        clear b0
        go_wp2_with fail
        refine (b1 _).mono ?_
        rintro e w' ⟨rfl, rfl⟩
        clear b1
        go_wp2_with fail
        refine (b2 _).mono ?_
        rintro e w' ⟨rfl, rfl⟩
        clear b2
        go_wp2_with fail
        refine (b3 _).mono ?_
        rintro e w' ⟨rfl, rfl⟩
        clear b3
        go_wp2_with fail
        refine (hnm _).mono ?_
        rintro e w' ⟨rfl, rfl⟩
        clear hnm
        go_wp2_with fail
        refine (hbl _).mono ?_
        rintro e w' ⟨rfl, rfl⟩
        clear hbl
        go_wp2_with fail
        refine (b4 _).mono ?_
        rintro e w' ⟨rfl, rfl⟩
        clear b4
        go_wp2_with fail
        go_region_held3 (fun _ => True) (trivial)
          ((go_at_call 32; refine (hbl2 _).mono ?_; rintro e w' ⟨rfl, rfl⟩))
        go_wp2_with fail
        refine bodyPost_ret (v := .tuple #[.agg #[.int .i64 3, .string ⟨tx.toArray⟩, .string ⟨#[]⟩, .slice none 0 0, .bool false], .int .i64 ((Q : Int) + 1)]) (by first | (simp [results, Tryz.results16, go_sem]; done) | simp [results, Tryz.results16, go_sem, c0, c1, c2, c3, c4]) rfl (RPiece.yes (av := .slice none 0 0) HA.out ?_ (AttrsAt.none _ _) (by exact ((Below.refl _ w).alloc (Nat.le_refl _) _).drew))
        rw [show ((p + (2 + n + g + 1) : Nat) : Int) = (Q : Int) + 1 from by omega]
        rfl
      · have hp0 : ((p : Int) == 0) = false := by rw [beq_eq_false_iff_ne]; omega
        clear h0 hx
        obtain ⟨c0, c1, c2, c3, c4, ff⟩ := hN0.cell
        have f0 := ff 0
        have f1 := ff 1
        have f2 := ff 2
        have f3 := ff 3
        have f4 := ff 4
        clear ff
        go_enter Tryz.func16, Tryz.ntmps16
        go_wp2_with fail
        refine (b1 _).mono ?_
        rintro e w' ⟨rfl, rfl⟩
        clear b1
        go_wp2_with fail
        refine (b2 _).mono ?_
        rintro e w' ⟨rfl, rfl⟩
        clear b2
        go_wp2_with fail
        refine (b3 _).mono ?_
        rintro e w' ⟨rfl, rfl⟩
        clear b3
        go_wp2_with fail
        refine (hnm _).mono ?_
        rintro e w' ⟨rfl, rfl⟩
        clear hnm
        go_wp2_with fail
        refine (hbl _).mono ?_
        rintro e w' ⟨rfl, rfl⟩
        clear hbl
        go_wp2_with fail
        refine (b4 _).mono ?_
        rintro e w' ⟨rfl, rfl⟩
        clear b4
        go_wp2_with fail
        go_region_held3 (fun _ => True) (trivial)
          ((go_at_call 32; refine (hbl2 _).mono ?_; rintro e w' ⟨rfl, rfl⟩))
        go_wp2_with fail
        refine bodyPost_ret (v := .tuple #[.agg #[.int .i64 3, .string ⟨tx.toArray⟩, .string ⟨#[]⟩, .slice none 0 0, .bool false], .int .i64 ((Q : Int) + 1)]) (by first | (simp [results, Tryz.results16, go_sem]; done) | simp [results, Tryz.results16, go_sem, c0, c1, c2, c3, c4]) rfl (RPiece.yes (av := .slice none 0 0) HA.out ?_ (AttrsAt.none _ _) (by exact ((Below.refl _ w).alloc (Nat.le_refl _) _).drew))
        rw [show ((p + (2 + n + g + 1) : Nat) : Int) = (Q : Int) + 1 from by omega]
        rfl
set_option maxHeartbeats 4000000 in
set_option maxRecDepth 100000 in
theorem piece_open (s : ByteArray) (p : Nat) (w : World) (hs : s.size ≤ 65536) (hp : p < s.size) (hx : p = 0 → Lib.hasPrefix (s.data.toList.drop p) [60, 63, 120, 109, 108] = false) (hc : Lib.hasPrefix (s.data.toList.drop p) [60, 33, 45, 45] = false) (hd : Lib.hasPrefix (s.data.toList.drop p) [60, 33, 91, 67, 68, 65, 84, 65, 91] = false) (he : Lib.hasPrefix (s.data.toList.drop p) [60, 47] = false) (hf : Lib.hasPrefix (s.data.toList.drop p) [60] = true) :
    Calls Tryz.prog 16 #[.string s, .int .i64 p] w (RPiece (pieceR (decide (p = 0)) (s.data.toList.drop p)) p w) := by
  have hlen : s.data.toList.length = s.size := (Lib.size_eq s).symm
  have Hlen := Lib.hid hlen
  clear hlen
  have hN0 := fresh_new w
  have hB0 := fresh_bel w
  have hz0 := fresh_size w
  have hA := (rfl : pieceR (decide (p = 0)) (s.data.toList.drop p) = pieceR (decide (p = 0)) (s.data.toList.drop p))
  conv at hA => rhs; unfold pieceR
  generalize pieceR (decide (p = 0)) (s.data.toList.drop p) = res at hA
  rw [if_neg (fun e => by rw [hx (by simpa using e.1)] at e; simp at e)] at hA
  rw [if_neg (by rw [hc]; simp)] at hA
  rw [if_neg (by rw [hd]; simp)] at hA
  rw [if_neg (by rw [he]; simp)] at hA
  rw [if_pos hf] at hA
  have b1 := begins_at s p [60, 33, 45, 45] hs (by omega) (by decide)
  rw [hc] at b1
  have b2 := begins_at s p [60, 33, 91, 67, 68, 65, 84, 65, 91] hs (by omega) (by decide)
  rw [hd] at b2
  have b3 := begins_at s p [60, 47] hs (by omega) (by decide)
  rw [he] at b3
  have b4 := begins_at s p [60] hs (by omega) (by decide)
  rw [hf] at b4
  clear hc hd he
  have hop := fun w => rOpen_any s p w hs (by have := prefix_room hf (by simp); simp only [List.length_cons, List.length_nil] at this; omega)
  clear hf
  rw [← hA] at hop
  clear hA
  unfold RPiece at hop
  cases res with
  | none =>
    have HA : Hid ((none : Option (Tok × Nat)) = none) := rfl
    rcases (by omega : p = 0 ∨ p ≠ 0) with h0 | h0
    · have hp0 : ((p : Int) == 0) = true := by rw [beq_iff_eq]; omega
      have b0 := begins_zero s p [60, 63, 120, 109, 108] hs h0 (by decide)
      rw [hx h0] at b0
      clear h0 hx
      go_enter Tryz.func16, Tryz.ntmps16
      go_wp2_with fail
      refine (b0 _).mono ?_
      rintro e w' ⟨rfl, rfl⟩
      clear b0
      go_wp2_with fail
      refine (b1 _).mono ?_
      rintro e w' ⟨rfl, rfl⟩
      clear b1
      go_wp2_with fail
      refine (b2 _).mono ?_
      rintro e w' ⟨rfl, rfl⟩
      clear b2
      go_wp2_with fail
      refine (b3 _).mono ?_
      rintro e w' ⟨rfl, rfl⟩
      clear b3
      go_wp2_with fail
      refine (b4 _).mono ?_
      rintro e w' ⟨rfl, rfl⟩
      clear b4
      go_wp2_with fail
      refine (hop _).mono ?_
      clear hop
      intro e w2 hpost
      first | (simp only at hpost) | skip
      obtain ⟨⟨k, x, y, m, rfl⟩, hbw⟩ := hpost
      have hN2 := hN0.below (by omega) hbw
      have hB2 := hB0.trans (hbw.mono (by omega))
      obtain ⟨c0, c1, c2, c3, c4, ff⟩ := hN2.cell
      have f0 := ff 0
      have f1 := ff 1
      have f2 := ff 2
      have f3 := ff 3
      have f4 := ff 4
      clear ff
      clear hN0 hB0 hbw
      go_wp2_with fail
      exact bodyPost_ret (v := .tuple #[.agg #[.int .i64 k, .string x, .string y, .slice none 0 0, .bool m], .int .i64 (-1)]) (by first | (simp [results, Tryz.results16, go_sem]; done) | simp [results, Tryz.results16, go_sem, c0, c1, c2, c3, c4]) rfl (RPiece.no rfl _ _ _ _ rfl (below_set5 hB2 (Nat.le_refl _) _ _ _ _ _))
    · have hp0 : ((p : Int) == 0) = false := by rw [beq_eq_false_iff_ne]; omega
      clear h0 hx
      go_enter Tryz.func16, Tryz.ntmps16
      go_wp2_with fail
      refine (b1 _).mono ?_
      rintro e w' ⟨rfl, rfl⟩
      clear b1
      go_wp2_with fail
      refine (b2 _).mono ?_
      rintro e w' ⟨rfl, rfl⟩
      clear b2
      go_wp2_with fail
      refine (b3 _).mono ?_
      rintro e w' ⟨rfl, rfl⟩
      clear b3
      go_wp2_with fail
      refine (b4 _).mono ?_
      rintro e w' ⟨rfl, rfl⟩
      clear b4
      go_wp2_with fail
      refine (hop _).mono ?_
      clear hop
      intro e w2 hpost
      first | (simp only at hpost) | skip
      obtain ⟨⟨k, x, y, m, rfl⟩, hbw⟩ := hpost
      have hN2 := hN0.below (by omega) hbw
      have hB2 := hB0.trans (hbw.mono (by omega))
      obtain ⟨c0, c1, c2, c3, c4, ff⟩ := hN2.cell
      have f0 := ff 0
      have f1 := ff 1
      have f2 := ff 2
      have f3 := ff 3
      have f4 := ff 4
      clear ff
      clear hN0 hB0 hbw
      go_wp2_with fail
      exact bodyPost_ret (v := .tuple #[.agg #[.int .i64 k, .string x, .string y, .slice none 0 0, .bool m], .int .i64 (-1)]) (by first | (simp [results, Tryz.results16, go_sem]; done) | simp [results, Tryz.results16, go_sem, c0, c1, c2, c3, c4]) rfl (RPiece.no rfl _ _ _ _ rfl (below_set5 hB2 (Nat.le_refl _) _ _ _ _ _))
  | some z =>
    obtain ⟨t, k⟩ := z
    have HA : Hid (some (t, k) = some (t, k)) := rfl
    rcases (by omega : p = 0 ∨ p ≠ 0) with h0 | h0
    · have hp0 : ((p : Int) == 0) = true := by rw [beq_iff_eq]; omega
      have b0 := begins_zero s p [60, 63, 120, 109, 108] hs h0 (by decide)
      rw [hx h0] at b0
      clear h0 hx
      go_enter Tryz.func16, Tryz.ntmps16
      go_wp2_with fail
      refine (b0 _).mono ?_
      rintro e w' ⟨rfl, rfl⟩
      clear b0
      go_wp2_with fail
      refine (b1 _).mono ?_
      rintro e w' ⟨rfl, rfl⟩
      clear b1
      go_wp2_with fail
      refine (b2 _).mono ?_
      rintro e w' ⟨rfl, rfl⟩
      clear b2
      go_wp2_with fail
      refine (b3 _).mono ?_
      rintro e w' ⟨rfl, rfl⟩
      clear b3
      go_wp2_with fail
      refine (b4 _).mono ?_
      rintro e w' ⟨rfl, rfl⟩
      clear b4
      go_wp2_with fail
      refine (hop _).mono ?_
      clear hop
      intro e w2 hpost
      first | (simp only at hpost) | skip
      obtain ⟨⟨av, rfl, hav⟩, hbw⟩ := hpost
      obtain ⟨ao, ak, rfl⟩ := hav.shape
      unfold tokV
      have hN2 := hN0.below (by omega) hbw
      have hB2 := hB0.trans (hbw.mono (by omega))
      have hav2 := hav.mono (show w.heap.size + 1 ≤ _ by omega)
      obtain ⟨c0, c1, c2, c3, c4, ff⟩ := hN2.cell
      have f0 := ff 0
      have f1 := ff 1
      have f2 := ff 2
      have f3 := ff 3
      have f4 := ff 4
      clear ff
      clear hN0 hB0 hbw hav
      go_wp2_with fail
      exact bodyPost_ret (v := .tuple #[.agg #[.int .i64 t.kind, .string ⟨t.name.toArray⟩, .string ⟨t.text.toArray⟩, .slice ao t.attrs.length ak, .bool t.empty], .int .i64 ((p + k : Nat) : Int)]) (by first | (simp [results, Tryz.results16, go_sem]; done) | simp [results, Tryz.results16, go_sem, c0, c1, c2, c3, c4]) rfl (RPiece.yes (av := .slice ao t.attrs.length ak) rfl rfl ((hav2.set5 (show w.heap.size < w.heap.size + 1 by omega) _ _ _ _ _).mono (by omega)) (below_set5 hB2 (Nat.le_refl _) _ _ _ _ _))
    · have hp0 : ((p : Int) == 0) = false := by rw [beq_eq_false_iff_ne]; omega
      clear h0 hx
      go_enter Tryz.func16, Tryz.ntmps16
      go_wp2_with fail
      refine (b1 _).mono ?_
      rintro e w' ⟨rfl, rfl⟩
      clear b1
      go_wp2_with fail
      refine (b2 _).mono ?_
      rintro e w' ⟨rfl, rfl⟩
      clear b2
      go_wp2_with fail
      refine (b3 _).mono ?_
      rintro e w' ⟨rfl, rfl⟩
      clear b3
      go_wp2_with fail
      refine (b4 _).mono ?_
      rintro e w' ⟨rfl, rfl⟩
      clear b4
      go_wp2_with fail
      refine (hop _).mono ?_
      clear hop
      intro e w2 hpost
      first | (simp only at hpost) | skip
      obtain ⟨⟨av, rfl, hav⟩, hbw⟩ := hpost
      obtain ⟨ao, ak, rfl⟩ := hav.shape
      unfold tokV
      have hN2 := hN0.below (by omega) hbw
      have hB2 := hB0.trans (hbw.mono (by omega))
      have hav2 := hav.mono (show w.heap.size + 1 ≤ _ by omega)
      obtain ⟨c0, c1, c2, c3, c4, ff⟩ := hN2.cell
      have f0 := ff 0
      have f1 := ff 1
      have f2 := ff 2
      have f3 := ff 3
      have f4 := ff 4
      clear ff
      clear hN0 hB0 hbw hav
      go_wp2_with fail
      exact bodyPost_ret (v := .tuple #[.agg #[.int .i64 t.kind, .string ⟨t.name.toArray⟩, .string ⟨t.text.toArray⟩, .slice ao t.attrs.length ak, .bool t.empty], .int .i64 ((p + k : Nat) : Int)]) (by first | (simp [results, Tryz.results16, go_sem]; done) | simp [results, Tryz.results16, go_sem, c0, c1, c2, c3, c4]) rfl (RPiece.yes (av := .slice ao t.attrs.length ak) rfl rfl ((hav2.set5 (show w.heap.size < w.heap.size + 1 by omega) _ _ _ _ _).mono (by omega)) (below_set5 hB2 (Nat.le_refl _) _ _ _ _ _))
set_option maxHeartbeats 4000000 in
set_option maxRecDepth 100000 in
theorem piece_words (s : ByteArray) (p : Nat) (w : World) (hs : s.size ≤ 65536) (hp : p < s.size) (hx : p = 0 → Lib.hasPrefix (s.data.toList.drop p) [60, 63, 120, 109, 108] = false) (hc : Lib.hasPrefix (s.data.toList.drop p) [60, 33, 45, 45] = false) (hd : Lib.hasPrefix (s.data.toList.drop p) [60, 33, 91, 67, 68, 65, 84, 65, 91] = false) (he : Lib.hasPrefix (s.data.toList.drop p) [60, 47] = false) (hf : Lib.hasPrefix (s.data.toList.drop p) [60] = false) :
    Calls Tryz.prog 16 #[.string s, .int .i64 p] w (RPiece (pieceR (decide (p = 0)) (s.data.toList.drop p)) p w) := by
  have hlen : s.data.toList.length = s.size := (Lib.size_eq s).symm
  have Hlen := Lib.hid hlen
  clear hlen
  have hN0 := fresh_new w
  have hB0 := fresh_bel w
  have hz0 := fresh_size w
  have hA := (rfl : pieceR (decide (p = 0)) (s.data.toList.drop p) = pieceR (decide (p = 0)) (s.data.toList.drop p))
  conv at hA => rhs; unfold pieceR
  generalize pieceR (decide (p = 0)) (s.data.toList.drop p) = res at hA
  rw [if_neg (fun e => by rw [hx (by simpa using e.1)] at e; simp at e)] at hA
  rw [if_neg (by rw [hc]; simp)] at hA
  rw [if_neg (by rw [hd]; simp)] at hA
  rw [if_neg (by rw [he]; simp)] at hA
  rw [if_neg (by rw [hf]; simp)] at hA
  have b1 := begins_at s p [60, 33, 45, 45] hs (by omega) (by decide)
  rw [hc] at b1
  have b2 := begins_at s p [60, 33, 91, 67, 68, 65, 84, 65, 91] hs (by omega) (by decide)
  rw [hd] at b2
  have b3 := begins_at s p [60, 47] hs (by omega) (by decide)
  rw [he] at b3
  have b4 := begins_at s p [60] hs (by omega) (by decide)
  rw [hf] at b4
  clear hc hd he hf
  unfold wordsR at hA
  simp only at hA
  have hfd := find_at s p [60] hs (by omega) (by decide)
  unfold findZ at hfd
  rw [Lib.index_one] at hfd
  have hge := Lib.indexByte_ge (s.data.toList.drop p) 60
  obtain ⟨E, raw, hraw, hpE, hEs, hrl, hfd2⟩ : ∃ (E : Nat) (raw : Bytes), raw = (if Lib.indexByte (s.data.toList.drop p) 60 < 0 then s.data.toList.drop p else (s.data.toList.drop p).take (Lib.indexByte (s.data.toList.drop p) 60).toNat) ∧ p ≤ E ∧ E ≤ s.size ∧ (s.extract p E).data.toList = raw ∧ ((∀ w, Calls Tryz.prog 30 #[.string s, .int .i64 p, .string ⟨#[60]⟩] w fun e w' => e = .returned (.int .i64 (-1)) ∧ w = w') ∧ E = s.size ∨ (∀ w, Calls Tryz.prog 30 #[.string s, .int .i64 p, .string ⟨#[60]⟩] w fun e w' => e = .returned (.int .i64 (E : Int)) ∧ w = w')) := by
    by_cases hi : Lib.indexByte (s.data.toList.drop p) 60 < 0
    · rw [if_pos (by omega)] at hfd
      refine ⟨s.size, s.data.toList.drop p, by rw [if_pos hi], by omega, Nat.le_refl _, Lib.extract_to_end s p, .inl ⟨hfd, rfl⟩⟩
    · obtain ⟨i, hii⟩ : ∃ i : Nat, Lib.indexByte (s.data.toList.drop p) 60 = i := ⟨(Lib.indexByte (s.data.toList.drop p) 60).toNat, by omega⟩
      have hs2 := Lib.indexByte_some hii
      have hlt := (List.getElem?_eq_some_iff.1 hs2.1).1
      rw [List.length_drop, Hlen.out] at hlt
      rw [if_neg (by omega), hii] at hfd
      refine ⟨p + i, (s.data.toList.drop p).take i, by rw [if_neg hi, hii, Int.toNat_natCast], by omega, by omega, by rw [Lib.extract_data, Nat.add_sub_cancel_left], .inr fun w => ?_⟩
      have := hfd w
      rwa [show ((p : Int) + (i : Int)) = ((p + i : Nat) : Int) by omega] at this
  rw [← hraw] at hA
  clear hraw hfd hge
  have hrz : raw.length = E - p := by rw [← hrl, ← Lib.size_eq, ByteArray.size_extract]; omega
  have hcut := slice_i s p E hpE hEs
  have hts : (s.extract p E).size = raw.length := by rw [Lib.size_eq, hrl]
  have hun := fun w => rUnesc_any (s.extract p E) w (by omega)
  have hf3 : ∀ w, Calls Tryz.prog 30 #[.string (s.extract p E), .int .i64 0, .string ⟨#[93, 93, 62]⟩] w fun e w' => e = .returned (.int .i64 (findZ (s.extract p E).data.toList [93, 93, 62] 0)) ∧ w = w' := fun w => find_at (s.extract p E) 0 [93, 93, 62] (by omega) (Nat.zero_le _) (by decide) w
  rw [hts, hrl] at hun
  rw [hrl] at hf3
  have hct : Lib.contains raw [93, 93, 62] = decide (findZ raw [93, 93, 62] 0 ≥ 0) := by
    unfold Lib.contains findZ
    rw [List.drop_zero]
    have hg2 := Lib.index_ge raw [93, 93, 62]
    rw [decide_eq_decide]
    by_cases h : Lib.index raw [93, 93, 62] = -1
    · rw [if_pos h]; omega
    · rw [if_neg h]; omega
  rw [hct] at hA
  generalize findZ raw [93, 93, 62] 0 = fz at hA hf3
  generalize unescF raw.length [] raw = U at hA hun
  obtain ⟨u1, u2⟩ := U
  unfold unV at hun
  simp only at hun hA
  clear hct hts hrl
  generalize s.extract p E = t at hcut hun hf3
  have hpk : p + raw.length = E := by omega
  have Hpk := Lib.hid hpk
  clear hpk hrz
  have hE0 : decide ((E : Int) < 0) = false := by rw [decide_eq_false_iff_not]; omega
  by_cases hu : u1 = 0
  · have hub : (u1 != 0) = false := by simpa using hu
    by_cases hz : fz ≥ 0
    · have hzb : decide (fz ≥ 0) = true := by rw [decide_eq_true_eq]; exact hz
      have hzb2 : decide (0 ≤ fz) = true := by rw [decide_eq_true_eq]; exact hz
      rw [if_pos (.inr hzb)] at hA
      have HA := Lib.hid hA
      clear hA hu hz
      rcases (by omega : p = 0 ∨ p ≠ 0) with h0 | h0
      · have hp0 : ((p : Int) == 0) = true := by rw [beq_iff_eq]; omega
        have b0 := begins_zero s p [60, 63, 120, 109, 108] hs h0 (by decide)
        rw [hx h0] at b0
        clear h0 hx
        rcases hfd2 with ⟨hfd2, hEe⟩ | hfd2
        · subst hEe
          go_enter Tryz.func16, Tryz.ntmps16
          go_wp2_with fail
          refine (b0 _).mono ?_
          rintro e w' ⟨rfl, rfl⟩
          clear b0
          go_wp2_with fail
          refine (b1 _).mono ?_
          rintro e w' ⟨rfl, rfl⟩
          clear b1
          go_wp2_with fail
          refine (b2 _).mono ?_
          rintro e w' ⟨rfl, rfl⟩
          clear b2
          go_wp2_with fail
          refine (b3 _).mono ?_
          rintro e w' ⟨rfl, rfl⟩
          clear b3
          go_wp2_with fail
          refine (b4 _).mono ?_
          rintro e w' ⟨rfl, rfl⟩
          clear b4
          go_wp2_with fail
          refine (hfd2 _).mono ?_
          rintro e w' ⟨rfl, rfl⟩
          clear hfd2
          go_wp2_with fail
          refine (hun _).mono ?_
          clear hun
          rintro e w2 ⟨rfl, hbw⟩
          have hN2 := hN0.below (by omega) hbw
          have hB2 := hB0.trans (hbw.mono (by omega))
          obtain ⟨c0, c1, c2, c3, c4, ff⟩ := hN2.cell
          have f0 := ff 0
          have f1 := ff 1
          have f2 := ff 2
          have f3 := ff 3
          have f4 := ff 4
          clear ff
          clear hN0 hB0 hbw
          go_wp2_with fail
          refine (hf3 _).mono ?_
          clear hf3
          rintro e w' ⟨rfl, rfl⟩
          go_wp2_with fail
          exact bodyPost_ret (v := .tuple #[.agg #[.int .i64 0, .string ⟨#[]⟩, .string ⟨#[]⟩, .slice none 0 0, .bool false], .int .i64 (-1)]) (by first | (simp [results, Tryz.results16, go_sem]; done) | simp [results, Tryz.results16, go_sem, c0, c1, c2, c3, c4]) rfl (RPiece.no HA.out _ _ _ _ rfl (below_set5 hB2 (Nat.le_refl _) _ _ _ _ _))
        · skip
          go_enter Tryz.func16, Tryz.ntmps16
          go_wp2_with fail
          refine (b0 _).mono ?_
          rintro e w' ⟨rfl, rfl⟩
          clear b0
          go_wp2_with fail
          refine (b1 _).mono ?_
          rintro e w' ⟨rfl, rfl⟩
          clear b1
          go_wp2_with fail
          refine (b2 _).mono ?_
          rintro e w' ⟨rfl, rfl⟩
          clear b2
          go_wp2_with fail
          refine (b3 _).mono ?_
          rintro e w' ⟨rfl, rfl⟩
          clear b3
          go_wp2_with fail
          refine (b4 _).mono ?_
          rintro e w' ⟨rfl, rfl⟩
          clear b4
          go_wp2_with fail
          refine (hfd2 _).mono ?_
          rintro e w' ⟨rfl, rfl⟩
          clear hfd2
          go_wp2_with fail
          refine (hun _).mono ?_
          clear hun
          rintro e w2 ⟨rfl, hbw⟩
          have hN2 := hN0.below (by omega) hbw
          have hB2 := hB0.trans (hbw.mono (by omega))
          obtain ⟨c0, c1, c2, c3, c4, ff⟩ := hN2.cell
          have f0 := ff 0
          have f1 := ff 1
          have f2 := ff 2
          have f3 := ff 3
          have f4 := ff 4
          clear ff
          clear hN0 hB0 hbw
          go_wp2_with fail
          refine (hf3 _).mono ?_
          clear hf3
          rintro e w' ⟨rfl, rfl⟩
          go_wp2_with fail
          exact bodyPost_ret (v := .tuple #[.agg #[.int .i64 0, .string ⟨#[]⟩, .string ⟨#[]⟩, .slice none 0 0, .bool false], .int .i64 (-1)]) (by first | (simp [results, Tryz.results16, go_sem]; done) | simp [results, Tryz.results16, go_sem, c0, c1, c2, c3, c4]) rfl (RPiece.no HA.out _ _ _ _ rfl (below_set5 hB2 (Nat.le_refl _) _ _ _ _ _))
      · have hp0 : ((p : Int) == 0) = false := by rw [beq_eq_false_iff_ne]; omega
        clear h0 hx
        rcases hfd2 with ⟨hfd2, hEe⟩ | hfd2
        · subst hEe
          go_enter Tryz.func16, Tryz.ntmps16
          go_wp2_with fail
          refine (b1 _).mono ?_
          rintro e w' ⟨rfl, rfl⟩
          clear b1
          go_wp2_with fail
          refine (b2 _).mono ?_
          rintro e w' ⟨rfl, rfl⟩
          clear b2
          go_wp2_with fail
          refine (b3 _).mono ?_
          rintro e w' ⟨rfl, rfl⟩
          clear b3
          go_wp2_with fail
          refine (b4 _).mono ?_
          rintro e w' ⟨rfl, rfl⟩
          clear b4
          go_wp2_with fail
          refine (hfd2 _).mono ?_
          rintro e w' ⟨rfl, rfl⟩
          clear hfd2
          go_wp2_with fail
          refine (hun _).mono ?_
          clear hun
          rintro e w2 ⟨rfl, hbw⟩
          have hN2 := hN0.below (by omega) hbw
          have hB2 := hB0.trans (hbw.mono (by omega))
          obtain ⟨c0, c1, c2, c3, c4, ff⟩ := hN2.cell
          have f0 := ff 0
          have f1 := ff 1
          have f2 := ff 2
          have f3 := ff 3
          have f4 := ff 4
          clear ff
          clear hN0 hB0 hbw
          go_wp2_with fail
          refine (hf3 _).mono ?_
          clear hf3
          rintro e w' ⟨rfl, rfl⟩
          go_wp2_with fail
          exact bodyPost_ret (v := .tuple #[.agg #[.int .i64 0, .string ⟨#[]⟩, .string ⟨#[]⟩, .slice none 0 0, .bool false], .int .i64 (-1)]) (by first | (simp [results, Tryz.results16, go_sem]; done) | simp [results, Tryz.results16, go_sem, c0, c1, c2, c3, c4]) rfl (RPiece.no HA.out _ _ _ _ rfl (below_set5 hB2 (Nat.le_refl _) _ _ _ _ _))
        · skip
          go_enter Tryz.func16, Tryz.ntmps16
          go_wp2_with fail
          refine (b1 _).mono ?_
          rintro e w' ⟨rfl, rfl⟩
          clear b1
          go_wp2_with fail
          refine (b2 _).mono ?_
          rintro e w' ⟨rfl, rfl⟩
          clear b2
          go_wp2_with fail
          refine (b3 _).mono ?_
          rintro e w' ⟨rfl, rfl⟩
          clear b3
          go_wp2_with fail
          refine (b4 _).mono ?_
          rintro e w' ⟨rfl, rfl⟩
          clear b4
          go_wp2_with fail
          refine (hfd2 _).mono ?_
          rintro e w' ⟨rfl, rfl⟩
          clear hfd2
          go_wp2_with fail
          refine (hun _).mono ?_
          clear hun
          rintro e w2 ⟨rfl, hbw⟩
          have hN2 := hN0.below (by omega) hbw
          have hB2 := hB0.trans (hbw.mono (by omega))
          obtain ⟨c0, c1, c2, c3, c4, ff⟩ := hN2.cell
          have f0 := ff 0
          have f1 := ff 1
          have f2 := ff 2
          have f3 := ff 3
          have f4 := ff 4
          clear ff
          clear hN0 hB0 hbw
          go_wp2_with fail
          refine (hf3 _).mono ?_
          clear hf3
          rintro e w' ⟨rfl, rfl⟩
          go_wp2_with fail
          exact bodyPost_ret (v := .tuple #[.agg #[.int .i64 0, .string ⟨#[]⟩, .string ⟨#[]⟩, .slice none 0 0, .bool false], .int .i64 (-1)]) (by first | (simp [results, Tryz.results16, go_sem]; done) | simp [results, Tryz.results16, go_sem, c0, c1, c2, c3, c4]) rfl (RPiece.no HA.out _ _ _ _ rfl (below_set5 hB2 (Nat.le_refl _) _ _ _ _ _))
    · have hzb : decide (fz ≥ 0) = false := by rw [decide_eq_false_iff_not]; exact hz
      have hzb2 : decide (0 ≤ fz) = false := by rw [decide_eq_false_iff_not]; exact hz
      rw [if_neg (by rw [hzb]; simp [hu])] at hA
      have HA := Lib.hid hA
      clear hA hu hz
      rcases (by omega : p = 0 ∨ p ≠ 0) with h0 | h0
      · have hp0 : ((p : Int) == 0) = true := by rw [beq_iff_eq]; omega
        have b0 := begins_zero s p [60, 63, 120, 109, 108] hs h0 (by decide)
        rw [hx h0] at b0
        clear h0 hx
        rcases hfd2 with ⟨hfd2, hEe⟩ | hfd2
        · subst hEe
          go_enter Tryz.func16, Tryz.ntmps16
          go_wp2_with fail
          refine (b0 _).mono ?_
          rintro e w' ⟨rfl, rfl⟩
          clear b0
          go_wp2_with fail
          refine (b1 _).mono ?_
          rintro e w' ⟨rfl, rfl⟩
          clear b1
          go_wp2_with fail
          refine (b2 _).mono ?_
          rintro e w' ⟨rfl, rfl⟩
          clear b2
          go_wp2_with fail
          refine (b3 _).mono ?_
          rintro e w' ⟨rfl, rfl⟩
          clear b3
          go_wp2_with fail
          refine (b4 _).mono ?_
          rintro e w' ⟨rfl, rfl⟩
          clear b4
          go_wp2_with fail
          refine (hfd2 _).mono ?_
          rintro e w' ⟨rfl, rfl⟩
          clear hfd2
          go_wp2_with fail
          refine (hun _).mono ?_
          clear hun
          rintro e w2 ⟨rfl, hbw⟩
          have hN2 := hN0.below (by omega) hbw
          have hB2 := hB0.trans (hbw.mono (by omega))
          obtain ⟨c0, c1, c2, c3, c4, ff⟩ := hN2.cell
          have f0 := ff 0
          have f1 := ff 1
          have f2 := ff 2
          have f3 := ff 3
          have f4 := ff 4
          clear ff
          clear hN0 hB0 hbw
          go_wp2_with fail
          refine (hf3 _).mono ?_
          clear hf3
          rintro e w' ⟨rfl, rfl⟩
          go_wp2_with fail
          refine bodyPost_ret (v := .tuple #[.agg #[.int .i64 4, .string ⟨#[]⟩, .string ⟨u2.toArray⟩, .slice none 0 0, .bool false], .int .i64 ((s.size : Nat) : Int)]) (by first | (simp [results, Tryz.results16, go_sem]; done) | simp [results, Tryz.results16, go_sem, c0, c1, c2, c3, c4]) rfl (RPiece.yes (av := .slice none 0 0) HA.out ?_ (AttrsAt.none _ _) (below_set5 hB2 (Nat.le_refl _) _ _ _ _ _))
          rw [Hpk.out]
          rfl
        · skip
          go_enter Tryz.func16, Tryz.ntmps16
          go_wp2_with fail
          refine (b0 _).mono ?_
          rintro e w' ⟨rfl, rfl⟩
          clear b0
          go_wp2_with fail
          refine (b1 _).mono ?_
          rintro e w' ⟨rfl, rfl⟩
          clear b1
          go_wp2_with fail
          refine (b2 _).mono ?_
          rintro e w' ⟨rfl, rfl⟩
          clear b2
          go_wp2_with fail
          refine (b3 _).mono ?_
          rintro e w' ⟨rfl, rfl⟩
          clear b3
          go_wp2_with fail
          refine (b4 _).mono ?_
          rintro e w' ⟨rfl, rfl⟩
          clear b4
          go_wp2_with fail
          refine (hfd2 _).mono ?_
          rintro e w' ⟨rfl, rfl⟩
          clear hfd2
          go_wp2_with fail
          refine (hun _).mono ?_
          clear hun
          rintro e w2 ⟨rfl, hbw⟩
          have hN2 := hN0.below (by omega) hbw
          have hB2 := hB0.trans (hbw.mono (by omega))
          obtain ⟨c0, c1, c2, c3, c4, ff⟩ := hN2.cell
          have f0 := ff 0
          have f1 := ff 1
          have f2 := ff 2
          have f3 := ff 3
          have f4 := ff 4
          clear ff
          clear hN0 hB0 hbw
          go_wp2_with fail
          refine (hf3 _).mono ?_
          clear hf3
          rintro e w' ⟨rfl, rfl⟩
          go_wp2_with fail
          refine bodyPost_ret (v := .tuple #[.agg #[.int .i64 4, .string ⟨#[]⟩, .string ⟨u2.toArray⟩, .slice none 0 0, .bool false], .int .i64 ((E : Nat) : Int)]) (by first | (simp [results, Tryz.results16, go_sem]; done) | simp [results, Tryz.results16, go_sem, c0, c1, c2, c3, c4]) rfl (RPiece.yes (av := .slice none 0 0) HA.out ?_ (AttrsAt.none _ _) (below_set5 hB2 (Nat.le_refl _) _ _ _ _ _))
          rw [Hpk.out]
          rfl
      · have hp0 : ((p : Int) == 0) = false := by rw [beq_eq_false_iff_ne]; omega
        clear h0 hx
        rcases hfd2 with ⟨hfd2, hEe⟩ | hfd2
        · subst hEe
          go_enter Tryz.func16, Tryz.ntmps16
          go_wp2_with fail
          refine (b1 _).mono ?_
          rintro e w' ⟨rfl, rfl⟩
          clear b1
          go_wp2_with fail
          refine (b2 _).mono ?_
          rintro e w' ⟨rfl, rfl⟩
          clear b2
          go_wp2_with fail
          refine (b3 _).mono ?_
          rintro e w' ⟨rfl, rfl⟩
          clear b3
          go_wp2_with fail
          refine (b4 _).mono ?_
          rintro e w' ⟨rfl, rfl⟩
          clear b4
          go_wp2_with fail
          refine (hfd2 _).mono ?_
          rintro e w' ⟨rfl, rfl⟩
          clear hfd2
          go_wp2_with fail
          refine (hun _).mono ?_
          clear hun
          rintro e w2 ⟨rfl, hbw⟩
          have hN2 := hN0.below (by omega) hbw
          have hB2 := hB0.trans (hbw.mono (by omega))
          obtain ⟨c0, c1, c2, c3, c4, ff⟩ := hN2.cell
          have f0 := ff 0
          have f1 := ff 1
          have f2 := ff 2
          have f3 := ff 3
          have f4 := ff 4
          clear ff
          clear hN0 hB0 hbw
          go_wp2_with fail
          refine (hf3 _).mono ?_
          clear hf3
          rintro e w' ⟨rfl, rfl⟩
          go_wp2_with fail
          refine bodyPost_ret (v := .tuple #[.agg #[.int .i64 4, .string ⟨#[]⟩, .string ⟨u2.toArray⟩, .slice none 0 0, .bool false], .int .i64 ((s.size : Nat) : Int)]) (by first | (simp [results, Tryz.results16, go_sem]; done) | simp [results, Tryz.results16, go_sem, c0, c1, c2, c3, c4]) rfl (RPiece.yes (av := .slice none 0 0) HA.out ?_ (AttrsAt.none _ _) (below_set5 hB2 (Nat.le_refl _) _ _ _ _ _))
          rw [Hpk.out]
          rfl
        · skip
          go_enter Tryz.func16, Tryz.ntmps16
          go_wp2_with fail
          refine (b1 _).mono ?_
          rintro e w' ⟨rfl, rfl⟩
          clear b1
          go_wp2_with fail
          refine (b2 _).mono ?_
          rintro e w' ⟨rfl, rfl⟩
          clear b2
          go_wp2_with fail
          refine (b3 _).mono ?_
          rintro e w' ⟨rfl, rfl⟩
          clear b3
          go_wp2_with fail
          refine (b4 _).mono ?_
          rintro e w' ⟨rfl, rfl⟩
          clear b4
          go_wp2_with fail
          refine (hfd2 _).mono ?_
          rintro e w' ⟨rfl, rfl⟩
          clear hfd2
          go_wp2_with fail
          refine (hun _).mono ?_
          clear hun
          rintro e w2 ⟨rfl, hbw⟩
          have hN2 := hN0.below (by omega) hbw
          have hB2 := hB0.trans (hbw.mono (by omega))
          obtain ⟨c0, c1, c2, c3, c4, ff⟩ := hN2.cell
          have f0 := ff 0
          have f1 := ff 1
          have f2 := ff 2
          have f3 := ff 3
          have f4 := ff 4
          clear ff
          clear hN0 hB0 hbw
          go_wp2_with fail
          refine (hf3 _).mono ?_
          clear hf3
          rintro e w' ⟨rfl, rfl⟩
          go_wp2_with fail
          refine bodyPost_ret (v := .tuple #[.agg #[.int .i64 4, .string ⟨#[]⟩, .string ⟨u2.toArray⟩, .slice none 0 0, .bool false], .int .i64 ((E : Nat) : Int)]) (by first | (simp [results, Tryz.results16, go_sem]; done) | simp [results, Tryz.results16, go_sem, c0, c1, c2, c3, c4]) rfl (RPiece.yes (av := .slice none 0 0) HA.out ?_ (AttrsAt.none _ _) (below_set5 hB2 (Nat.le_refl _) _ _ _ _ _))
          rw [Hpk.out]
          rfl
  · have hub : (u1 != 0) = true := by simpa using hu
    rw [if_pos (.inl hu)] at hA
    have HA := Lib.hid hA
    clear hA hu
    rcases (by omega : p = 0 ∨ p ≠ 0) with h0 | h0
    · have hp0 : ((p : Int) == 0) = true := by rw [beq_iff_eq]; omega
      have b0 := begins_zero s p [60, 63, 120, 109, 108] hs h0 (by decide)
      rw [hx h0] at b0
      clear h0 hx
      rcases hfd2 with ⟨hfd2, hEe⟩ | hfd2
      · subst hEe
        go_enter Tryz.func16, Tryz.ntmps16
        go_wp2_with fail
        refine (b0 _).mono ?_
        rintro e w' ⟨rfl, rfl⟩
        clear b0
        go_wp2_with fail
        refine (b1 _).mono ?_
        rintro e w' ⟨rfl, rfl⟩
        clear b1
        go_wp2_with fail
        refine (b2 _).mono ?_
        rintro e w' ⟨rfl, rfl⟩
        clear b2
        go_wp2_with fail
        refine (b3 _).mono ?_
        rintro e w' ⟨rfl, rfl⟩
        clear b3
        go_wp2_with fail
        refine (b4 _).mono ?_
        rintro e w' ⟨rfl, rfl⟩
        clear b4
        go_wp2_with fail
        refine (hfd2 _).mono ?_
        rintro e w' ⟨rfl, rfl⟩
        clear hfd2
        go_wp2_with fail
        refine (hun _).mono ?_
        clear hun
        rintro e w2 ⟨rfl, hbw⟩
        have hN2 := hN0.below (by omega) hbw
        have hB2 := hB0.trans (hbw.mono (by omega))
        obtain ⟨c0, c1, c2, c3, c4, ff⟩ := hN2.cell
        have f0 := ff 0
        have f1 := ff 1
        have f2 := ff 2
        have f3 := ff 3
        have f4 := ff 4
        clear ff
        clear hN0 hB0 hbw
        go_wp2_with fail
        exact bodyPost_ret (v := .tuple #[.agg #[.int .i64 0, .string ⟨#[]⟩, .string ⟨#[]⟩, .slice none 0 0, .bool false], .int .i64 (-1)]) (by first | (simp [results, Tryz.results16, go_sem]; done) | simp [results, Tryz.results16, go_sem, c0, c1, c2, c3, c4]) rfl (RPiece.no HA.out _ _ _ _ rfl (below_set5 hB2 (Nat.le_refl _) _ _ _ _ _))
      · skip
        go_enter Tryz.func16, Tryz.ntmps16
        go_wp2_with fail
        refine (b0 _).mono ?_
        rintro e w' ⟨rfl, rfl⟩
        clear b0
        go_wp2_with fail
        refine (b1 _).mono ?_
        rintro e w' ⟨rfl, rfl⟩
        clear b1
        go_wp2_with fail
        refine (b2 _).mono ?_
        rintro e w' ⟨rfl, rfl⟩
        clear b2
        go_wp2_with fail
        refine (b3 _).mono ?_
        rintro e w' ⟨rfl, rfl⟩
        clear b3
        go_wp2_with fail
        refine (b4 _).mono ?_
        rintro e w' ⟨rfl, rfl⟩
        clear b4
        go_wp2_with fail
        refine (hfd2 _).mono ?_
        rintro e w' ⟨rfl, rfl⟩
        clear hfd2
        go_wp2_with fail
        refine (hun _).mono ?_
        clear hun
        rintro e w2 ⟨rfl, hbw⟩
        have hN2 := hN0.below (by omega) hbw
        have hB2 := hB0.trans (hbw.mono (by omega))
        obtain ⟨c0, c1, c2, c3, c4, ff⟩ := hN2.cell
        have f0 := ff 0
        have f1 := ff 1
        have f2 := ff 2
        have f3 := ff 3
        have f4 := ff 4
        clear ff
        clear hN0 hB0 hbw
        go_wp2_with fail
        exact bodyPost_ret (v := .tuple #[.agg #[.int .i64 0, .string ⟨#[]⟩, .string ⟨#[]⟩, .slice none 0 0, .bool false], .int .i64 (-1)]) (by first | (simp [results, Tryz.results16, go_sem]; done) | simp [results, Tryz.results16, go_sem, c0, c1, c2, c3, c4]) rfl (RPiece.no HA.out _ _ _ _ rfl (below_set5 hB2 (Nat.le_refl _) _ _ _ _ _))
    · have hp0 : ((p : Int) == 0) = false := by rw [beq_eq_false_iff_ne]; omega
      clear h0 hx
      rcases hfd2 with ⟨hfd2, hEe⟩ | hfd2
      · subst hEe
        go_enter Tryz.func16, Tryz.ntmps16
        go_wp2_with fail
        refine (b1 _).mono ?_
        rintro e w' ⟨rfl, rfl⟩
        clear b1
        go_wp2_with fail
        refine (b2 _).mono ?_
        rintro e w' ⟨rfl, rfl⟩
        clear b2
        go_wp2_with fail
        refine (b3 _).mono ?_
        rintro e w' ⟨rfl, rfl⟩
        clear b3
        go_wp2_with fail
        refine (b4 _).mono ?_
        rintro e w' ⟨rfl, rfl⟩
        clear b4
        go_wp2_with fail
        refine (hfd2 _).mono ?_
        rintro e w' ⟨rfl, rfl⟩
        clear hfd2
        go_wp2_with fail
        refine (hun _).mono ?_
        clear hun
        rintro e w2 ⟨rfl, hbw⟩
        have hN2 := hN0.below (by omega) hbw
        have hB2 := hB0.trans (hbw.mono (by omega))
        obtain ⟨c0, c1, c2, c3, c4, ff⟩ := hN2.cell
        have f0 := ff 0
        have f1 := ff 1
        have f2 := ff 2
        have f3 := ff 3
        have f4 := ff 4
        clear ff
        clear hN0 hB0 hbw
        go_wp2_with fail
        exact bodyPost_ret (v := .tuple #[.agg #[.int .i64 0, .string ⟨#[]⟩, .string ⟨#[]⟩, .slice none 0 0, .bool false], .int .i64 (-1)]) (by first | (simp [results, Tryz.results16, go_sem]; done) | simp [results, Tryz.results16, go_sem, c0, c1, c2, c3, c4]) rfl (RPiece.no HA.out _ _ _ _ rfl (below_set5 hB2 (Nat.le_refl _) _ _ _ _ _))
      · skip
        go_enter Tryz.func16, Tryz.ntmps16
        go_wp2_with fail
        refine (b1 _).mono ?_
        rintro e w' ⟨rfl, rfl⟩
        clear b1
        go_wp2_with fail
        refine (b2 _).mono ?_
        rintro e w' ⟨rfl, rfl⟩
        clear b2
        go_wp2_with fail
        refine (b3 _).mono ?_
        rintro e w' ⟨rfl, rfl⟩
        clear b3
        go_wp2_with fail
        refine (b4 _).mono ?_
        rintro e w' ⟨rfl, rfl⟩
        clear b4
        go_wp2_with fail
        refine (hfd2 _).mono ?_
        rintro e w' ⟨rfl, rfl⟩
        clear hfd2
        go_wp2_with fail
        refine (hun _).mono ?_
        clear hun
        rintro e w2 ⟨rfl, hbw⟩
        have hN2 := hN0.below (by omega) hbw
        have hB2 := hB0.trans (hbw.mono (by omega))
        obtain ⟨c0, c1, c2, c3, c4, ff⟩ := hN2.cell
        have f0 := ff 0
        have f1 := ff 1
        have f2 := ff 2
        have f3 := ff 3
        have f4 := ff 4
        clear ff
        clear hN0 hB0 hbw
        go_wp2_with fail
        exact bodyPost_ret (v := .tuple #[.agg #[.int .i64 0, .string ⟨#[]⟩, .string ⟨#[]⟩, .slice none 0 0, .bool false], .int .i64 (-1)]) (by first | (simp [results, Tryz.results16, go_sem]; done) | simp [results, Tryz.results16, go_sem, c0, c1, c2, c3, c4]) rfl (RPiece.no HA.out _ _ _ _ rfl (below_set5 hB2 (Nat.le_refl _) _ _ _ _ _))
/-- what Piece owes: the answer's piece -/
theorem rPiece_any (s : ByteArray) (p : Nat) (w : World) (hs : s.size ≤ 65536) (hp : p < s.size) :
    Calls Tryz.prog 16 #[.string s, .int .i64 p] w (RPiece (pieceR (decide (p = 0)) (s.data.toList.drop p)) p w) := by
  by_cases hx : p = 0 ∧ Lib.hasPrefix (s.data.toList.drop p) [60, 63, 120, 109, 108] = true
  · exact piece_decl s p w hs hp hx.1 hx.2
  have hx : p = 0 → Lib.hasPrefix (s.data.toList.drop p) [60, 63, 120, 109, 108] = false := fun h => by
    cases h1 : Lib.hasPrefix (s.data.toList.drop p) [60, 63, 120, 109, 108] with
    | false => rfl
    | true => exact absurd ⟨h, h1⟩ hx
  cases hc : Lib.hasPrefix (s.data.toList.drop p) [60, 33, 45, 45] with
  | true => exact piece_comment s p w hs hp hx hc
  | false =>
    cases hd : Lib.hasPrefix (s.data.toList.drop p) [60, 33, 91, 67, 68, 65, 84, 65, 91] with
    | true => exact piece_data s p w hs hp hx hc hd
    | false =>
      cases he : Lib.hasPrefix (s.data.toList.drop p) [60, 47] with
      | true => exact piece_end s p w hs hp hx hc hd he
      | false =>
        cases hf : Lib.hasPrefix (s.data.toList.drop p) [60] with
        | true => exact piece_open s p w hs hp hx hc hd he hf
        | false => exact piece_words s p w hs hp hx hc hd he hf
end Go.Proofs.YtkehbepopegboaaGreatDoor
