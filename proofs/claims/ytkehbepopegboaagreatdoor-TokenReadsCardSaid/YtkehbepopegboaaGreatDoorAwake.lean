/-
  A row of tokens read at a place; the chapter's example: its walk.
-/
import Derived.Test.YtkehbepopegboaaGreatDoorSame
import Derived.Test.YtkehbepopegboaaGreatDoorAwakePlain
import Derived.Lib.SlBytesConst
namespace Go.Proofs.YtkehbepopegboaaGreatDoor
open Go.RowKit
set_option linter.unusedVariables false
theorem tokCells_at {ps : List (Tok × Value)} {k : Nat} {x : Tok × Value} (h : ps[k]? = some x) : ∀ j, j < 5 → (ps.flatMap tokRow)[k * 5 + j]? = (tokRow x)[j]? := by
  induction ps generalizing k with
  | nil => simp at h
  | cons y r ih =>
    intro j hj
    rw [List.flatMap_cons]
    have hy : (tokRow y).length = 5 := rfl
    cases k with
    | zero =>
      simp at h; subst h
      rw [List.getElem?_append_left (by omega)]
      simp
    | succ k =>
      simp only [List.getElem?_cons_succ] at h
      rw [List.getElem?_append_right (by omega), hy, show (k + 1) * 5 + j - 5 = k * 5 + j from by omega]
      exact ih h j hj
theorem ToksAt.at {w : World} {B : Nat} {o : Option Addr} {c : Nat} {l : List Tok} (h : ToksAt w B (.slice o l.length c) l) {k : Nat} {t : Tok} (hx : l[k]? = some t) :
    ∃ g ao ac, o = some ⟨g, 0, Option.none⟩ ∧ AttrsAt w B (.slice ao t.attrs.length ac) t.attrs ∧ w.cell? ⟨g, k * 5, Option.none⟩ = some (.int .i64 t.kind) ∧ w.cell? ⟨g, k * 5 + 1, Option.none⟩ = some (.string ⟨t.name.toArray⟩) ∧
      w.cell? ⟨g, k * 5 + 2, Option.none⟩ = some (.string ⟨t.text.toArray⟩) ∧ w.cell? ⟨g, k * 5 + 3, Option.none⟩ = some (.slice ao t.attrs.length ac) ∧ w.cell? ⟨g, k * 5 + 4, Option.none⟩ = some (.bool t.empty) := by
  have hk : k < l.length := (List.getElem?_eq_some_iff.1 hx).1
  obtain ⟨ps, h1, h2, h3⟩ := h
  subst h1
  rw [List.getElem?_map] at hx
  obtain ⟨x, hp, rfl⟩ := Option.map_eq_some_iff.1 hx
  rw [List.length_map] at hk
  have hax := h3 x (List.mem_of_getElem? hp)
  obtain ⟨ao, ac, hav⟩ := hax.shape
  rcases h2.2 with ⟨e, hn⟩ | ⟨g, cap, cur, hv, _⟩
  · rw [List.length_map] at hn; omega
  · injection hv with e1 e2 e3
    subst e1 e3
    have hc := fun j hj => (h2.cellAt (k * 5 + j) (by rw [List.length_map]; omega)).trans (tokCells_at hp j hj)
    have c0 := hc 0 (by omega)
    have c1 := hc 1 (by omega)
    have c2 := hc 2 (by omega)
    have c3 := hc 3 (by omega)
    have c4 := hc 4 (by omega)
    rw [hav] at hax
    exact ⟨g, ao, ac, rfl, hax, c0, c1, c2, c3.trans (by rw [← hav]; rfl), c4⟩
theorem ToksAt.below {w w' : World} {B : Nat} {v : Value} {l : List Tok} (h : ToksAt w B v l) (hb : Below w.heap.size w w') : ToksAt w' B v l :=
  h.kept (row := Option.none) ⟨hb.os, hb.tape, hb.output, hb.size, fun k hk _ => hb.block k hk⟩ (by simp)
theorem bytesV_new (w : World) (l : Bytes) (t : Nat) (fz : Nat × Nat) (cs : Array Value) (hcs : cs = (l.map fun b => Value.int .u8 (b.toNat : Nat)).toArray) (hl : l.length ≤ 1048576) : BytesV (w.alloc (.cells cs t fz)) (some ⟨w.heap.size, 0, Option.none⟩) l.length l := by
  subst hcs
  refine .inr ⟨w.heap.size, 0, rfl, Nat.le_refl _, by unfold maxLen; omega, fun i hi => ?_, by simp⟩
  rw [Nat.zero_add]
  refine (cell_of_row _ w.heap.size i _ _ _ (heap_alloc_new w _)).trans ?_
  simp [List.getElem?_eq_getElem hi]
set_option maxHeartbeats 4000000 in
set_option maxRecDepth 100000 in
theorem awake_any (w : World) (hg : Gl w) : Calls Tryz.prog 4 #[] w fun e w' => e = .returned (.bool true) ∧ Below w.heap.size w w' := by
  have hall : ∀ w1, Gl w1 → BytesV w1 (some ⟨w.heap.size, 0, Option.none⟩) 20 awakeB → Calls Tryz.prog 5 #[.slice (some ⟨w.heap.size, 0, Option.none⟩) 20 20] w1 (AllR (awakeT, 0, 0) w1) := fun w1 hg1 hb1 => by
    have := pieces_any awakeB _ 20 w1 hb1 (by decide) hg1
    rw [awake_reads] at this
    exact this
  have Hall := Lib.hid hall
  clear hall
  have hcc := Lib.run_convert_bytes_const (P := Tryz.prog) w 22 5 #[.int .u8 60, .int .u8 97, .int .u8 32, .int .u8 98, .int .u8 61, .int .u8 39, .int .u8 49, .int .u8 39, .int .u8 62, .int .u8 120, .int .u8 38, .int .u8 97, .int .u8 109, .int .u8 112, .int .u8 59, .int .u8 121, .int .u8 60, .int .u8 47, .int .u8 97, .int .u8 62] 20 20 Tryz.underlying22 Tryz.underlying5
  have hb0 := bytesV_new w awakeB 5 (20, 21) #[.int .u8 60, .int .u8 97, .int .u8 32, .int .u8 98, .int .u8 61, .int .u8 39, .int .u8 49, .int .u8 39, .int .u8 62, .int .u8 120, .int .u8 38, .int .u8 97, .int .u8 109, .int .u8 112, .int .u8 59, .int .u8 121, .int .u8 60, .int .u8 47, .int .u8 97, .int .u8 62] rfl (by decide)
  have hbe := (Below.refl w.heap.size w).alloc (Nat.le_refl _) (.cells #[.int .u8 60, .int .u8 97, .int .u8 32, .int .u8 98, .int .u8 61, .int .u8 39, .int .u8 49, .int .u8 39, .int .u8 62, .int .u8 120, .int .u8 38, .int .u8 97, .int .u8 109, .int .u8 112, .int .u8 59, .int .u8 121, .int .u8 60, .int .u8 47, .int .u8 97, .int .u8 62] 5 (20, 21))
  have HB := Lib.hid hb0
  have HE := Lib.hid hbe
  clear hb0 hbe
  go_enter Tryz.func4, Tryz.ntmps4
  go_wp2_with fail
  refine (Hall.out _ (hg.below hg.size HE.out) HB.out).mono ?_
  rintro e w1 ⟨v, rfl, hT, hb1⟩
  clear Hall HB hcc
  obtain ⟨o, c, rfl⟩ := hT.shape
  obtain ⟨g, a0, k0, rfl, hA0, c00, c01, c02, c03, c04⟩ := hT.at (k := 0) (t := { kind := 2, name := [97], attrs := [([98], [49])] }) rfl
  obtain ⟨g', a1, k1, e1, hA1, c10, c11, c12, c13, c14⟩ := hT.at (k := 1) (t := { kind := 4, text := [120, 38, 121] }) rfl
  cases e1
  obtain ⟨g', a2, k2, e1, hA2, c20, c21, c22, c23, c24⟩ := hT.at (k := 2) (t := { kind := 3, name := [97] }) rfl
  cases e1
  obtain ⟨h, rfl, d0, d1⟩ := hA0.at (k := 0) (x := ([98], [49])) rfl
  have hbe := HE.out.trans (hb1.mono HE.out.size)
  clear HE hA0 hA1 hA2 hT hb1
  go_wp2_with fail
  go_ret
  exact ⟨rfl, hbe⟩
end Go.Proofs.YtkehbepopegboaaGreatDoor
