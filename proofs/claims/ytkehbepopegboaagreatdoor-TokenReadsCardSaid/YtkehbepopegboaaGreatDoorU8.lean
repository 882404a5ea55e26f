/-
  Rows of bytes of a call's own, and a token's five cells: plain facts on memory.
-/
import Derived.Test.YtkehbepopegboaaGreatDoorAwake
import Derived.Deep.RegionHeld3
namespace Go.Proofs.YtkehbepopegboaaGreatDoor
open Go.RowKit
set_option linter.unusedVariables false
theorem info_u8 : (Tryz.prog.info? 5).map (fun i => (i.zero, i.size, i.bytes)) = some (some (.int .u8 0), 1, 1) := by kernel_rfl
def u8s (l : Bytes) : List Value := l.map fun b => Value.int .u8 (b.toNat : Nat)
theorem BytesV.of_row {w : World} {base n : Nat} {v : Value} {l : Bytes} (h : w.ownsRow base 5 1 v n (u8s l)) : n = l.length ∧ ∃ o c, v = .slice o l.length c ∧ BytesV w o c l := by
  have hn : n = l.length := by have := h.1; simp [u8s] at this; omega
  subst hn
  rcases h.2 with ⟨rfl, hz⟩ | ⟨g, cap, cur, rfl, hb, hg, hnc, hcm, hcs, htake⟩
  · have : l = [] := List.length_eq_zero_iff.1 hz
    subst this
    exact ⟨rfl, _, _, rfl, .inl ⟨rfl, by unfold maxLen; omega, fun _ => rfl⟩⟩
  · refine ⟨rfl, _, _, rfl, .inr ⟨g, 0, rfl, hnc, hcm, fun i hi => ?_, lt_of_block hg⟩⟩
    rw [Nat.zero_add]
    refine (h.cellAt i (by omega)).trans ?_
    simp [u8s, List.getElem?_eq_getElem hi]
/-- a token's cells in a row -/
def Five (w : World) (g k : Nat) (t : Tok) (a : Option Addr) (n : Nat) : Prop :=
  w.cell? ⟨g, k * 5, none⟩ = some (.int .i64 t.kind) ∧ w.cell? ⟨g, k * 5 + 1, none⟩ = some (.string ⟨t.name.toArray⟩) ∧ w.cell? ⟨g, k * 5 + 2, none⟩ = some (.string ⟨t.text.toArray⟩) ∧ w.cell? ⟨g, k * 5 + 3, none⟩ = some (.slice a t.attrs.length n) ∧ w.cell? ⟨g, k * 5 + 4, none⟩ = some (.bool t.empty)
theorem cell_keep {w w' : World} {a : Addr} {v : Value} (h : w.cell? a = some v) (hb : Below w.heap.size w w') : w'.cell? a = some v := by
  refine (hb.cell ?_).trans h
  rcases Nat.lt_or_ge a.block w.heap.size with h' | h'
  · exact h'
  · simp [World.cell?, Array.getElem?_eq_none h'] at h
theorem Five.keep {w w' : World} {g k : Nat} {t : Tok} {a : Option Addr} {n : Nat} (h : Five w g k t a n) (hb : Below w.heap.size w w') : Five w' g k t a n :=
  ⟨cell_keep h.1 hb, cell_keep h.2.1 hb, cell_keep h.2.2.1 hb, cell_keep h.2.2.2.1 hb, cell_keep h.2.2.2.2 hb⟩
theorem held_start {w4 w' : World} {g1 g2 k : Nat} {t : Tok} {a1 a2 : Option Addr} {n1 n2 : Nat} (hX : Five w4 g1 k t a1 n1) (hY : Five w4 g2 k t a2 n2) (hb : Below w4.heap.size w4 w') : Below w4.heap.size w4 w' ∧ w'.cell? ⟨g1, k * 5, none⟩ = some (.int .i64 t.kind) ∧ w'.cell? ⟨g1, k * 5 + 1, none⟩ = some (.string ⟨t.name.toArray⟩) ∧ w'.cell? ⟨g1, k * 5 + 2, none⟩ = some (.string ⟨t.text.toArray⟩) ∧ w'.cell? ⟨g1, k * 5 + 3, none⟩ = some (.slice a1 t.attrs.length n1) ∧ w'.cell? ⟨g1, k * 5 + 4, none⟩ = some (.bool t.empty) ∧ w'.cell? ⟨g2, k * 5, none⟩ = some (.int .i64 t.kind) ∧ w'.cell? ⟨g2, k * 5 + 1, none⟩ = some (.string ⟨t.name.toArray⟩) ∧ w'.cell? ⟨g2, k * 5 + 2, none⟩ = some (.string ⟨t.text.toArray⟩) ∧ w'.cell? ⟨g2, k * 5 + 3, none⟩ = some (.slice a2 t.attrs.length n2) ∧ w'.cell? ⟨g2, k * 5 + 4, none⟩ = some (.bool t.empty) := by
  have h1 := hX.keep hb
  have h2 := hY.keep hb
  exact ⟨hb, h1.1, h1.2.1, h1.2.2.1, h1.2.2.2.1, h1.2.2.2.2, h2⟩
theorem bel_next {w0 w' w'' : World} (h : Below w0.heap.size w0 w') (hb : Below w'.heap.size w' w'') : Below w0.heap.size w0 w'' := h.trans (hb.mono h.size)
end Go.Proofs.YtkehbepopegboaaGreatDoor
