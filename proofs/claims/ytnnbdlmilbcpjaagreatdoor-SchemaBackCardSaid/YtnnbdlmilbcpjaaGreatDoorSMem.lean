/-
  What rows of nodes, of words and of types hold in memory: plain facts. No condition.
-/
import Derived.Test.YtnnbdlmilbcpjaaGreatDoorBase
import Derived.Test.YtnnbdlmilbcpjaaGreatDoorSPlain
import Derived.Below
namespace Go.Proofs.YtnnbdlmilbcpjaaGreatDoor
open Go.RowKit
set_option linter.unusedVariables false
/-- a slice of so many elements leads to these cells, in a block that is there -/
def RowAt (w : World) (o : Option Addr) (n cap size : Nat) (xs : List Value) : Prop :=
  xs.length = n * size ∧ n ≤ cap ∧ cap ≤ maxLen ∧ (0 < n → ∃ b off, o = some ⟨b, off, none⟩ ∧ b < w.heap.size ∧ ∀ j u, xs[j]? = some u → w.cell? ⟨b, off + j, none⟩ = some u)
theorem RowAt.below {w w' : World} {o : Option Addr} {n cap size : Nat} {xs : List Value} (h : RowAt w o n cap size xs) (hb : Below w.heap.size w w') : RowAt w' o n cap size xs := by
  refine ⟨h.1, h.2.1, h.2.2.1, fun hn => ?_⟩
  obtain ⟨b, off, e, hlt, hc⟩ := h.2.2.2 hn
  exact ⟨b, off, e, by have := hb.size; omega, fun j u hj => (hb.cell (p := ⟨b, off + j, none⟩) hlt).trans (hc j u hj)⟩
def nodeRow (n : SNode) : List Value := [.int .i64 n.op, .string ⟨n.sym.toArray⟩, .int .i64 n.a, .int .i64 n.b]
theorem row4_at {α : Type} {f : α → List Value} (size : Nat) (hf : ∀ x, (f x).length = size) {l : List α} {k : Nat} {x : α} (h : l[k]? = some x) : ∀ j, j < size → (l.flatMap f)[k * size + j]? = (f x)[j]? := by
  induction l generalizing k with
  | nil => simp at h
  | cons y r ih =>
    intro j hj
    rw [List.flatMap_cons]
    have hy := hf y
    cases k with
    | zero =>
      simp at h; subst h
      rw [Nat.zero_mul, Nat.zero_add, List.getElem?_append_left (by omega)]
    | succ k =>
      simp only [List.getElem?_cons_succ] at h
      rw [List.getElem?_append_right (by rw [hy, Nat.add_mul]; omega), hy, show (k + 1) * size + j - size = k * size + j from by rw [Nat.add_mul]; omega]
      exact ih h j hj
/-- a slice leads to these nodes -/
def NodesAt (w : World) (o : Option Addr) (cap : Nat) (l : List SNode) : Prop := RowAt w o l.length cap 4 (l.flatMap nodeRow)
theorem NodesAt.below {w w' : World} {o : Option Addr} {cap : Nat} {l : List SNode} (h : NodesAt w o cap l) (hb : Below w.heap.size w w') : NodesAt w' o cap l := RowAt.below h hb
theorem NodesAt.at {w : World} {o : Option Addr} {cap : Nat} {l : List SNode} (h : NodesAt w o cap l) {k : Nat} {n : SNode} (hx : l[k]? = some n) :
    ∃ b off, o = some ⟨b, off, none⟩ ∧ b < w.heap.size ∧ w.cell? ⟨b, off + k * 4, none⟩ = some (.int .i64 n.op) ∧ w.cell? ⟨b, off + k * 4 + 1, none⟩ = some (.string ⟨n.sym.toArray⟩) ∧ w.cell? ⟨b, off + k * 4 + 2, none⟩ = some (.int .i64 n.a) ∧ w.cell? ⟨b, off + k * 4 + 3, none⟩ = some (.int .i64 n.b) := by
  have hk := (List.getElem?_eq_some_iff.1 hx).1
  obtain ⟨b, off, e, hlt, hc⟩ := h.2.2.2 (by omega)
  have hr := row4_at (f := nodeRow) 4 (fun _ => rfl) hx
  refine ⟨b, off, e, hlt, ?_, ?_, ?_, ?_⟩
  · exact hc (k * 4) _ ((hr 0 (by omega)).trans rfl)
  · have := hc (k * 4 + 1) _ ((hr 1 (by omega)).trans rfl); rwa [← Nat.add_assoc] at this
  · have := hc (k * 4 + 2) _ ((hr 2 (by omega)).trans rfl); rwa [← Nat.add_assoc] at this
  · have := hc (k * 4 + 3) _ ((hr 3 (by omega)).trans rfl); rwa [← Nat.add_assoc] at this
/-- so often each place has been used -/
def usesV (l : List SNode) (n k : Nat) : List Value := (List.range n).map fun j => Value.int .i64 (usedS (l.take k) j : Nat)
theorem usesV_len (l : List SNode) (n k : Nat) : (usesV l n k).length = n := by simp [usesV]
theorem usesV_get (l : List SNode) (n k j : Nat) (h : j < n) : (usesV l n k)[j]? = some (.int .i64 (usedS (l.take k) j : Nat)) := by simp [usesV, h]
end Go.Proofs.YtnnbdlmilbcpjaaGreatDoor
