/-
  What a schema's row of types holds in memory: plain facts. No condition.
-/
import Derived.Test.YtnnbdlmilbcpjaaGreatDoorSSyms3
namespace Go.Proofs.YtnnbdlmilbcpjaaGreatDoor
open Go.RowKit
set_option linter.unusedVariables false
/-- a type, and where its row of attributes and its content lie (address and room) -/
structure TyV where
  t : SType
  ao : Option Addr
  ac : Nat
  no : Option Addr
  nc : Nat
def typeRow (x : TyV) : List Value := [.string ⟨x.t.name.toArray⟩, .string ⟨x.t.label.toArray⟩, .slice x.ao x.t.attrs.length x.ac, .string ⟨x.t.key.toArray⟩, .bool x.t.text, .slice x.no x.t.nodes.length x.nc]
/-- its value -/
def typeVal (x : TyV) : Value := .agg (typeRow x).toArray
/-- a slice leads to these words -/
def WordsIn (w : World) (o : Option Addr) (cap : Nat) (l : List Bytes) : Prop := RowAt w o l.length cap 1 (l.map encStr)
theorem WordsIn.below {w w' : World} {o : Option Addr} {cap : Nat} {l : List Bytes} (h : WordsIn w o cap l) (hb : Below w.heap.size w w') : WordsIn w' o cap l := RowAt.below h hb
theorem WordsIn.at {w : World} {o : Option Addr} {cap : Nat} {l : List Bytes} (h : WordsIn w o cap l) {k : Nat} {b : Bytes} (hx : l[k]? = some b) :
    ∃ g off, o = some ⟨g, off, none⟩ ∧ g < w.heap.size ∧ w.cell? ⟨g, off + k, none⟩ = some (.string ⟨b.toArray⟩) := by
  have hk := (List.getElem?_eq_some_iff.1 hx).1
  obtain ⟨g, off, e, hlt, hc⟩ := h.2.2.2 (by omega)
  exact ⟨g, off, e, hlt, hc k _ (by rw [List.getElem?_map, hx]; rfl)⟩
/-- a slice leads to these types -/
def TypesAt (w : World) (o : Option Addr) (cap : Nat) (l : List TyV) : Prop :=
  RowAt w o l.length cap 6 (l.flatMap typeRow) ∧ ∀ x ∈ l, WordsIn w x.ao x.ac x.t.attrs ∧ NodesAt w x.no x.nc x.t.nodes
theorem TypesAt.below {w w' : World} {o : Option Addr} {cap : Nat} {l : List TyV} (h : TypesAt w o cap l) (hb : Below w.heap.size w w') : TypesAt w' o cap l :=
  ⟨h.1.below hb, fun x hx => ⟨(h.2 x hx).1.below hb, (h.2 x hx).2.below hb⟩⟩
theorem TypesAt.at {w : World} {o : Option Addr} {cap : Nat} {l : List TyV} (h : TypesAt w o cap l) {k : Nat} {x : TyV} (hx : l[k]? = some x) :
    ∃ b off, o = some ⟨b, off, none⟩ ∧ b < w.heap.size ∧ w.cell? ⟨b, off + k * 6, none⟩ = some (.string ⟨x.t.name.toArray⟩) ∧ w.cell? ⟨b, off + k * 6 + 1, none⟩ = some (.string ⟨x.t.label.toArray⟩) ∧
      w.cell? ⟨b, off + k * 6 + 2, none⟩ = some (.slice x.ao x.t.attrs.length x.ac) ∧ w.cell? ⟨b, off + k * 6 + 3, none⟩ = some (.string ⟨x.t.key.toArray⟩) ∧ w.cell? ⟨b, off + k * 6 + 4, none⟩ = some (.bool x.t.text) ∧
      w.cell? ⟨b, off + k * 6 + 5, none⟩ = some (.slice x.no x.t.nodes.length x.nc) := by
  have hk := (List.getElem?_eq_some_iff.1 hx).1
  obtain ⟨b, off, e, hlt, hc⟩ := h.1.2.2.2 (by omega)
  have hr := row4_at (f := typeRow) 6 (fun _ => rfl) hx
  refine ⟨b, off, e, hlt, ?_, ?_, ?_, ?_, ?_, ?_⟩
  · exact hc (k * 6) _ ((hr 0 (by omega)).trans rfl)
  · have := hc (k * 6 + 1) _ ((hr 1 (by omega)).trans rfl); rwa [← Nat.add_assoc] at this
  · have := hc (k * 6 + 2) _ ((hr 2 (by omega)).trans rfl); rwa [← Nat.add_assoc] at this
  · have := hc (k * 6 + 3) _ ((hr 3 (by omega)).trans rfl); rwa [← Nat.add_assoc] at this
  · have := hc (k * 6 + 4) _ ((hr 4 (by omega)).trans rfl); rwa [← Nat.add_assoc] at this
  · have := hc (k * 6 + 5) _ ((hr 5 (by omega)).trans rfl); rwa [← Nat.add_assoc] at this
end Go.Proofs.YtnnbdlmilbcpjaaGreatDoor
