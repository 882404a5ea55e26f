/-
  Frames for methods that move a reading place: of all old blocks the one of the place alone may turn. And what is known of the program's package-level variables. Plain facts on memory.
-/
import Derived.Test.YtkehbepopegboaaGreatDoorUnesc
import Derived.Test.YtkehbepopegboaaGreatDoorTokPlain
namespace Go.Proofs.YtkehbepopegboaaGreatDoor
open Go.RowKit
set_option linter.unusedVariables false

/-- of all blocks of w that one alone may hold something else in w' -/
structure Sole (b : Nat) (w w' : World) : Prop where
  os : w'.os = w.os
  tape : w'.tape = w.tape
  output : w'.output = w.output
  size : w.heap.size ≤ w'.heap.size
  block : ∀ k, k < w.heap.size → k ≠ b → w'.heap[k]? = w.heap[k]?
theorem Sole.refl (b : Nat) (w : World) : Sole b w w := ⟨rfl, rfl, rfl, Nat.le_refl _, fun _ _ _ => rfl⟩
theorem Sole.trans {b : Nat} {a c d : World} (h : Sole b a c) (k : Sole b c d) : Sole b a d :=
  ⟨k.os.trans h.os, k.tape.trans h.tape, k.output.trans h.output, Nat.le_trans h.size k.size, fun i hi hb => (k.block i (Nat.lt_of_lt_of_le hi h.size) hb).trans (h.block i hi hb)⟩
theorem Sole.of {b : Nat} {w w' : World} (h : Below w.heap.size w w') : Sole b w w' := ⟨h.os, h.tape, h.output, h.size, fun k hk _ => h.block k hk⟩
theorem Sole.below {b B : Nat} {w w' : World} (h : Sole b w w') (hB : B ≤ b) (hw : B ≤ w.heap.size) : Below B w w' :=
  ⟨h.os, h.tape, h.output, h.size, fun k hk => h.block k (by omega) (by omega)⟩
theorem Sole.alloc {b : Nat} {a w : World} (h : Sole b a w) (o : Obj) : Sole b a (w.alloc o) := h.trans (Sole.of ((Below.refl _ _).alloc (Nat.le_refl _) _))
theorem Sole.drew {b : Nat} {a w : World} (h : Sole b a w) : Sole b a w.drew := h.trans (Sole.of (Below.refl _ _).drew)
theorem Sole.setCell {b : Nat} {a w : World} (h : Sole b a w) (o : Nat) (v : Value) : Sole b a (w.setCell ⟨b, o, none⟩ v) :=
  h.trans ⟨rfl, rfl, rfl, by simp [World.setCell], fun k hk hb => Below.heap_setCell _ _ _ _ hb⟩
theorem Sole.cell {b : Nat} {w w' : World} (h : Sole b w w') {k o : Nat} (hk : k < w.heap.size) (hb : k ≠ b) : w'.cell? ⟨k, o, none⟩ = w.cell? ⟨k, o, none⟩ := World.cell?_of_block (w := w) (h.block k hk hb)
theorem Sole.drewN {b : Nat} {w : World} (n : Nat) : Sole b w (w.drewN n) := by
  exact ⟨rfl, rfl, rfl, Nat.le_refl _, fun _ _ _ => rfl⟩

/-- what is known of the package-level variables: the table of spans; some number in MaxLen; their blocks are there -/
structure Gl (w : World) : Prop where
  spans : Spans w
  maxlen : ∃ m, w.cell? ⟨1, 0, none⟩ = some (.int .i64 m)
  size : 9 ≤ w.heap.size
theorem Gl.below {B : Nat} {w w' : World} (h : Gl w) (hB : 9 ≤ B) (hb : Below B w w') : Gl w' := by
  refine ⟨h.spans.below (by omega) hb, ?_, by have := h.size; have := hb.size; omega⟩
  obtain ⟨m, hm⟩ := h.maxlen
  exact ⟨m, by rw [hb.cell (p := ⟨1, 0, none⟩) (by show (1 : Nat) < B; omega)]; exact hm⟩
theorem Gl.sole {b : Nat} {w w' : World} (h : Gl w) (hb : 9 ≤ b) (hs : Sole b w w') : Gl w' := h.below (B := 9) (Nat.le_refl _) (hs.below hb h.size)

/-- a scanner (or its place) lies in block b: the document, and where reading is in it -/
def PlaceAt (w : World) (b : Nat) (doc : ByteArray) (p : Nat) : Prop := w.heap[b]? = some (.cells #[.string doc, .int .i64 p] 50 (0, 0))
theorem PlaceAt.lt {w : World} {b p : Nat} {doc : ByteArray} (h : PlaceAt w b doc p) : b < w.heap.size := lt_of_block h
theorem PlaceAt.doc {w : World} {b p : Nat} {doc : ByteArray} (h : PlaceAt w b doc p) : w.cell? ⟨b, 0, none⟩ = some (.string doc) := cell_of_row w b 0 _ _ _ h
theorem PlaceAt.pos {w : World} {b p : Nat} {doc : ByteArray} (h : PlaceAt w b doc p) : w.cell? ⟨b, 1, none⟩ = some (.int .i64 p) := cell_of_row w b 1 _ _ _ h
theorem PlaceAt.free {w : World} {b p : Nat} {doc : ByteArray} (h : PlaceAt w b doc p) (o : Nat) : w.frozen? ⟨b, o, none⟩ = false := by
  unfold PlaceAt at h; simp [World.frozen?, h]
theorem PlaceAt.below {w w' : World} {b p : Nat} {doc : ByteArray} (h : PlaceAt w b doc p) (hb : Below w.heap.size w w') : PlaceAt w' b doc p := (hb.block b h.lt).trans h
theorem PlaceAt.drew {w : World} {b p : Nat} {doc : ByteArray} (h : PlaceAt w b doc p) : PlaceAt w.drew b doc p := h
theorem PlaceAt.set {w : World} {b p : Nat} {doc : ByteArray} (h : PlaceAt w b doc p) (q : Nat) (v : Value) (hv : v = .int .i64 q) : PlaceAt (w.setCell ⟨b, 1, none⟩ v) b doc q := by
  subst hv
  have hlt := h.lt
  have h' : w.heap[b] = .cells #[.string doc, .int .i64 p] 50 (0, 0) := by unfold PlaceAt at h; simpa [Array.getElem?_eq_getElem hlt] using h
  show (w.heap.modify b _)[b]? = _
  rw [Array.getElem?_eq_getElem (by simpa using hlt), Array.getElem_modify_self, h']
  rfl
end Go.Proofs.YtkehbepopegboaaGreatDoor
