/-
  From a row's listed variables, and the world's shape, to what the walks ask of the package-level variables.
-/
import Derived.Test.YtkehbepopegboaaDoorRows
import Derived.Test.YtkehbepopegboaaDoorSole
import Derived.Lib.LaidU8
import Derived.LaidMore
import Derived.Stop.Joined
import Derived.MakeChecks
import Derived.Shelf.Vars
namespace Go.Proofs.YtkehbepopegboaaDoor
open Go.RowKit
set_option linter.unusedVariables false
theorem Tryd.gSpans : Tryd.prog.globalNamed "spyglass/utf.spans" = some 0 := by kernel_rfl
theorem Tryd.tSpans : (Tryd.prog.globals[0]?).map (·.type) = some 91 := by kernel_rfl
theorem Tryd.cSpan : Tryd.prog.cellsOf 89 = 2 := by kernel_rfl
theorem Tryd.cI32 : Tryd.prog.cellsOf 21 = 1 := by kernel_rfl
theorem spans_of_reads {w : World} (h : Lib.VarReads Tryd.prog w "spyglass/utf.spans" Rows.laid_spyglass_utf_spans) : Spans w := by
  obtain ⟨g, t, cs, fuel, p, hg, hty, hvar, hd⟩ := h
  obtain rfl := Option.some.inj (Tryd.gSpans.symm.trans hg)
  obtain rfl := Option.some.inj (Tryd.tSpans.symm.trans hty)
  have main : ∀ i : Nat, i < 5 → cs[i * 2]? = some (.int .i32 (spanNums.getD (i * 2) 0)) ∧ cs[i * 2 + 1]? = some (.int .i32 (spanNums.getD (i * 2 + 1) 0)) := by
    intro i hi
    obtain ⟨fuel', d, q, hdi, he⟩ := Lib.array_elem Tryd.underlying91 hd i hi
    have hdd : d = .agg ([spanNums.getD (i * 2) 0, spanNums.getD (i * 2 + 1) 0].map fun z => DataW.lit (.int .i32 z)) := by
      have : i = 0 ∨ i = 1 ∨ i = 2 ∨ i = 3 ∨ i = 4 := by omega
      rcases this with rfl | rfl | rfl | rfl | rfl <;> exact (Option.some.inj hdi).symm
    subst hdd
    rw [Tryd.cSpan] at he
    have hcs := Lib.ints_of_struct Tryd.underlying89 (fun j f hj => by
      match j, hj with
      | 0, hj => simp at hj; subst hj; exact ⟨Tryd.underlying21, rfl, Tryd.cI32⟩
      | 1, hj => simp at hj; subst hj; exact ⟨Tryd.underlying21, rfl, Tryd.cI32⟩
      | j + 2, hj => simp at hj) (by rw [Tryd.cSpan]; rfl) he
    have e0 := congrArg (·[0]?) hcs
    have e1 := congrArg (·[1]?) hcs
    simp [List.getElem?_drop] at e0 e1
    exact ⟨by simpa using e0, by simpa using e1⟩
  intro i hi
  rw [World.var?_cell hg hvar i]
  have h2 : i = (i / 2) * 2 ∨ i = (i / 2) * 2 + 1 := by omega
  have := main (i / 2) (by omega)
  rcases h2 with h2 | h2
  · rw [h2]; exact this.1
  · rw [h2]; exact this.2
theorem size_of_reads {w : World} {n : String} {d : DataW Unit} {g : Nat} (hg : Tryd.prog.globalNamed n = some g) (h : Lib.VarReads Tryd.prog w n d) : g < w.heap.size := by
  obtain ⟨g', t, cs, fuel, p, hg', hty, hvar, hd⟩ := h
  unfold World.var? at hvar
  rw [hg] at hvar
  rcases Nat.lt_or_ge g w.heap.size with h' | h'
  · exact h'
  · simp [Array.getElem?_eq_none h'] at hvar
theorem maxlen_of_shape {w : World} (h : w.ShapedOpen Tryd.prog) : ∃ m, w.cell? ⟨1, 0, none⟩ = some (.int .i64 m) :=
  cell_of_shapedOpen_int (zero := #[.int .i64 0]) (t := 3) h (of_decide_eq_true (by kernel_rfl)) (by kernel_rfl) rfl (by kernel_rfl) (by kernel_rfl) Tryd.underlying3
theorem gl_of {l : List (String × DataW Unit)} {w : World} (h : laidMet Tryd.prog l w) (hs : w.ShapedOpen Tryd.prog) (h1 : ("spyglass/utf.spans", Rows.laid_spyglass_utf_spans) ∈ l) (h2 : ("math/bits.deBruijn64tab", Rows.laid_math_bits_deBruijn64tab) ∈ l) : Gl w := by
  refine ⟨spans_of_reads (Lib.laidMet.reads h h1), maxlen_of_shape hs, ?_⟩
  have : 8 < w.heap.size := size_of_reads (by kernel_rfl) (Lib.laidMet.reads h h2)
  omega
end Go.Proofs.YtkehbepopegboaaDoor
