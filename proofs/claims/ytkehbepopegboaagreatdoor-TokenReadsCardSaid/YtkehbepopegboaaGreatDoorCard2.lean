/-
  From a row's listed variables, and the world's shape, to what the walks ask of the package-level variables.
  What the rows on byte slices share: what a byte slice that came in holds.
-/
import Derived.Test.YtkehbepopegboaaGreatDoorRows
import Derived.Test.YtkehbepopegboaaGreatDoorSole
import Derived.Lib.LaidU8
import Derived.LaidMore
import Derived.Stop.Joined
import Derived.MakeChecks
import Derived.Shelf.Vars
import Derived.Test.YtkehbepopegboaaGreatDoorAll1
import Derived.WalkKit
import Derived.ProofKit
import Derived.OpenShut
import Derived.ShutString
import Derived.ChangeOld
import Derived.Below
namespace Go.Proofs.YtkehbepopegboaaGreatDoor
open Go.RowKit
set_option linter.unusedVariables false
theorem Tryz.gSpans : Tryz.prog.globalNamed "spyglass/utf.spans" = some 0 := by kernel_rfl
theorem Tryz.tSpans : (Tryz.prog.globals[0]?).map (·.type) = some 111 := by kernel_rfl
theorem Tryz.cSpan : Tryz.prog.cellsOf 109 = 2 := by kernel_rfl
theorem Tryz.cI32 : Tryz.prog.cellsOf 21 = 1 := by kernel_rfl
theorem spans_of_reads {w : World} (h : Lib.VarReads Tryz.prog w "spyglass/utf.spans" Rows.laid_spyglass_utf_spans) : Spans w := by
  obtain ⟨g, t, cs, fuel, p, hg, hty, hvar, hd⟩ := h
  obtain rfl := Option.some.inj (Tryz.gSpans.symm.trans hg)
  obtain rfl := Option.some.inj (Tryz.tSpans.symm.trans hty)
  have main : ∀ i : Nat, i < 5 → cs[i * 2]? = some (.int .i32 (spanNums.getD (i * 2) 0)) ∧ cs[i * 2 + 1]? = some (.int .i32 (spanNums.getD (i * 2 + 1) 0)) := by
    intro i hi
    obtain ⟨fuel', d, q, hdi, he⟩ := Lib.array_elem Tryz.underlying111 hd i hi
    have hdd : d = .agg ([spanNums.getD (i * 2) 0, spanNums.getD (i * 2 + 1) 0].map fun z => DataW.lit (.int .i32 z)) := by
      have : i = 0 ∨ i = 1 ∨ i = 2 ∨ i = 3 ∨ i = 4 := by omega
      rcases this with rfl | rfl | rfl | rfl | rfl <;> exact (Option.some.inj hdi).symm
    subst hdd
    rw [Tryz.cSpan] at he
    have hcs := Lib.ints_of_struct Tryz.underlying109 (fun j f hj => by
      match j, hj with
      | 0, hj => simp at hj; subst hj; exact ⟨Tryz.underlying21, rfl, Tryz.cI32⟩
      | 1, hj => simp at hj; subst hj; exact ⟨Tryz.underlying21, rfl, Tryz.cI32⟩
      | j + 2, hj => simp at hj) (by rw [Tryz.cSpan]; rfl) he
    have e0 := congrArg (·[0]?) hcs
    have e1 := congrArg (·[1]?) hcs
    simp [List.getElem?_drop] at e0 e1
    exact ⟨by simpa using e0, by simpa using e1⟩
  intro i hi
  rw [World.var?_cell hg hvar i]
  have h2 : i = (i / 2) * 2 ∨ i = (i / 2) * 2 + 1 := by omega
  have := main (i / 2) (by omega)
  rcases h2 with h2 | h2
  · rw [h2]; exact this.1
  · rw [h2]; exact this.2
theorem size_of_reads {w : World} {n : String} {d : DataW Unit} {g : Nat} (hg : Tryz.prog.globalNamed n = some g) (h : Lib.VarReads Tryz.prog w n d) : g < w.heap.size := by
  obtain ⟨g', t, cs, fuel, p, hg', hty, hvar, hd⟩ := h
  unfold World.var? at hvar
  rw [hg] at hvar
  rcases Nat.lt_or_ge g w.heap.size with h' | h'
  · exact h'
  · simp [Array.getElem?_eq_none h'] at hvar
theorem maxlen_of_shape {w : World} (h : w.ShapedOpen Tryz.prog) : ∃ m, w.cell? ⟨1, 0, none⟩ = some (.int .i64 m) :=
  cell_of_shapedOpen_int (zero := #[.int .i64 0]) (t := 3) h (of_decide_eq_true (by kernel_rfl)) (by kernel_rfl) rfl (by kernel_rfl) (by kernel_rfl) Tryz.underlying3
theorem gl_of {l : List (String × DataW Unit)} {w : World} (h : laidMet Tryz.prog l w) (hs : w.ShapedOpen Tryz.prog) (h1 : ("spyglass/utf.spans", Rows.laid_spyglass_utf_spans) ∈ l) (h2 : ("math/bits.deBruijn64tab", Rows.laid_math_bits_deBruijn64tab) ∈ l) : Gl w := by
  refine ⟨spans_of_reads (Lib.laidMet.reads h h1), maxlen_of_shape hs, ?_⟩
  have : 8 < w.heap.size := size_of_reads (by kernel_rfl) (Lib.laidMet.reads h h2)
  omega
open Go.ChangeShapes Go.WideShapes Go.ChangeAt Go.RowKit
open Go.ChangeMaps (open_string shut_string)
set_option linter.unusedVariables false
theorem own : ownKnob Tryz.prog.godebug = none := by kernel_rfl
theorem laidOut : laidOutB Tryz.prog = true := by kernel_rfl
theorem bytesV_of {H : Type} {W : World} {enc : TypeId × Value → H} {d0 : DataW H} {p0 : List MemPlace} {fuel : Nat} {a0 : Option Addr} {len0 cap0 : Nat}
    (h0 : DataW.trod enc Tryz.prog W 0 (fun _ => true) true fuel 22 (Value.slice a0 len0 cap0).cells.toList = some (d0, p0)) : ∃ l : Bytes, l.length = len0 ∧ BytesV W a0 cap0 l := by
  rcases open_ints Tryz.underlying22 Tryz.underlying5 (by kernel_rfl) h0 with ⟨hcs, _⟩ | ⟨x, l, c, zs, hcs, _, hl, hm, hz, _, hcell, hwz⟩
  · simp [Value.cells] at hcs
    obtain ⟨rfl, rfl, rfl⟩ := hcs
    exact ⟨[], rfl, .inl ⟨rfl, by unfold maxLen; omega, fun _ => rfl⟩⟩
  · simp [Value.cells] at hcs
    obtain ⟨rfl, rfl, rfl⟩ := hcs
    have hz' : zs.length = cap0 := by simpa using hz
    have hll : ((zs.take len0).map fun n => n.toNat.toUInt8).length = len0 := by rw [List.length_map, List.length_take]; omega
    refine ⟨(zs.take len0).map fun n => n.toNat.toUInt8, hll, ?_⟩
    by_cases h : len0 = 0
    · exact .inl ⟨List.length_eq_zero_iff.1 (by omega), hm, fun e => by cases e⟩
    · have c0 := hcell 0 (by omega)
      have hsp : x.spot = none := World.cell?_spot (a := x) (by simpa [Addr.add] using c0)
      obtain ⟨b, off, sp⟩ := x
      simp only at hsp
      subst hsp
      refine .inr ⟨b, off, rfl, by omega, hm, fun i hi => ?_, ?_⟩
      · rw [hll] at hi
        have ci := hcell i (by omega)
        have e1 : (⟨b, off, none⟩ : Addr).add i = ⟨b, off + i, none⟩ := by
          by_cases h0 : i = 0
          · subst h0; simp [Addr.add]
          · simp [Addr.add, h0]
        rw [e1] at ci
        rw [ci]
        have hzi : zs[i]? = some (zs.getD i 0) := by
          rw [List.getD_eq_getElem?_getD, List.getElem?_eq_getElem (by omega)]; rfl
        have hw := hwz _ (List.mem_of_getElem? hzi)
        generalize zs.getD i 0 = zi at hw hzi ⊢
        simp [Lit.wf, IntKind.min, IntKind.max, IntKind.signed, IntKind.bits] at hw
        have hgi : ((zs.take len0).map fun n => n.toNat.toUInt8).getD i 0 = zi.toNat.toUInt8 := by
          rw [List.getD_eq_getElem?_getD, List.getElem?_map, List.getElem?_take_of_lt hi, hzi]; rfl
        rw [hgi]
        have hn : (zi.toNat.toUInt8).toNat = zi.toNat := by
          simp; omega
        rw [hn]
        congr 2
        omega
      · have c0 : W.cell? ⟨b, off, none⟩ = some (.int .u8 (zs.getD 0 0)) := by simpa [Addr.add] using c0
        rcases Nat.lt_or_ge b W.heap.size with h' | h'
        · exact h'
        · simp [World.cell?, Array.getElem?_eq_none h'] at c0
end Go.Proofs.YtkehbepopegboaaGreatDoor
