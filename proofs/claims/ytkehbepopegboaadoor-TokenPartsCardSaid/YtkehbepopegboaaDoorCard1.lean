/-
  What the rows on byte slices share: what a byte slice that came in holds.
-/
import Derived.Test.YtkehbepopegboaaDoorAll1
import Derived.Test.YtkehbepopegboaaDoorCard0
import Derived.WalkKit
import Derived.ProofKit
import Derived.OpenShut
import Derived.ShutString
import Derived.ChangeOld
import Derived.Below
namespace Go.Proofs.YtkehbepopegboaaDoor
open Go.ChangeShapes Go.WideShapes Go.ChangeAt Go.RowKit
open Go.ChangeMaps (open_string shut_string)
set_option linter.unusedVariables false
theorem own : ownKnob Tryd.prog.godebug = none := by kernel_rfl
theorem laidOut : laidOutB Tryd.prog = true := by kernel_rfl
theorem bytesV_of {H : Type} {W : World} {enc : TypeId × Value → H} {d0 : DataW H} {p0 : List MemPlace} {fuel : Nat} {a0 : Option Addr} {len0 cap0 : Nat}
    (h0 : DataW.trod enc Tryd.prog W 0 (fun _ => true) true fuel 22 (Value.slice a0 len0 cap0).cells.toList = some (d0, p0)) : ∃ l : Bytes, l.length = len0 ∧ BytesV W a0 cap0 l := by
  rcases open_ints Tryd.underlying22 Tryd.underlying5 (by kernel_rfl) h0 with ⟨hcs, _⟩ | ⟨x, l, c, zs, hcs, _, hl, hm, hz, _, hcell, hwz⟩
  · simp [Value.cells] at hcs
    obtain ⟨rfl, rfl, rfl⟩ := hcs
    exact ⟨[], rfl, .inl ⟨rfl, by unfold maxLen; omega, fun _ => rfl⟩⟩
  · simp [Value.cells] at hcs
    obtain ⟨rfl, rfl, rfl⟩ := hcs
    have hz' : zs.length = cap0 := by simpa using hz
    have hll : ((zs.take len0).map fun n => n.toNat.toUInt8).length = len0 := by rw [List.length_map, List.length_take]; omega
    refine ⟨(zs.take len0).map fun n => n.toNat.toUInt8, hll, ?_⟩
    by_cases h : len0 = 0
    · exact .inl ⟨List.length_eq_zero_iff.1 (by omega), hm, fun e => by cases e⟩
    · have c0 := hcell 0 (by omega)
      have hsp : x.spot = none := World.cell?_spot (a := x) (by simpa [Addr.add] using c0)
      obtain ⟨b, off, sp⟩ := x
      simp only at hsp
      subst hsp
      refine .inr ⟨b, off, rfl, by omega, hm, fun i hi => ?_, ?_⟩
      · rw [hll] at hi
        have ci := hcell i (by omega)
        have e1 : (⟨b, off, none⟩ : Addr).add i = ⟨b, off + i, none⟩ := by
          by_cases h0 : i = 0
          · subst h0; simp [Addr.add]
          · simp [Addr.add, h0]
        rw [e1] at ci
        rw [ci]
        have hzi : zs[i]? = some (zs.getD i 0) := by
          rw [List.getD_eq_getElem?_getD, List.getElem?_eq_getElem (by omega)]; rfl
        have hw := hwz _ (List.mem_of_getElem? hzi)
        generalize zs.getD i 0 = zi at hw hzi ⊢
        simp [Lit.wf, IntKind.min, IntKind.max, IntKind.signed, IntKind.bits] at hw
        have hgi : ((zs.take len0).map fun n => n.toNat.toUInt8).getD i 0 = zi.toNat.toUInt8 := by
          rw [List.getD_eq_getElem?_getD, List.getElem?_map, List.getElem?_take_of_lt hi, hzi]; rfl
        rw [hgi]
        have hn : (zi.toNat.toUInt8).toNat = zi.toNat := by
          simp; omega
        rw [hn]
        congr 2
        omega
      · have c0 : W.cell? ⟨b, off, none⟩ = some (.int .u8 (zs.getD 0 0)) := by simpa [Addr.add] using c0
        rcases Nat.lt_or_ge b W.heap.size with h' | h'
        · exact h'
        · simp [World.cell?, Array.getElem?_eq_none h'] at c0
end Go.Proofs.YtkehbepopegboaaDoor
