/-
  The document's answer, layer 1: which numbers are characters; the bytes of a character. Walks.
-/
import Derived.Test.YtkehbepopegboaaGreatDoorBase
import Derived.Test.YtkehbepopegboaaGreatDoorReadsPlain
import Derived.BigQuiet
namespace Go.Proofs.YtkehbepopegboaaGreatDoor
open Go.RowKit
set_option linter.unusedVariables false
theorem isCh_iff (n : Int) : isCh n = decide (n = 9 ∨ n = 10 ∨ n = 13 ∨ (32 ≤ n ∧ n ≤ 55295) ∨ (57344 ≤ n ∧ n ≤ 65533) ∨ (65536 ≤ n ∧ n ≤ 1114111)) := by
  rw [Bool.eq_iff_iff]
  simp [isCh, inSpan, los, his]
  omega
theorem rIs_any (n : Int) (w : World) : Calls Tryz.prog 27 #[.int .i64 n] w fun e w' => e = .returned (.bool (isCh n)) ∧ w = w' := by
  have h := isCh_iff n
  generalize isCh n = c at h
  have H := Lib.hid h
  clear h
  go_enter Tryz.func27, Tryz.ntmps27
  go_wp2_with fail
  all_goals
    go_ret
    exact ⟨ret_bool (by rw [H.out, Bool.eq_iff_iff]; simp; omega), rfl⟩
theorem rBytes_any (n : Int) (hn : isCh n = true) (w : World) : Calls Tryz.prog 28 #[.int .i64 n] w fun e w' => e = .returned (.slice (some ⟨w.heap.size, 0, none⟩) (Lib.runeCells n).length (Lib.runeCells n).length) ∧ w' = w.alloc (.cells (Lib.runeCells n).toArray 5) := by
  have hr := isCh_range hn
  rw [isCh_iff, decide_eq_true_eq] at hn
  by_cases h1 : n < 128
  · have e := Lib.encodeRuneZ_one (r := n) (by omega) (by omega)
    have hc : Lib.runeCells n = [.int .u8 n] := by unfold Lib.runeCells; rw [e]; rfl
    rw [hc]
    clear e hc hn
    go_enter Tryz.func28, Tryz.ntmps28
    go_wp2_with fail
    go_ret
    exact ⟨rfl, rfl⟩
  by_cases h2 : n < 2048
  · have e := Lib.encodeRuneZ_two (r := n) (by omega) (by omega)
    have hc : Lib.runeCells n = [.int .u8 (192 + n / 64), .int .u8 (128 + n % 64)] := by unfold Lib.runeCells; rw [e]; rfl
    rw [hc]
    clear e hc hn
    go_enter Tryz.func28, Tryz.ntmps28
    go_wp2_with fail
    go_ret
    exact ⟨rfl, rfl⟩
  by_cases h3 : n < 65536
  · have e := Lib.encodeRuneZ_three (r := n) (by omega)
    have hc : Lib.runeCells n = [.int .u8 (224 + n / 4096), .int .u8 (128 + n / 64 % 64), .int .u8 (128 + n % 64)] := by unfold Lib.runeCells; rw [e]; rfl
    rw [hc]
    clear e hc hn
    go_enter Tryz.func28, Tryz.ntmps28
    go_wp2_with fail
    go_ret
    exact ⟨rfl, rfl⟩
  · have e := Lib.encodeRuneZ_four (r := n) (by omega) (by omega)
    have hc : Lib.runeCells n = [.int .u8 (240 + n / 262144), .int .u8 (128 + n / 4096 % 64), .int .u8 (128 + n / 64 % 64), .int .u8 (128 + n % 64)] := by unfold Lib.runeCells; rw [e]; rfl
    rw [hc]
    clear e hc hn
    go_enter Tryz.func28, Tryz.ntmps28
    go_wp2_with fail
    go_ret
    exact ⟨rfl, rfl⟩
end Go.Proofs.YtkehbepopegboaaGreatDoor
