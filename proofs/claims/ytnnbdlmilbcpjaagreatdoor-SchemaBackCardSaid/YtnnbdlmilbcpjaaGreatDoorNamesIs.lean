/-
  names.Is and names.Blank answer which texts are names, and which are of blanks alone: their walks, for every text. No condition.
-/
import Derived.Test.YtnnbdlmilbcpjaaGreatDoorChar
namespace Go.Proofs.YtnnbdlmilbcpjaaGreatDoor
open Go.RowKit
set_option linter.unusedVariables false
set_option maxRecDepth 100000 in
theorem names_Blank (s : ByteArray) (w : World) (hs : s.size ≤ 9223372036854775807) :
    Calls Tryz.prog 37 #[.string s] w fun e w' => e = .returned (.bool (allB blankB s.data.toList)) ∧ Below w.heap.size w w' := by
  go_enter Tryz.func37, Tryz.ntmps37
  go_wp2_with fail
  refine (all_any _ _ kind_blank s _ hs).mono ?_
  rintro e w' ⟨rfl, hb⟩
  go_wp2_with fail
  go_ret
  exact ⟨rfl, hb⟩
set_option maxRecDepth 100000 in
theorem names_Is (s : ByteArray) (w : World) (hs : s.size ≤ 9223372036854775807) :
    Calls Tryz.prog 63 #[.string s] w fun e w' => e = .returned (.bool (isName s.data.toList)) ∧ Below w.heap.size w w' := by
  have hlen : s.data.toList.length = s.size := (Lib.size_eq s).symm
  have hp : isName s.data.toList = (decide (1 ≤ s.size ∧ s.size ≤ 64) && letterB ((s.data.toList.headD 0).toNat : Nat) && allB partB s.data.toList) := by
    unfold isName; rw [hlen]
  generalize isName s.data.toList = pc at hp
  have Hp := Lib.hid hp
  by_cases h1 : 1 ≤ s.size
  · have hhd : s.data.toList.headD 0 = s[0] := by
      rw [List.headD_eq_head?_getD, List.head?_eq_getElem?, Lib.data_getElem? s 0 h1]; rfl
    have Hhd := Lib.hid hhd
    clear hp hlen hhd
    by_cases h2 : s.size ≤ 64
    · go_enter Tryz.func63, Tryz.ntmps63
      go_wp2_with fail
      refine (letter_any _ _).mono ?_
      rintro e w' ⟨rfl, rfl⟩
      cases hq : letterB ↑s[0].toNat with
      | true =>
        have Hq := Lib.hid hq
        clear hq
        go_wp2_with fail
        refine (all_any _ _ kind_part s _ hs).mono ?_
        rintro e w' ⟨rfl, hb⟩
        go_wp2_with fail
        go_ret
        exact ⟨ret_bool (by rw [Hp.out, Hhd.out, Hq.out]; simp [h1, h2]), hb⟩
      | false =>
        have Hq := Lib.hid hq
        clear hq
        go_wp2_with fail
        go_ret
        exact ⟨ret_bool (by rw [Hp.out, Hhd.out, Hq.out]; simp), Below.refl _ _⟩
    · go_enter Tryz.func63, Tryz.ntmps63
      go_wp2_with fail
      go_ret
      exact ⟨ret_bool (by rw [Hp.out]; simp; omega), Below.refl _ _⟩
  · clear hp hlen
    go_enter Tryz.func63, Tryz.ntmps63
    go_wp2_with fail
    go_ret
    exact ⟨ret_bool (by rw [Hp.out]; simp; omega), Below.refl _ _⟩
end Go.Proofs.YtnnbdlmilbcpjaaGreatDoor
