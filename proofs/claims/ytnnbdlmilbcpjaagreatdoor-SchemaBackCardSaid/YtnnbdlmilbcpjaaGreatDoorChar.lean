/-
  The kinds of bytes of layer 2 (names.char): each method's walk, for every byte; and names.all over a text, for a kind that no byte above 127 is of. No condition.
-/
import Derived.Test.YtnnbdlmilbcpjaaGreatDoorBase
import Derived.Test.YtnnbdlmilbcpjaaGreatDoorNamesPlain
import Derived.Deep.QuietTactic
import Derived.BigQuiet
import Derived.Lib.OthersKept
namespace Go.Proofs.YtnnbdlmilbcpjaaGreatDoor
open Go.RowKit
set_option linter.unusedVariables false

theorem letter_any (c : Int) (w : World) : Calls Tryz.prog 92 #[.int .u8 c] w fun e w' => e = .returned (.bool (letterB c)) ∧ w = w' := by
  rcases (by omega : c < 65 ∨ (65 ≤ c ∧ c ≤ 90) ∨ (90 < c ∧ c < 95) ∨ c = 95 ∨ c = 96 ∨ (97 ≤ c ∧ c ≤ 122) ∨ 122 < c) with h | ⟨h, h'⟩ | ⟨h, h'⟩ | rfl | rfl | ⟨h, h'⟩ | h
  all_goals
    go_enter Tryz.func92, Tryz.ntmps92
    go_wp2
    go_ret
    exact ⟨ret_bool (by unfold letterB; rw [Bool.eq_iff_iff]; simp <;> omega), rfl⟩
theorem decimal_any (c : Int) (w : World) : Calls Tryz.prog 119 #[.int .u8 c] w fun e w' => e = .returned (.bool (decB c)) ∧ w = w' := by
  rcases (by omega : c < 48 ∨ (48 ≤ c ∧ c ≤ 57) ∨ 57 < c) with h | ⟨h, h'⟩ | h
  all_goals
    go_enter Tryz.func119, Tryz.ntmps119
    go_wp2
    go_ret
    exact ⟨ret_bool (by unfold decB; rw [Bool.eq_iff_iff]; simp <;> omega), rfl⟩
theorem blank_any (c : Int) (w : World) : Calls Tryz.prog 73 #[.int .u8 c] w fun e w' => e = .returned (.bool (blankB c)) ∧ w = w' := by
  rcases (by omega : c = 9 ∨ c = 10 ∨ c = 13 ∨ c = 32 ∨ (c ≠ 9 ∧ c ≠ 10 ∧ c ≠ 13 ∧ c ≠ 32)) with rfl | rfl | rfl | rfl | ⟨h1, h2, h3, h4⟩
  all_goals
    go_enter Tryz.func73, Tryz.ntmps73
    go_wp2
    go_ret
    exact ⟨ret_bool (by unfold blankB; rw [Bool.eq_iff_iff]; simp <;> omega), rfl⟩
theorem part_any (c : Int) (w : World) : Calls Tryz.prog 93 #[.int .u8 c] w fun e w' => e = .returned (.bool (partB c)) ∧ w = w' := by
  have hp : partB c = (letterB c || decB c || decide (c = 45 ∨ c = 46)) := rfl
  generalize partB c = pc at hp
  have Hp := Lib.hid hp
  clear hp
  go_enter Tryz.func93, Tryz.ntmps93
  go_wp2_with fail
  refine (letter_any c _).mono ?_
  rintro e w' ⟨rfl, rfl⟩
  generalize letterB c = q at Hp
  cases q with
  | true =>
    go_wp2_with fail
    go_ret
    exact ⟨ret_bool (by rw [Hp.out]; rfl), rfl⟩
  | false =>
    go_wp2_with fail
    refine (decimal_any c _).mono ?_
    rintro e w' ⟨rfl, rfl⟩
    generalize decB c = q at Hp
    cases q with
    | true =>
      go_wp2_with fail
      go_ret
      exact ⟨ret_bool (by rw [Hp.out]; rfl), rfl⟩
    | false =>
      rcases (by omega : c = 45 ∨ c = 46 ∨ (c ≠ 45 ∧ c ≠ 46)) with rfl | rfl | ⟨h1, h2⟩
      all_goals
        go_wp2_with fail
        go_ret
        exact ⟨ret_bool (by rw [Hp.out]; rw [Bool.eq_iff_iff]; simp <;> omega), rfl⟩
/-- what a kind of bytes owes: it answers by the byte, and touches nothing; no byte above 127 is of it -/
def KindOf (f : Nat) (k : Int → Bool) : Prop := (∀ (c : Int) (w : World), Calls Tryz.prog f #[.int .u8 c] w fun e w' => e = .returned (.bool (k c)) ∧ w = w') ∧ (∀ c : Int, 128 ≤ c → k c = false) ∧ ∀ (args : Array Value) (w : World), (callFunc f args).run Tryz.prog w = .ok (.enter f args) w
set_option maxRecDepth 100000 in
theorem all_any (f : Nat) (k : Int → Bool) (hk : KindOf f k) (s : ByteArray) (w : World) (hs : s.size ≤ 9223372036854775807) :
    Calls Tryz.prog 72 #[.string s, .func (.func f) #[] #[]] w fun e w' => e = .returned (.bool (allB k s.data.toList)) ∧ Below w.heap.size w w' := by
  have hcall := hk.2.2
  go_enter Tryz.func72, Tryz.ntmps72
  go_wp2_with fail
  go_loopw [] (fun wr => ∃ pos : Nat, pos ≤ s.size ∧ wr.heap[w.heap.size]? = some (.stringIter s pos) ∧ Below w.heap.size w wr ∧ Hid (allB k (s.data.toList.take pos) = true)) (fun wr => s.size - wr.iterPos w.heap.size)
  case atStart =>
    refine ⟨0, Nat.zero_le _, ?_, (Below.refl _ w).alloc (Nat.le_refl _) _, rfl⟩
    have := World.iter_heap w s 0
    simpa using this
  case round =>
    obtain ⟨pos, hps, hit, hbw, hall⟩ := hrel
    have hsz : w.heap.size < wr.heap.size := (Array.getElem?_eq_some_iff.1 hit).1
    by_cases hp : pos < s.size
    · have hlen : s.data.toList.length = s.size := (Lib.size_eq s).symm
      have hget : s.data.toList[pos]'(by omega) = s[pos] := by simp; rfl
      have htk : s.data.toList.take (pos + 1) = s.data.toList.take pos ++ [s[pos]] := by
        rw [List.take_succ_eq_append_getElem (by omega), hget]
      have hall2 := hall.out
      by_cases hkc : k (s[pos].toNat : Nat) = true
      · have hasc : (s[pos]'hp).toNat < 128 := by
          rcases Nat.lt_or_ge (s[pos]'hp).toNat 128 with h | h
          · exact h
          · have := hk.2.1 (s[pos].toNat : Nat) (by omega)
            rw [this] at hkc; simp at hkc
        have hnx : ∀ ty, (Instr.next (.pointer (some ⟨w.heap.size, 0, none⟩)) true ty).run Tryz.prog wr = _ := fun ty => Lib.run_next_ascii_at wr w.heap.size s pos ty hit hp hasc
        have hit2 := Lib.iterAt_heap wr w.heap.size s pos (pos + 1) hit
        have hbw2 := Lib.below_iterAt hbw (k := w.heap.size) (Nat.le_refl _) s (pos + 1)
        have hall3 : Hid (allB k (s.data.toList.take (pos + 1)) = true) := by
          show allB k (s.data.toList.take (pos + 1)) = true
          rw [htk]
          unfold allB at hall2 ⊢
          rw [List.all_append, hall2]
          simp [hkc]
        have Hkc := Lib.hid hkc
        clear hkc htk hall2 hall hget hlen
        go_wp2_with fail
        refine (hk.1 (s[pos].toNat : Nat) _).mono ?_
        rintro e w' ⟨rfl, rfl⟩
        rw [Hkc.out]
        go_wp2_with fail
        go_roundw
        case rel => exact ⟨pos + 1, by omega, hit2, hbw2, hall3⟩
        case measure =>
          simp only [World.iterPos, hit, hit2]
          omega
      · have hkf : k (s[pos].toNat : Nat) = false := by simpa using hkc
        have hnx : ∀ ty, (Instr.next (.pointer (some ⟨w.heap.size, 0, none⟩)) true ty).run Tryz.prog wr = _ := fun ty => Lib.run_next_any_at wr w.heap.size s pos ty hit hp
        have hbw2 := Lib.below_iterAt hbw (k := w.heap.size) (Nat.le_refl _) s (pos + (Utf8.decode s pos).2)
        have hfalse : allB k s.data.toList = false := by
          unfold allB
          rw [List.all_eq_false]
          exact ⟨s[pos], by rw [← hget]; exact List.getElem_mem _, by simpa using hkf⟩
        have Hkf := Lib.hid hkf
        have Hfalse := Lib.hid hfalse
        clear hkc htk hall2 hall hkf hfalse hget hlen
        go_wp2_with fail
        refine (hk.1 (s[pos].toNat : Nat) _).mono ?_
        rintro e w' ⟨rfl, rfl⟩
        rw [Hkf.out]
        go_wp2_with fail
        go_ret
        exact ⟨ret_bool Hfalse.out.symm, hbw2⟩
    · have hnx : ∀ ty, (Instr.next (.pointer (some ⟨w.heap.size, 0, none⟩)) true ty).run Tryz.prog wr = _ := fun ty => Lib.run_next_end_at wr w.heap.size s pos ty hit hp
      go_wp2_with fail
      go_ret
      have h := hall.out
      rw [List.take_of_length_le (by rw [← Lib.size_eq s]; omega)] at h
      exact ⟨ret_bool h.symm, hbw⟩
theorem kind_part : KindOf 93 partB := ⟨part_any, fun c h => by unfold partB letterB decB; simp; omega, fun _ _ => by kernel_rfl⟩
theorem kind_blank : KindOf 73 blankB := ⟨blank_any, fun c h => by unfold blankB; simp; omega, fun _ _ => by kernel_rfl⟩
theorem kind_decimal : KindOf 119 decB := ⟨decimal_any, fun c h => by unfold decB; simp; omega, fun _ _ => by kernel_rfl⟩
end Go.Proofs.YtnnbdlmilbcpjaaGreatDoor
