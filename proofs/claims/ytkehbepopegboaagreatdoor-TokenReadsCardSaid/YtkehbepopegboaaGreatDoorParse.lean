/-
  strconv.ParseUint at the bases 10 and 16, of up to eight digits of that base: the number that they tell, and no error. Conditions: each byte is a digit; one to eight bytes.
-/
import Derived.Test.YtkehbepopegboaaGreatDoorBase
import Derived.Test.YtkehbepopegboaaGreatDoorNamesPlain
import Derived.Lib.ConvBytes
import Derived.Lib.SmallJoins
import Derived.Laws.Strings3
import Derived.Laws.Closers25
import Derived.Laws.Closers25b
import Derived.BigCall
import Derived.BigGuard
import Derived.Lib.AtoiErrMem
namespace Go.Proofs.YtkehbepopegboaaGreatDoor
open Go.RowKit
set_option linter.unusedVariables false

theorem lower_up (c : Int) (w : World) (h0 : 65 ≤ c) (h1 : c ≤ 70) : Calls Tryz.prog 93 #[.int .u8 c] w fun e w' => e = .returned (.int .u8 (c + 32)) ∧ w = w' := by
  rcases (by omega : c = 65 ∨ c = 66 ∨ c = 67 ∨ c = 68 ∨ c = 69 ∨ c = 70) with rfl | rfl | rfl | rfl | rfl | rfl
  all_goals
    go_enter Tryz.func93, Tryz.ntmps93
    go_wp2
    go_ret
    exact ⟨rfl, rfl⟩
theorem lower_low (c : Int) (w : World) (h0 : 97 ≤ c) (h1 : c ≤ 102) : Calls Tryz.prog 93 #[.int .u8 c] w fun e w' => e = .returned (.int .u8 c) ∧ w = w' := by
  rcases (by omega : c = 97 ∨ c = 98 ∨ c = 99 ∨ c = 100 ∨ c = 101 ∨ c = 102) with rfl | rfl | rfl | rfl | rfl | rfl
  all_goals
    go_enter Tryz.func93, Tryz.ntmps93
    go_wp2
    go_ret
    exact ⟨rfl, rfl⟩

theorem pow16 (k : Nat) (h : k ≤ 7) : (16 : Int) ^ k ≤ 268435456 := by
  rcases (by omega : k = 0 ∨ k = 1 ∨ k = 2 ∨ k = 3 ∨ k = 4 ∨ k = 5 ∨ k = 6 ∨ k = 7) with rfl | rfl | rfl | rfl | rfl | rfl | rfl | rfl <;> decide
theorem decB_iff (c : Int) : decB c = true ↔ 48 ≤ c ∧ c ≤ 57 := by unfold decB; simp
theorem hexB_iff (c : Int) : hexB c = true ↔ (48 ≤ c ∧ c ≤ 57) ∨ (97 ≤ c ∧ c ≤ 102) ∨ (65 ≤ c ∧ c ≤ 70) := by unfold hexB decB; simp
set_option maxHeartbeats 1000000 in
set_option maxRecDepth 100000 in
theorem parse_ten_inner (t : ByteArray) (hne : t.size ≠ 0) (hmax : t.size ≤ 8) (hd : allB decB t.data.toList = true) (w : World) :
    Calls Tryz.prog 90 #[.string t, .int .i64 10, .int .i64 64] w fun e w' => e = .returned (.tuple #[.int .u64 (valB 10 0 t.data.toList), .nilIface]) ∧ Below w.heap.size w w' := by
  have hemp : t.toList.isEmpty = false := by
    rw [← decide_eq_emptyBytes]
    exact decide_eq_false (fun h => hne (by rw [h]; rfl))
  have hcv := Lib.run_convert_string_bytes (P := Tryz.prog) w 9 22 5 t (u := .string) Tryz.underlying9 Tryz.underlying22 Tryz.underlying5
  have hB : ∀ j, j < t.size → (Lib.bytesWorld w 5 t).cell? ⟨w.heap.size, j, none⟩ = some (.int .u8 (t.data.toList.getD j 0).toNat) := fun j hj => Lib.bytesWorld_cell w 5 t j hj
  have hbw := Lib.bytesWorld_below w 5 t
  obtain ⟨W1, hW1⟩ : ∃ W1, W1 = Lib.bytesWorld w 5 t := ⟨_, rfl⟩
  rw [← hW1] at hcv hB hbw
  clear hW1
  obtain ⟨bs, hL⟩ : ∃ bs, bs = t.data.toList := ⟨_, rfl⟩
  have hLn : bs.length = t.size := by rw [hL, Lib.size_eq]
  rw [← hL] at hB hd ⊢
  clear hL
  have hmv : IntKind.u64.wrap (IntKind.u64.wrap 18446744073709551616 - 1) = 18446744073709551615 := by
    rw [IntKind.wrap_u64, IntKind.wrap_u64]
    decide
  go_enter Tryz.func90, Tryz.ntmps90
  go_wp2_with fail
  go_loop [12, 13, 101] (fun vu vn vi => ∃ (k : Nat) (a : Int), vu = .bool false ∧ vn = .int .u64 a ∧ vi = .int .i64 k ∧ k ≤ t.size ∧ Hid (0 ≤ a ∧ a < 16 ^ k ∧ valB 10 0 bs = valB 10 a (bs.drop k)))
    (fun _ _ vi => t.size - (intOf vi).toNat)
  case atStart => exact ⟨0, 0, rfl, rfl, rfl, Nat.zero_le _, by omega, by omega, rfl⟩
  case round =>
    obtain ⟨k, a, rfl, rfl, rfl, hk, hh⟩ := hrel
    obtain ⟨ha0, ha1, hval⟩ := hh.out
    clear hh
    by_cases hkn : k < t.size
    · have hc := hB k hkn
      have hdrop : bs.drop k = bs[k]'(by omega) :: bs.drop (k + 1) := List.drop_eq_getElem_cons (by omega)
      have hget : bs.getD k 0 = bs[k]'(by omega) := by simp [List.getD, List.getElem?_eq_getElem (show k < bs.length by omega)]
      have hdig : decB ((bs[k]'(by omega)).toNat : Nat) = true := by
        have := List.all_eq_true.1 hd (bs[k]'(by omega)) (List.getElem_mem _)
        simpa using this
      rw [hdrop] at hval
      rw [hget] at hc
      generalize bs[k]'(by omega) = c at hc hval hdig
      have hc256 : c.toNat < 256 := c.toNat_lt
      have hb16 := pow16 k (by omega)
      have ha2 : a < 268435456 := by omega
      have hv2 : valB 10 0 bs = valB 10 (a * 10 + digV (c.toNat : Nat)) (bs.drop (k + 1)) := hval
      have hp16 : a * 10 + 16 ≤ 16 ^ (k + 1) := by rw [Int.pow_succ]; omega
      have hdr := (decB_iff _).1 hdig
      have hd0 := hdr.1
      have hd1 := hdr.2
      have hdg : digV (c.toNat : Nat) = (c.toNat : Int) - 48 := by unfold digV; rw [if_pos hd1]
      rw [hdg] at hv2
      have HN : Hid (0 ≤ a * 10 + ((c.toNat : Int) - 48) ∧ a * 10 + ((c.toNat : Int) - 48) < 16 ^ (k + 1) ∧ valB 10 0 bs = valB 10 (a * 10 + ((c.toNat : Int) - 48)) (bs.drop (k + 1))) := Lib.hid ⟨by omega, by omega, hv2⟩
      clear hB hdrop hget hv2 hval hp16 hb16 ha1 hdig hdr hdg
      go_wp2_with fail
      go_round
      case rel => exact ⟨k + 1, a * 10 + ((c.toNat : Int) - 48), rfl, by first | rfl | (congr 1; omega), by go_num, by omega, HN⟩
      case measure => simp [intOf]; omega
    · rw [List.drop_of_length_le (by omega)] at hval
      have Hv := Lib.hid hval
      clear hval
      go_wp2_with fail
      go_ret2
      exact ⟨congrArg (fun v => Ending.returned (.tuple #[.int .u64 v, .nilIface])) Hv.out.symm, hbw⟩
set_option maxHeartbeats 1000000 in
set_option maxRecDepth 100000 in
theorem parse_hex_inner (t : ByteArray) (hne : t.size ≠ 0) (hmax : t.size ≤ 8) (hd : allB hexB t.data.toList = true) (w : World) :
    Calls Tryz.prog 90 #[.string t, .int .i64 16, .int .i64 64] w fun e w' => e = .returned (.tuple #[.int .u64 (valB 16 0 t.data.toList), .nilIface]) ∧ Below w.heap.size w w' := by
  have hemp : t.toList.isEmpty = false := by
    rw [← decide_eq_emptyBytes]
    exact decide_eq_false (fun h => hne (by rw [h]; rfl))
  have hcv := Lib.run_convert_string_bytes (P := Tryz.prog) w 9 22 5 t (u := .string) Tryz.underlying9 Tryz.underlying22 Tryz.underlying5
  have hB : ∀ j, j < t.size → (Lib.bytesWorld w 5 t).cell? ⟨w.heap.size, j, none⟩ = some (.int .u8 (t.data.toList.getD j 0).toNat) := fun j hj => Lib.bytesWorld_cell w 5 t j hj
  have hbw := Lib.bytesWorld_below w 5 t
  obtain ⟨W1, hW1⟩ : ∃ W1, W1 = Lib.bytesWorld w 5 t := ⟨_, rfl⟩
  rw [← hW1] at hcv hB hbw
  clear hW1
  obtain ⟨bs, hL⟩ : ∃ bs, bs = t.data.toList := ⟨_, rfl⟩
  have hLn : bs.length = t.size := by rw [hL, Lib.size_eq]
  rw [← hL] at hB hd ⊢
  clear hL
  have hmv : IntKind.u64.wrap (IntKind.u64.wrap 18446744073709551616 - 1) = 18446744073709551615 := by
    rw [IntKind.wrap_u64, IntKind.wrap_u64]
    decide
  go_enter Tryz.func90, Tryz.ntmps90
  go_wp2_with fail
  go_loop [12, 13, 101] (fun vu vn vi => ∃ (k : Nat) (a : Int), vu = .bool false ∧ vn = .int .u64 a ∧ vi = .int .i64 k ∧ k ≤ t.size ∧ Hid (0 ≤ a ∧ a < 16 ^ k ∧ valB 16 0 bs = valB 16 a (bs.drop k)))
    (fun _ _ vi => t.size - (intOf vi).toNat)
  case atStart => exact ⟨0, 0, rfl, rfl, rfl, Nat.zero_le _, by omega, by omega, rfl⟩
  case round =>
    obtain ⟨k, a, rfl, rfl, rfl, hk, hh⟩ := hrel
    obtain ⟨ha0, ha1, hval⟩ := hh.out
    clear hh
    by_cases hkn : k < t.size
    · have hc := hB k hkn
      have hdrop : bs.drop k = bs[k]'(by omega) :: bs.drop (k + 1) := List.drop_eq_getElem_cons (by omega)
      have hget : bs.getD k 0 = bs[k]'(by omega) := by simp [List.getD, List.getElem?_eq_getElem (show k < bs.length by omega)]
      have hdig : hexB ((bs[k]'(by omega)).toNat : Nat) = true := by
        have := List.all_eq_true.1 hd (bs[k]'(by omega)) (List.getElem_mem _)
        simpa using this
      rw [hdrop] at hval
      rw [hget] at hc
      generalize bs[k]'(by omega) = c at hc hval hdig
      have hc256 : c.toNat < 256 := c.toNat_lt
      have hb16 := pow16 k (by omega)
      have ha2 : a < 268435456 := by omega
      have hv2 : valB 16 0 bs = valB 16 (a * 16 + digV (c.toNat : Nat)) (bs.drop (k + 1)) := hval
      have hp16 : a * 16 + 16 ≤ 16 ^ (k + 1) := by rw [Int.pow_succ]; omega
      have HN : ∀ v, digV (c.toNat : Nat) = v → 0 ≤ v → v ≤ 15 → Hid (0 ≤ a * 16 + v ∧ a * 16 + v < 16 ^ (k + 1) ∧ valB 16 0 bs = valB 16 (a * 16 + v) (bs.drop (k + 1))) := fun v hv h0 h1 => by
        rw [hv] at hv2
        exact Lib.hid ⟨by omega, by omega, hv2⟩
      have hp16' : a * 16 + 16 ≤ 16 ^ (k + 1) := hp16
      clear hB hdrop hget hp16' hb16
      rcases (hexB_iff _).1 hdig with ⟨hd0, hd1⟩ | ⟨hd0, hd1⟩ | ⟨hd0, hd1⟩
      · have HN1 := HN ((c.toNat : Int) - 48) (by unfold digV; rw [if_pos hd1]) (by omega) (by omega)
        clear HN hv2 hval hp16 ha1 hdig
        go_wp2_with fail
        go_round
        case rel => exact ⟨k + 1, a * 16 + ((c.toNat : Int) - 48), rfl, by first | rfl | (congr 1; omega), by go_num, by omega, HN1⟩
        case measure => simp [intOf]; omega
      · have HN1 := HN ((c.toNat : Int) - 87) (by unfold digV; rw [if_neg (by omega), if_neg (by omega)]) (by omega) (by omega)
        clear HN hv2 hval hp16 ha1 hdig
        go_wp2_with (go_at_call 93; refine (lower_low _ _ (by omega) (by omega)).mono ?_; rintro e w' ⟨rfl, rfl⟩)
        go_round
        case rel => exact ⟨k + 1, a * 16 + ((c.toNat : Int) - 87), rfl, by first | rfl | (congr 1; omega), by go_num, by omega, HN1⟩
        case measure => simp [intOf]; omega
      · have HN1 := HN ((c.toNat : Int) - 55) (by unfold digV; rw [if_neg (by omega), if_pos (by omega)]) (by omega) (by omega)
        clear HN hv2 hval hp16 ha1 hdig
        go_wp2_with (go_at_call 93; refine (lower_up _ _ (by omega) (by omega)).mono ?_; rintro e w' ⟨rfl, rfl⟩)
        go_round
        case rel => exact ⟨k + 1, a * 16 + ((c.toNat : Int) - 55), rfl, by first | rfl | (congr 1; omega), by go_num, by omega, HN1⟩
        case measure => simp [intOf]; omega
    · rw [List.drop_of_length_le (by omega)] at hval
      have Hv := Lib.hid hval
      clear hval
      go_wp2_with fail
      go_ret2
      exact ⟨congrArg (fun v => Ending.returned (.tuple #[.int .u64 v, .nilIface])) Hv.out.symm, hbw⟩
end Go.Proofs.YtkehbepopegboaaGreatDoor
