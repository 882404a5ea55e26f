/-
  strconv.ParseUint, the public one, at the bases 10 and 16 of up to eight digits of that base. Conditions: each byte is a digit; one to eight bytes.
-/
import Derived.Test.YtkehbepopegboaaGreatDoorParse
namespace Go.Proofs.YtkehbepopegboaaGreatDoor
open Go.RowKit
set_option linter.unusedVariables false
set_option maxRecDepth 100000 in
theorem parse_ten (t : ByteArray) (hne : t.size ≠ 0) (hmax : t.size ≤ 8) (hd : allB decB t.data.toList = true) (w : World) :
    Calls Tryz.prog 86 #[.string t, .int .i64 10, .int .i64 64] w fun e w' => e = .returned (.tuple #[.int .u64 (valB 10 0 t.data.toList), .nilIface]) ∧ Below w.heap.size w w' := by
  go_enter Tryz.func86, Tryz.ntmps86
  go_wp2_with fail
  refine (parse_ten_inner t hne hmax hd _).mono ?_
  rintro e w' ⟨rfl, hb⟩
  go_wp2_with fail
  go_ret2
  exact ⟨rfl, hb⟩
set_option maxRecDepth 100000 in
theorem parse_hex (t : ByteArray) (hne : t.size ≠ 0) (hmax : t.size ≤ 8) (hd : allB hexB t.data.toList = true) (w : World) :
    Calls Tryz.prog 86 #[.string t, .int .i64 16, .int .i64 64] w fun e w' => e = .returned (.tuple #[.int .u64 (valB 16 0 t.data.toList), .nilIface]) ∧ Below w.heap.size w w' := by
  go_enter Tryz.func86, Tryz.ntmps86
  go_wp2_with fail
  refine (parse_hex_inner t hne hmax hd _).mono ?_
  rintro e w' ⟨rfl, hb⟩
  go_wp2_with fail
  go_ret2
  exact ⟨rfl, hb⟩
end Go.Proofs.YtkehbepopegboaaGreatDoor
