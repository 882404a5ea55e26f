/-
  The reading place of layer 3 (token.place): its methods' walks: starts, skip, until, blanks, name; named. Conditions: the place lies in a block behind the package's variables, reading is within the document, which has at most 65536 bytes.
-/
import Derived.Test.YtkehbepopegboaaGreatDoorSole
import Derived.Deep.RegionHeld3
import Derived.StillTailTactics
namespace Go.Proofs.YtkehbepopegboaaGreatDoor
open Go.RowKit
set_option linter.unusedVariables false
set_option maxRecDepth 100000 in
theorem starts_any (b p : Nat) (doc m : ByteArray) (w : World) (hP : PlaceAt w b doc p) (hp : p ≤ doc.size) :
    Calls Tryz.prog 14 #[.pointer (some ⟨b, 0, none⟩), .string m] w fun e w' => e = .returned (.bool (Lib.hasPrefix (doc.data.toList.drop p) m.data.toList)) ∧ ∃ n, w' = w.drewN n := by
  have h0 := hP.doc
  have h1 := hP.pos
  have hcut : ∀ wx, (Instr.slice 9 (.string doc) (some (.int .i64 p)) none none).run Tryz.prog wx = .ok (.string (doc.extract p doc.size)) wx := fun wx => slice_from doc p hp wx
  have hd := Lib.extract_to_end doc p
  rw [← hd]
  generalize doc.extract p doc.size = t at hcut
  clear hP hd
  go_enter Tryz.func14, Tryz.ntmps14
  go_wp2_with fail
  go_quiet ((go_at_call 26; exact Calls.quiet_of_same (Tryz.strings_HasPrefix _ _ _)))
  go_wp2_with fail
  go_ret
  exact ⟨rfl, _, rfl⟩
set_option maxRecDepth 100000 in
theorem skip_yes (b p : Nat) (doc m : ByteArray) (w : World) (hP : PlaceAt w b doc p) (hp : p ≤ doc.size) (hd : doc.size ≤ 65536) (h : Lib.hasPrefix (doc.data.toList.drop p) m.data.toList = true) :
    Calls Tryz.prog 44 #[.pointer (some ⟨b, 0, none⟩), .string m] w fun e w' => e = .returned (.bool true) ∧ PlaceAt w' b doc (p + m.size) ∧ Sole b w w' := by
  have hm : m.size ≤ 65536 := by
    have := hasPrefix_le h
    rw [List.length_drop, ← Lib.size_eq, ← Lib.size_eq] at this
    omega
  have hf := hP.free 1
  have h1 := hP.pos
  have Hh := Lib.hid h
  clear h
  go_enter Tryz.func44, Tryz.ntmps44
  go_wp2_with fail
  refine (starts_any b p doc m _ hP hp).mono ?_
  rintro e w' ⟨rfl, n, rfl⟩
  rw [Hh.out]
  go_wp2_with fail
  go_ret
  exact ⟨rfl, (show PlaceAt (w.drewN n) b doc p from hP).set _ _ (by go_num), (Sole.drewN n).setCell _ _⟩
set_option maxRecDepth 100000 in
theorem skip_no (b p : Nat) (doc m : ByteArray) (w : World) (hP : PlaceAt w b doc p) (hp : p ≤ doc.size) (h : Lib.hasPrefix (doc.data.toList.drop p) m.data.toList = false) :
    Calls Tryz.prog 44 #[.pointer (some ⟨b, 0, none⟩), .string m] w fun e w' => e = .returned (.bool false) ∧ PlaceAt w' b doc p ∧ Sole b w w' := by
  have Hh := Lib.hid h
  clear h
  go_enter Tryz.func44, Tryz.ntmps44
  go_wp2_with fail
  refine (starts_any b p doc m _ hP hp).mono ?_
  rintro e w' ⟨rfl, n, rfl⟩
  rw [Hh.out]
  go_wp2_with fail
  go_ret
  exact ⟨rfl, hP, Sole.drewN n⟩
theorem named_any (c : Int) (w : World) : Calls Tryz.prog 65 #[.int .u8 c] w fun e w' => e = .returned (.bool (partB c)) ∧ w = w' := by
  rcases (by omega : c < 45 ∨ c = 45 ∨ c = 46 ∨ c = 47 ∨ (48 ≤ c ∧ c ≤ 57) ∨ (57 < c ∧ c < 65) ∨ (65 ≤ c ∧ c ≤ 90) ∨ (90 < c ∧ c < 95) ∨ c = 95 ∨ c = 96 ∨ (97 ≤ c ∧ c ≤ 122) ∨ 122 < c) with h | rfl | rfl | rfl | ⟨h, h'⟩ | ⟨h, h'⟩ | ⟨h, h'⟩ | ⟨h, h'⟩ | rfl | rfl | ⟨h, h'⟩ | h
  all_goals
    go_enter Tryz.func65, Tryz.ntmps65
    go_wp2
    go_ret
    exact ⟨ret_bool (by unfold partB letterB decB; rw [Bool.eq_iff_iff]; simp <;> omega), rfl⟩
end Go.Proofs.YtkehbepopegboaaGreatDoor
