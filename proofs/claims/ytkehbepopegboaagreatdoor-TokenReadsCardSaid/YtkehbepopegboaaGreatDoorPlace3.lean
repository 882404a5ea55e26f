/-
  The reading place of layer 3: its method name: the bytes that names may have, and whether they are a name. Conditions as before.
-/
import Derived.Test.YtkehbepopegboaaGreatDoorPlace2
namespace Go.Proofs.YtkehbepopegboaaGreatDoor
open Go.RowKit
set_option linter.unusedVariables false
theorem named_quiet (c : Int) (v : Bool) (h : partB c = v) (w : World) : Calls Tryz.prog 65 #[.int .u8 c] w fun e w' => e = .returned (.bool v) ∧ w' = w :=
  (named_any c w).mono fun e w' ⟨h1, h2⟩ => ⟨by rw [h1, h], h2.symm⟩
set_option maxHeartbeats 4000000 in
set_option maxRecDepth 100000 in
theorem name_any (b p : Nat) (doc : ByteArray) (w : World) (hP : PlaceAt w b doc p) (hp : p ≤ doc.size) (hd : doc.size ≤ 65536) :
    Calls Tryz.prog 46 #[.pointer (some ⟨b, 0, none⟩)] w fun e w' => e = .returned (.tuple #[.string (doc.extract p (p + partN (doc.data.toList.drop p))), .bool (isName ((doc.data.toList.drop p).takeWhile fun c => partB (c.toNat : Nat)))]) ∧ PlaceAt w' b doc (p + partN (doc.data.toList.drop p)) ∧ Sole b w w' := by
  have h1 := hP.pos
  have hle := partN_le (doc.data.toList.drop p)
  rw [List.length_drop, ← Lib.size_eq] at hle
  have hnm : isName ((doc.data.toList.drop p).takeWhile fun c => partB (c.toNat : Nat)) = isName (doc.extract p (p + partN (doc.data.toList.drop p))).data.toList := by
    rw [Lib.extract_data, Nat.add_sub_cancel_left, take_partN]
  rw [hnm]
  clear hnm
  go_enter Tryz.func46, Tryz.ntmps46
  go_wp2_with fail
  clear h1
  go_loopg [] (doc.size - p) (fun k wr => ∃ q : Nat, p ≤ q ∧ q ≤ doc.size ∧ k = doc.size - q ∧ PlaceAt wr b doc q ∧ Sole b w wr ∧ Hid (partN (doc.data.toList.drop p) = (q - p) + partN (doc.data.toList.drop q)))
  case atStart => exact ⟨p, Nat.le_refl _, hp, rfl, hP, Sole.refl _ _, by show _ = _; omega⟩
  case round =>
    obtain ⟨q, hpq, hqd, rfl, hPq, hS, hB⟩ := hrel
    have h0 := hPq.doc
    have h1 := hPq.pos
    have hf := hPq.free 1
    have hcut : ∀ wx, (Instr.slice 9 (.string doc) (some (.int .i64 p)) (some (.int .i64 q)) none).run Tryz.prog wx = .ok (.string (doc.extract p q)) wx := fun wx => slice_mid doc p q (by omega) (by omega) wx
    by_cases hlt : q < doc.size
    · have hdec : decide ((q : Int) < (doc.size : Int)) = true := by rw [decide_eq_true_eq]; omega
      have hdr := drop_at doc q hlt
      cases hbl : partB (doc[q].toNat : Nat) with
      | true =>
        have hN : partN (doc.data.toList.drop q) = 1 + partN (doc.data.toList.drop (q + 1)) := by
          rw [hdr]; unfold partN; rw [List.takeWhile_cons_of_pos (by simpa using hbl)]; simp; omega
        have HN := Lib.hid hN
        have Hbl := Lib.hid hbl
        clear hN hdr hbl
        go_wp2_with fail
        go_quiet ((go_at_call 65; exact Calls.quiet_of_same (named_quiet _ _ Hbl.out _)))
        go_wp2_with fail
        go_roundg (doc.size - (q + 1))
        case rel => exact ⟨q + 1, by omega, by omega, rfl, PlaceAt.set (w := wr.drewN _) (p := q) hPq _ _ (by go_num), (hS.trans (Sole.drewN _)).setCell _ _, by have := hB.out; have := HN.out; show _ = _; omega⟩
        case measure => omega
      | false =>
        have hN : partN (doc.data.toList.drop q) = 0 := by
          rw [hdr]; unfold partN; rw [List.takeWhile_cons_of_neg (by simp [hbl])]; rfl
        have hT : partN (doc.data.toList.drop p) = q - p := by have := hB.out; omega
        have HT := Lib.hid hT
        have Hbl := Lib.hid hbl
        have hts : (doc.extract p q).size ≤ 9223372036854775807 := by rw [ByteArray.size_extract]; omega
        generalize hteq : doc.extract p q = t at hcut hts
        have Hteq := Lib.hid hteq
        clear hN hdr hbl hT hle hteq
        go_wp2_with fail
        go_quiet ((go_at_call 65; exact Calls.quiet_of_same (named_quiet _ _ Hbl.out _)))
        go_wp2_with fail
        go_quiet (fail)
        go_wp2_with fail
        refine (names_Is t _ hts).mono ?_
        rintro e w3 ⟨rfl, hb3⟩
        go_wp2_with fail
        go_ret2
        rw [HT.out, show p + (q - p) = q from by omega, Hteq.out]
        exact ⟨rfl, PlaceAt.below (w := wr.drewN _) hPq hb3, (hS.trans (Sole.drewN _)).trans (Sole.of hb3)⟩
    · have hdec : decide ((q : Int) < (doc.size : Int)) = false := by rw [decide_eq_false_iff_not]; omega
      have hN : partN (doc.data.toList.drop q) = 0 := by rw [drop_end doc q (by omega)]; rfl
      have hT : partN (doc.data.toList.drop p) = q - p := by have := hB.out; omega
      have HT := Lib.hid hT
      have hts : (doc.extract p q).size ≤ 9223372036854775807 := by rw [ByteArray.size_extract]; omega
      generalize hteq : doc.extract p q = t at hcut hts
      have Hteq := Lib.hid hteq
      clear hN hT hle hteq
      go_wp2_with fail
      go_quiet (fail)
      go_wp2_with fail
      go_quiet (fail)
      go_wp2_with fail
      refine (names_Is t _ hts).mono ?_
      rintro e w3 ⟨rfl, hb3⟩
      go_wp2_with fail
      go_ret2
      rw [HT.out, show p + (q - p) = q from by omega, Hteq.out]
      exact ⟨rfl, PlaceAt.below (w := wr.drewN _) hPq hb3, (hS.trans (Sole.drewN _)).trans (Sole.of hb3)⟩
end Go.Proofs.YtkehbepopegboaaGreatDoor
