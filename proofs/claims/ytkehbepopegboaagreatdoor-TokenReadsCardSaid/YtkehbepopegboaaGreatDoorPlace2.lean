/-
  The reading place of layer 3, more of its methods: until, blanks, name. Conditions as before: within the document, which has at most 65536 bytes.
-/
import Derived.Test.YtkehbepopegboaaGreatDoorPlace
namespace Go.Proofs.YtkehbepopegboaaGreatDoor
open Go.RowKit
set_option linter.unusedVariables false
set_option maxRecDepth 100000 in
theorem until_no (b p : Nat) (doc m : ByteArray) (w : World) (hP : PlaceAt w b doc p) (hp : p ≤ doc.size) (hd : doc.size ≤ 65536) (hg : Gl w) (h : Lib.index (doc.data.toList.drop p) m.data.toList = -1) :
    Calls Tryz.prog 45 #[.pointer (some ⟨b, 0, none⟩), .string m] w fun e w' => e = .returned (.tuple #[.string ⟨#[]⟩, .bool false]) ∧ PlaceAt w' b doc p ∧ Sole b w w' := by
  have h0 := hP.doc
  have h1 := hP.pos
  obtain ⟨mx, hmx⟩ := hg.maxlen
  have hcut : ∀ wx, (Instr.slice 9 (.string doc) (some (.int .i64 p)) none none).run Tryz.prog wx = .ok (.string (doc.extract p doc.size)) wx := fun wx => slice_from doc p hp wx
  have hde := Lib.extract_to_end doc p
  have hts : (doc.extract p doc.size).size < 4294967281 := by rw [ByteArray.size_extract]; omega
  rw [← hde] at h
  generalize doc.extract p doc.size = t at hcut h hts hde
  have H := Lib.hid h
  have HP := Lib.hid hP
  clear hP hde h
  go_enter Tryz.func45, Tryz.ntmps45
  go_wp2_with fail
  go_quiet ((go_at_call 40; exact Calls.quiet_of_same (Tryz.strings_Index t m mx _ hts hmx)))
  rw [H.out]
  go_wp2_with fail
  go_ret2
  exact ⟨rfl, HP.out, Sole.drewN _⟩
set_option maxRecDepth 100000 in
theorem until_yes (b p i : Nat) (doc m : ByteArray) (w : World) (hP : PlaceAt w b doc p) (hp : p ≤ doc.size) (hd : doc.size ≤ 65536) (hg : Gl w) (h : Lib.index (doc.data.toList.drop p) m.data.toList = i) :
    Calls Tryz.prog 45 #[.pointer (some ⟨b, 0, none⟩), .string m] w fun e w' => e = .returned (.tuple #[.string (doc.extract p (p + i)), .bool true]) ∧ PlaceAt w' b doc (p + (i + m.size)) ∧ Sole b w w' := by
  have hroom := Lib.index_room (doc.data.toList.drop p) m.data.toList (by omega)
  rw [h, List.length_drop, ← Lib.size_eq, ← Lib.size_eq] at hroom
  have h0 := hP.doc
  have h1 := hP.pos
  have hf := hP.free 1
  obtain ⟨mx, hmx⟩ := hg.maxlen
  have hcut : ∀ wx, (Instr.slice 9 (.string doc) (some (.int .i64 p)) none none).run Tryz.prog wx = .ok (.string (doc.extract p doc.size)) wx := fun wx => slice_from doc p hp wx
  have hcut2 : ∀ wx, (Instr.slice 9 (.string doc) (some (.int .i64 p)) (some (.int .i64 (p + i))) none).run Tryz.prog wx = .ok (.string (doc.extract p (p + i))) wx := fun wx => by
    have := slice_mid doc p (p + i) (by omega) (by omega) wx
    rw [show (((p + i : Nat)) : Int) = (p : Int) + i from by omega] at this
    exact this
  have hde := Lib.extract_to_end doc p
  have hts : (doc.extract p doc.size).size < 4294967281 := by rw [ByteArray.size_extract]; omega
  rw [← hde] at h
  generalize doc.extract p doc.size = t at hcut h hts hde
  generalize doc.extract p (p + i) = r at hcut2
  have H := Lib.hid h
  have HP := Lib.hid hP
  clear hP hde h
  go_enter Tryz.func45, Tryz.ntmps45
  go_wp2_with fail
  go_quiet ((go_at_call 40; exact Calls.quiet_of_same (Tryz.strings_Index t m mx _ hts hmx)))
  rw [H.out]
  go_wp2_with fail
  have e1 : IntKind.i64.wrap ((p : Int) + i) = (p : Int) + i := IntWalk.i64_in _ (by omega)
  go_quiet (fail)
  go_wp2_with fail
  go_ret2
  exact ⟨rfl, PlaceAt.set (w := w.drewN _) (p := p) HP.out _ _ (by go_num), (Sole.drewN _).setCell _ _⟩
theorem byte_piece (doc : ByteArray) (p : Nat) (h : p < doc.size) : (doc.extract p (p + 1)).data.toList = [doc[p]] := by
  rw [Lib.extract_data, Nat.add_sub_cancel_left]
  have hl : p < doc.data.toList.length := by rw [← Lib.size_eq]; exact h
  rw [List.drop_eq_getElem_cons hl]
  rfl
theorem drop_at (doc : ByteArray) (p : Nat) (h : p < doc.size) : doc.data.toList.drop p = doc[p] :: doc.data.toList.drop (p + 1) := by
  have hl : p < doc.data.toList.length := by rw [← Lib.size_eq]; exact h
  rw [List.drop_eq_getElem_cons hl]
  rfl
theorem drop_end (doc : ByteArray) (p : Nat) (h : doc.size ≤ p) : doc.data.toList.drop p = [] := List.drop_of_length_le (by rw [← Lib.size_eq]; exact h)
set_option maxHeartbeats 4000000 in
set_option maxRecDepth 100000 in
theorem blanks_any (b p : Nat) (doc : ByteArray) (w : World) (hP : PlaceAt w b doc p) (hp : p ≤ doc.size) (hd : doc.size ≤ 65536) :
    Calls Tryz.prog 47 #[.pointer (some ⟨b, 0, none⟩)] w fun e w' => e = .returned (.int .i64 (blanksN (doc.data.toList.drop p) : Nat)) ∧ PlaceAt w' b doc (p + blanksN (doc.data.toList.drop p)) ∧ Sole b w w' := by
  have h1 := hP.pos
  go_enter Tryz.func47, Tryz.ntmps47
  go_wp2_with fail
  clear h1
  go_loopg [] (doc.size - p) (fun k wr => ∃ q : Nat, p ≤ q ∧ q ≤ doc.size ∧ k = doc.size - q ∧ PlaceAt wr b doc q ∧ Sole b w wr ∧ Hid (blanksN (doc.data.toList.drop p) = (q - p) + blanksN (doc.data.toList.drop q)))
  case atStart => exact ⟨p, Nat.le_refl _, hp, rfl, hP, Sole.refl _ _, by show _ = _; omega⟩
  case round =>
    obtain ⟨q, hpq, hqd, rfl, hPq, hS, hB⟩ := hrel
    have h0 := hPq.doc
    have h1 := hPq.pos
    have hf := hPq.free 1
    by_cases hlt : q < doc.size
    · have hcut : ∀ wx, (Instr.slice 9 (.string doc) (some (.int .i64 q)) (some (.int .i64 (q + 1))) none).run Tryz.prog wx = .ok (.string (doc.extract q (q + 1))) wx := fun wx => slice_mid doc q (q + 1) (by omega) (by omega) wx
      have hbp := byte_piece doc q hlt
      have hts : (doc.extract q (q + 1)).size ≤ 9223372036854775807 := by rw [ByteArray.size_extract]; omega
      generalize doc.extract q (q + 1) = t at hcut hbp hts
      have Hbp := Lib.hid hbp
      clear hbp
      have e1 : IntKind.i64.wrap ((q : Int) + 1) = (q : Int) + 1 := IntWalk.i64_in _ (by omega)
      have hdec : decide ((q : Int) < (doc.size : Int)) = true := by rw [decide_eq_true_eq]; omega
      go_wp2_with fail
      go_still_tail 25, (by kernel_rfl)
      have hPd := hPq.drew
      have hSd := hS.drew
      change wpList _ _ _ _ _ wr.drew
      generalize wr.drew = w2 at hPd hSd
      go_wp2_with fail
      refine (names_Blank t _ hts).mono ?_
      rintro e w3 ⟨rfl, hb3⟩
      rw [Hbp.out]
      have hP3 := hPd.below hb3
      have hS3 := hSd.trans (Sole.of hb3)
      have hdr := drop_at doc q hlt
      cases hbl : blankB (doc[q].toNat : Nat) with
      | true =>
        have ht : allB blankB [doc[q]] = true := by unfold allB; simp [hbl]
        have hN : blanksN (doc.data.toList.drop q) = 1 + blanksN (doc.data.toList.drop (q + 1)) := by
          rw [hdr]; unfold blanksN; rw [List.takeWhile_cons_of_pos (by simpa using hbl)]; simp; omega
        have HN := Lib.hid hN
        rw [ht]
        have h13 := hP3.pos
        have hf3 := hP3.free 1
        clear hN hdr hbl ht
        go_wp2_with fail
        go_roundg (doc.size - (q + 1))
        case rel => exact ⟨q + 1, by omega, by omega, rfl, hP3.set _ _ (by go_num), hS3.setCell _ _, by have := hB.out; have := HN.out; show _ = _; omega⟩
        case measure => omega
      | false =>
        have ht : allB blankB [doc[q]] = false := by unfold allB; simp [hbl]
        have hN : blanksN (doc.data.toList.drop q) = 0 := by
          rw [hdr]; unfold blanksN; rw [List.takeWhile_cons_of_neg (by simp [hbl])]; rfl
        have hT : blanksN (doc.data.toList.drop p) = q - p := by have := hB.out; omega
        have HT := Lib.hid hT
        rw [ht]
        have h13 := hP3.pos
        clear hN hdr hbl ht hT
        go_wp2_with fail
        go_ret
        rw [HT.out, show p + (q - p) = q from by omega]
        exact ⟨ret_int (by omega), hP3, hS3⟩
    · have hdec : decide ((q : Int) < (doc.size : Int)) = false := by rw [decide_eq_false_iff_not]; omega
      have hN : blanksN (doc.data.toList.drop q) = 0 := by rw [drop_end doc q (by omega)]; rfl
      have hT : blanksN (doc.data.toList.drop p) = q - p := by have := hB.out; omega
      have HT := Lib.hid hT
      clear hN hT
      go_wp2_with fail
      go_quiet (fail)
      go_wp2_with fail
      go_ret
      rw [HT.out, show p + (q - p) = q from by omega]
      exact ⟨ret_int (by omega), hPq, hS.trans (Sole.drewN _)⟩
end Go.Proofs.YtkehbepopegboaaGreatDoor
