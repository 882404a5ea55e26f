/-
  Layer 7 (regex): the reader's method word. Conditions as before.
-/
import Derived.Test.YtnnbdlmilbcpjaaGreatDoorSRd2
namespace Go.Proofs.YtnnbdlmilbcpjaaGreatDoor
open Go.RowKit
set_option linter.unusedVariables false
theorem wordAt_eq (doc : ByteArray) (p : Nat) (h : p < doc.size) : wordAt doc.data.toList p = if isName [doc[p]] then (doc.data.toList.drop p).takeWhile partU else [] := by
  unfold wordAt; rw [get_at doc p h]
theorem wordAt_end (doc : ByteArray) (p : Nat) (h : doc.size ≤ p) : wordAt doc.data.toList p = [] := by
  unfold wordAt; rw [get_end doc p h]
theorem wordAt_le (doc : ByteArray) (p : Nat) : (wordAt doc.data.toList p).length ≤ doc.size - p := by
  by_cases h : p < doc.size
  · rw [wordAt_eq doc p h]
    have := partN_le (doc.data.toList.drop p)
    rw [List.length_drop, ← Lib.size_eq] at this
    unfold partN at this
    split
    · exact this
    · simp
  · rw [wordAt_end doc p (by omega)]; simp
set_option maxHeartbeats 4000000 in
set_option maxRecDepth 100000 in
theorem rword_any (b p : Nat) (doc : ByteArray) (lo bi : Bool) (w : World) (hP : RdAt w b doc p lo bi) (hp : p ≤ doc.size) (hd : doc.size ≤ 65536) :
    Calls Tryz.prog 163 #[.pointer (some ⟨b, 0, none⟩)] w fun e w' => e = .returned (.string ⟨(wordAt doc.data.toList p).toArray⟩) ∧ RdAt w' b doc (p + (wordAt doc.data.toList p).length) lo bi ∧ Sole b w w' := by
  have h0 := hP.cDoc
  have h1 := hP.cPos
  obtain ⟨W, hW⟩ : ∃ W, W = wordAt doc.data.toList p := ⟨_, rfl⟩
  rw [← hW]
  by_cases hlt : p < doc.size
  · rw [wordAt_eq doc p hlt] at hW
    have hcut : ∀ wx, (Instr.slice 9 (.string doc) (some (.int .i64 p)) (some (.int .i64 (p + 1))) none).run Tryz.prog wx = .ok (.string (doc.extract p (p + 1))) wx := fun wx => slice_mid doc p (p + 1) (by omega) (by omega) wx
    have hbp := byte_piece doc p hlt
    have hts : (doc.extract p (p + 1)).size ≤ 9223372036854775807 := by rw [ByteArray.size_extract]; omega
    generalize doc.extract p (p + 1) = t at hcut hbp hts
    have hnm := fun w => names_Is t w hts
    rw [hbp] at hnm
    have heq : ((p : Int) == (doc.size : Int)) = false := by rw [beq_eq_false_iff_ne]; omega
    cases hn : isName [doc[p]] with
    | false =>
      rw [hn] at hnm hW
      simp only [Bool.false_eq_true, if_false] at hW
      have HW := Lib.hid hW
      have Hbp := Lib.hid hbp
      clear hW hbp hn
      go_enter Tryz.func163, Tryz.ntmps163
      go_wp2_with fail
      refine (hnm _).mono ?_
      rintro e w1 ⟨rfl, hb1⟩
      clear hnm
      go_wp2_with fail
      go_ret
      rw [HW.out]
      exact ⟨rfl, hP.below hb1, Sole.of hb1⟩
    | true =>
      rw [hn, if_pos rfl] at hW
      rw [hn] at hnm
      have hpl : p + W.length ≤ doc.size := by
        have := partN_le (doc.data.toList.drop p)
        rw [List.length_drop, ← Lib.size_eq] at this
        unfold partN at this
        rw [hW]
        omega
      have hWe : W = (doc.data.toList.drop p).take W.length := by
        have := take_partN (doc.data.toList.drop p)
        unfold partN at this
        rw [← hW] at this
        exact this.symm
      have HW := Lib.hid hW
      have HWe := Lib.hid hWe
      have Hbp := Lib.hid hbp
      clear hW hbp hn hWe
      go_enter Tryz.func163, Tryz.ntmps163
      go_wp2_with fail
      refine (hnm _).mono ?_
      rintro e w1 ⟨rfl, hb1⟩
      clear hnm
      have hP1 := hP.below hb1
      have hS1 : Sole b w w1 := Sole.of hb1
      clear h0 h1 hP hb1
      go_wp2_with fail
      go_loopg [] (doc.size - p) (fun k wr => ∃ q : Nat, p ≤ q ∧ q ≤ doc.size ∧ k = doc.size - q ∧ RdAt wr b doc q lo bi ∧ Sole b w wr ∧ Hid (W.length = (q - p) + partN (doc.data.toList.drop q)))
      case atStart => exact ⟨p, Nat.le_refl _, by omega, rfl, hP1, hS1, by have := HW.out; show _ = _; rw [this]; unfold partN; omega⟩
      case round =>
        obtain ⟨q, hpq, hqd, rfl, hPq, hS, hB⟩ := hrel
        have h0 := hPq.cDoc
        have h1 := hPq.cPos
        have hf := hPq.free 1
        by_cases hlq : q < doc.size
        · have hdec : decide ((q : Int) < (doc.size : Int)) = true := by rw [decide_eq_true_eq]; omega
          have e1 : (0 : Int) ≤ q := by omega
          have e2 : (q : Int) < doc.size := by omega
          have hdr := drop_at doc q hlq
          cases hbl : partB (doc[q].toNat : Nat) with
          | true =>
            have hN : partN (doc.data.toList.drop q) = 1 + partN (doc.data.toList.drop (q + 1)) := by
              rw [hdr]; unfold partN; rw [List.takeWhile_cons_of_pos (by simpa [partU] using hbl)]; simp; omega
            have HN := Lib.hid hN
            have Hbl := Lib.hid hbl
            clear hN hdr hbl hcut hpl
            go_wp2_with fail
            go_quiet ((go_at_call 164; exact Calls.quiet_of_same (inner_quiet _ _ Hbl.out _)))
            go_wp2_with fail
            go_roundg (doc.size - (q + 1))
            case rel => exact ⟨q + 1, by omega, by omega, rfl, RdAt.set (w := wr.drewN _) (p := q) hPq _ _ (by go_num), (hS.trans (Sole.drewN _)).setCell _ _, by have := hB.out; have := HN.out; show _ = _; omega⟩
            case measure => omega
          | false =>
            have hN : partN (doc.data.toList.drop q) = 0 := by
              rw [hdr]; unfold partN; rw [List.takeWhile_cons_of_neg (by simp [partU, hbl])]; rfl
            have hT : W.length = q - p := by have := hB.out; omega
            have HT := Lib.hid hT
            have Hbl := Lib.hid hbl
            have hct2 : ∀ wx, (Instr.slice 9 (.string doc) (some (.int .i64 p)) (some (.int .i64 q)) none).run Tryz.prog wx = .ok (.string (doc.extract p q)) wx := fun wx => slice_mid doc p q (by omega) (by omega) wx
            generalize hteq : doc.extract p q = u at hct2
            have Hteq := Lib.hid hteq
            clear hN hdr hbl hT hcut hteq hpl
            go_wp2_with fail
            go_quiet ((go_at_call 164; exact Calls.quiet_of_same (inner_quiet _ _ Hbl.out _)))
            go_wp2_with fail
            go_quiet (fail)
            go_wp2_with fail
            go_ret
            have hue : u = ⟨W.toArray⟩ := by
              rw [← Hteq.out]
              apply ByteArray.ext
              apply Array.ext'
              rw [Lib.extract_data, HWe.out, HT.out]
            rw [hue, HT.out, show p + (q - p) = q from by omega]
            exact ⟨rfl, hPq, (hS.trans (Sole.drewN _)).trans (Sole.drewN _)⟩
        · have hdec : decide ((q : Int) < (doc.size : Int)) = false := by rw [decide_eq_false_iff_not]; omega
          have hN : partN (doc.data.toList.drop q) = 0 := by rw [drop_end doc q (by omega)]; rfl
          have hT : W.length = q - p := by have := hB.out; omega
          have HT := Lib.hid hT
          have hct2 : ∀ wx, (Instr.slice 9 (.string doc) (some (.int .i64 p)) (some (.int .i64 q)) none).run Tryz.prog wx = .ok (.string (doc.extract p q)) wx := fun wx => slice_mid doc p q (by omega) (by omega) wx
          generalize hteq : doc.extract p q = u at hct2
          have Hteq := Lib.hid hteq
          clear hN hT hcut hteq hpl
          go_wp2_with fail
          go_quiet (fail)
          go_wp2_with fail
          go_quiet (fail)
          go_wp2_with fail
          go_ret
          have hue : u = ⟨W.toArray⟩ := by
            rw [← Hteq.out]
            apply ByteArray.ext
            apply Array.ext'
            rw [Lib.extract_data, HWe.out, HT.out]
          rw [hue, HT.out, show p + (q - p) = q from by omega]
          exact ⟨rfl, hPq, (hS.trans (Sole.drewN _)).trans (Sole.drewN _)⟩
  · rw [wordAt_end doc p (by omega)] at hW
    have heq : ((p : Int) == (doc.size : Int)) = true := by rw [beq_iff_eq]; omega
    have HW := Lib.hid hW
    clear hW
    go_enter Tryz.func163, Tryz.ntmps163
    go_wp2_with fail
    go_ret
    rw [HW.out]
    exact ⟨rfl, hP, Sole.refl _ _⟩
end Go.Proofs.YtnnbdlmilbcpjaaGreatDoor
