/-
  Layer 7 (regex): the reader's methods mark and word. Conditions as before.
-/
import Derived.Test.YtnnbdlmilbcpjaaGreatDoorSRd
namespace Go.Proofs.YtnnbdlmilbcpjaaGreatDoor
open Go.RowKit
set_option linter.unusedVariables false
theorem blanksAt_le (doc : ByteArray) (p : Nat) (hp : p ≤ doc.size) : blanksAt doc.data.toList p ≤ doc.size ∧ p ≤ blanksAt doc.data.toList p := by
  have := blanksN_le (doc.data.toList.drop p)
  rw [List.length_drop, ← Lib.size_eq] at this
  unfold blanksAt
  omega
theorem markP_le (doc : ByteArray) (c : UInt8) (p : Nat) (hp : p ≤ doc.size) : markP doc.data.toList c p ≤ doc.size ∧ p ≤ markP doc.data.toList c p ∧ (markB doc.data.toList c p = true → p < markP doc.data.toList c p) := by
  have h := blanksAt_le doc p hp
  unfold markP markB
  by_cases hq : blanksAt doc.data.toList p < doc.size
  · split <;> simp_all <;> omega
  · rw [get_end doc _ (by omega)]
    simp; omega
set_option maxHeartbeats 2000000 in
set_option maxRecDepth 100000 in
theorem rmark_any (c : UInt8) (n : Int) (hn : n = (c.toNat : Nat)) (b p : Nat) (doc : ByteArray) (lo bi : Bool) (w : World) (hP : RdAt w b doc p lo bi) (hp : p ≤ doc.size) (hd : doc.size ≤ 65536) :
    Calls Tryz.prog 155 #[.pointer (some ⟨b, 0, none⟩), .int .u8 n] w fun e w' => e = .returned (.bool (markB doc.data.toList c p)) ∧ RdAt w' b doc (markP doc.data.toList c p) lo bi ∧ Sole b w w' := by
  subst hn
  obtain ⟨R, hR⟩ : ∃ R, R = markB doc.data.toList c p := ⟨_, rfl⟩
  obtain ⟨P, hPe⟩ : ∃ P, P = markP doc.data.toList c p := ⟨_, rfl⟩
  have hle := blanksAt_le doc p hp
  have hbk := rblanks_any b p doc lo bi
  rw [← hR, ← hPe]
  unfold markP at hPe
  unfold markB at hR hPe
  obtain ⟨q, hq⟩ : ∃ q, q = blanksAt doc.data.toList p := ⟨_, rfl⟩
  rw [← hq] at hR hPe hle hbk
  have hb1 := hbk w hP hp hd
  clear hbk
  by_cases hlt : q < doc.size
  · rw [get_at doc q hlt] at hR hPe
    have heq : ((q : Int) == (doc.size : Int)) = false := by rw [beq_eq_false_iff_ne]; omega
    have e1 : (0 : Int) ≤ q := by omega
    have e2 : (q : Int) < doc.size := by omega
    by_cases hc : doc[q] = c
    · have hne : ((((doc[q]).toNat : Nat) : Int) != ((c.toNat : Nat) : Int)) = false := by rw [hc]; simp
      rw [hc] at hR hPe
      simp only [beq_self_eq_true, if_true] at hR hPe
      have HR := Lib.hid hR
      have HP := Lib.hid hPe
      have Hq := Lib.hid hq
      clear hR hPe hq hc
      go_enter Tryz.func155, Tryz.ntmps155
      go_wp2_with fail
      refine hb1.mono ?_
      rintro e w1 ⟨⟨v, rfl⟩, hP1, hS1⟩
      clear hb1
      have x0 := hP1.cDoc
      have x1 := hP1.cPos
      have hf := hP1.free 1
      go_wp2_with fail
      go_quiet (fail)
      go_wp2_with fail
      go_ret
      rw [HR.out, HP.out]
      exact ⟨rfl, RdAt.set (w := w1.drewN _) (p := q) hP1 _ _ (by go_num), (hS1.trans (Sole.drewN _)).setCell _ _⟩
    · have hne : ((((doc[q]).toNat : Nat) : Int) != ((c.toNat : Nat) : Int)) = true := by
        rw [bne_iff_ne]
        intro h
        exact hc (UInt8.toNat_inj.1 (by exact_mod_cast h))
      have hcf : ((some doc[q] : Option UInt8) == some c) = false := by simpa using hc
      rw [hcf] at hR hPe
      simp only [Bool.false_eq_true, if_false] at hPe
      have HR := Lib.hid hR
      have HP := Lib.hid hPe
      have Hq := Lib.hid hq
      clear hR hPe hq hc hcf
      go_enter Tryz.func155, Tryz.ntmps155
      go_wp2_with fail
      refine hb1.mono ?_
      rintro e w1 ⟨⟨v, rfl⟩, hP1, hS1⟩
      clear hb1
      have x0 := hP1.cDoc
      have x1 := hP1.cPos
      go_wp2_with fail
      go_quiet (fail)
      go_wp2_with fail
      go_ret
      rw [HR.out, HP.out]
      exact ⟨rfl, hP1, hS1.trans (Sole.drewN _)⟩
  · rw [get_end doc q (by omega)] at hR hPe
    have heq : ((q : Int) == (doc.size : Int)) = true := by rw [beq_iff_eq]; omega
    have hcf : ((none : Option UInt8) == some c) = false := by simp
    rw [hcf] at hR hPe
    simp only [Bool.false_eq_true, if_false] at hPe
    have HR := Lib.hid hR
    have HP := Lib.hid hPe
    have Hq := Lib.hid hq
    clear hR hPe hq hcf
    go_enter Tryz.func155, Tryz.ntmps155
    go_wp2_with fail
    refine hb1.mono ?_
    rintro e w1 ⟨⟨v, rfl⟩, hP1, hS1⟩
    clear hb1
    have x0 := hP1.cDoc
    have x1 := hP1.cPos
    go_wp2_with fail
    go_quiet (fail)
    go_wp2_with fail
    go_ret
    rw [HR.out, HP.out]
    exact ⟨rfl, hP1, hS1.trans (Sole.drewN _)⟩
theorem inner_any (c : Int) (w : World) : Calls Tryz.prog 164 #[.int .u8 c] w fun e w' => e = .returned (.bool (partB c)) ∧ w = w' := by
  rcases (by omega : c < 45 ∨ c = 45 ∨ c = 46 ∨ c = 47 ∨ (48 ≤ c ∧ c ≤ 57) ∨ (57 < c ∧ c < 65) ∨ (65 ≤ c ∧ c ≤ 90) ∨ (90 < c ∧ c < 95) ∨ c = 95 ∨ c = 96 ∨ (97 ≤ c ∧ c ≤ 122) ∨ 122 < c) with h | rfl | rfl | rfl | ⟨h, h'⟩ | ⟨h, h'⟩ | ⟨h, h'⟩ | ⟨h, h'⟩ | rfl | rfl | ⟨h, h'⟩ | h
  all_goals
    go_enter Tryz.func164, Tryz.ntmps164
    go_wp2
    go_ret
    exact ⟨ret_bool (by unfold partB letterB decB; rw [Bool.eq_iff_iff]; simp <;> omega), rfl⟩
theorem inner_quiet (c : Int) (v : Bool) (h : partB c = v) (w : World) : Calls Tryz.prog 164 #[.int .u8 c] w fun e w' => e = .returned (.bool v) ∧ w' = w :=
  (inner_any c w).mono fun e w' ⟨h1, h2⟩ => ⟨by rw [h1, h], h2.symm⟩
end Go.Proofs.YtnnbdlmilbcpjaaGreatDoor
