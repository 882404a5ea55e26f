/-
  Layer 9 (schema): a line's methods attribute, begin, equals, name, label, key: their walks. Conditions as before.
-/
import Derived.Test.YtnnbdlmilbcpjaaGreatDoorSLine2
namespace Go.Proofs.YtnnbdlmilbcpjaaGreatDoor
open Go.RowKit
set_option linter.unusedVariables false
theorem cut_at (W : Bytes) (w : World) : Calls Tryz.prog 131 #[.string ⟨W.toArray⟩, .string ⟨#[64]⟩] w fun e w' => e = .returned (.tuple #[.string ⟨(match W with | [] => [] | c :: t => if c = 64 then t else c :: t).toArray⟩, .bool (match W with | [] => false | c :: _ => decide (c = 64))]) ∧ w' = w := by
  refine (Tryz.strings_CutPrefix ⟨W.toArray⟩ ⟨#[64]⟩ w).mono ?_
  rintro e w' ⟨rfl, rfl⟩
  refine ⟨?_, rfl⟩
  have e1 : (⟨W.toArray⟩ : ByteArray).data.toList = W := rfl
  have e2 : (⟨#[64]⟩ : ByteArray).data.toList = [64] := rfl
  rw [e1, e2]
  unfold Lib.trimPrefix Lib.hasPrefix
  cases W with
  | nil => rfl
  | cons c t =>
    by_cases h : c = 64
    · subst h; simp
    · have h2 : ((64 : UInt8) == c) = false := by simpa using fun e : (64 : UInt8) = c => h e.symm
      have h3 : ([64] : Bytes).isPrefixOf (c :: t) = false := by show ((64 : UInt8) == c && _) = false; rw [h2]; rfl
      simp [h3, h]
set_option maxHeartbeats 1000000 in
set_option maxRecDepth 100000 in
theorem attribute_any (b : Nat) (x : LineV) (w : World) (hP : LnAt w b x) (hl : x.rest.length ≤ 65536) (ha : Asc x.rest) :
    Calls Tryz.prog 115 #[.pointer (some ⟨b, 0, none⟩)] w fun e w' => e = .returned (.tuple #[.string ⟨(attrW x.rest).toArray⟩, .bool (attrB x.rest)]) ∧ LnAt w' b { x with rest := wordR x.rest } ∧ Sole b w w' := by
  have hwd := word_any b x w hP hl ha
  have hwl := wordW_le x.rest
  have hct := fun w1 => cut_at (wordW x.rest) w1
  unfold attrW attrB
  obtain ⟨W, hW⟩ : ∃ W, W = wordW x.rest := ⟨_, rfl⟩
  rw [← hW] at hwd hwl hct ⊢
  clear hW hP
  cases W with
  | nil =>
    simp only at hct
    go_enter Tryz.func115, Tryz.ntmps115
    go_wp2_with fail
    refine hwd.mono ?_
    rintro e w1 ⟨rfl, hP1, hS1⟩
    clear hwd
    go_wp2_with fail
    refine (hct _).mono ?_
    rintro e w2 ⟨rfl, rfl⟩
    clear hct
    go_wp2_with fail
    go_ret2
    exact ⟨rfl, hP1, hS1⟩
  | cons c t =>
    simp only at hct
    by_cases h : c = 64
    · subst h
      simp only [if_true, decide_true] at hct ⊢
      have hnm := fun w => names_Is ⟨t.toArray⟩ w (by rw [bytes_size]; simp at hwl; omega)
      go_enter Tryz.func115, Tryz.ntmps115
      go_wp2_with fail
      refine hwd.mono ?_
      rintro e w1 ⟨rfl, hP1, hS1⟩
      clear hwd
      go_wp2_with fail
      refine (hct _).mono ?_
      rintro e w2 ⟨rfl, rfl⟩
      clear hct
      go_wp2_with fail
      refine (hnm _).mono ?_
      rintro e w3 ⟨rfl, hb3⟩
      clear hnm
      go_wp2_with fail
      go_ret2
      exact ⟨rfl, hP1.below hb3, hS1.trans (Sole.of hb3)⟩
    · simp only [h, if_false, decide_false] at hct ⊢
      go_enter Tryz.func115, Tryz.ntmps115
      go_wp2_with fail
      refine hwd.mono ?_
      rintro e w1 ⟨rfl, hP1, hS1⟩
      clear hwd
      go_wp2_with fail
      refine (hct _).mono ?_
      rintro e w2 ⟨rfl, rfl⟩
      clear hct
      go_wp2_with fail
      go_ret2
      exact ⟨rfl, hP1, hS1⟩
set_option maxRecDepth 100000 in
theorem begin_any (b : Nat) (x : LineV) (w : World) (hP : LnAt w b x) (hl : x.rest.length ≤ 65536) (ha : Asc x.rest) :
    Calls Tryz.prog 78 #[.pointer (some ⟨b, 0, none⟩)] w fun e w' => e = .returned (.bool (wordW x.rest == typeW)) ∧ LnAt w' b { x with rest := wordR x.rest } ∧ Sole b w w' := by
  have hwd := word_any b x w hP hl ha
  clear hP
  unfold typeW
  go_enter Tryz.func78, Tryz.ntmps78
  go_wp2_with fail
  refine hwd.mono ?_
  rintro e w1 ⟨rfl, hP1, hS1⟩
  clear hwd
  go_wp2_with fail
  go_ret
  exact ⟨ret_bool (by first | rfl | simp), hP1, hS1⟩
set_option maxRecDepth 100000 in
theorem equals_any (b : Nat) (x : LineV) (w : World) (hP : LnAt w b x) (hl : x.rest.length ≤ 65536) (ha : Asc x.rest) :
    Calls Tryz.prog 80 #[.pointer (some ⟨b, 0, none⟩)] w fun e w' => e = .returned (.bool (wordW x.rest == [61])) ∧ LnAt w' b { x with rest := wordR x.rest } ∧ Sole b w w' := by
  have hwd := word_any b x w hP hl ha
  clear hP
  go_enter Tryz.func80, Tryz.ntmps80
  go_wp2_with fail
  refine hwd.mono ?_
  rintro e w1 ⟨rfl, hP1, hS1⟩
  clear hwd
  go_wp2_with fail
  go_ret
  exact ⟨ret_bool (by first | rfl | simp), hP1, hS1⟩
set_option maxHeartbeats 1000000 in
set_option maxRecDepth 100000 in
theorem lname_any (b : Nat) (x : LineV) (w : World) (hP : LnAt w b x) (hl : x.rest.length ≤ 65536) (ha : Asc x.rest) :
    Calls Tryz.prog 79 #[.pointer (some ⟨b, 0, none⟩)] w fun e w' => e = .returned (.bool (isName (wordW x.rest))) ∧ LnAt w' b { x with rest := wordR x.rest, name := wordW x.rest } ∧ Sole b w w' := by
  have hwd := word_any b x w hP hl ha
  have hwl := wordW_le x.rest
  have hnm := fun w => names_Is ⟨(wordW x.rest).toArray⟩ w (by rw [bytes_size]; omega)
  clear hP
  go_enter Tryz.func79, Tryz.ntmps79
  go_wp2_with fail
  refine hwd.mono ?_
  rintro e w1 ⟨rfl, hP1, hS1⟩
  clear hwd
  have hf := hP1.free 1
  have c1 := hP1.c1
  have hP2 := hP1.name (wordW x.rest)
  have hS2 := sole_set hS1 1 (.string ⟨(wordW x.rest).toArray⟩)
  go_wp2_with fail
  refine (hnm _).mono ?_
  rintro e w3 ⟨rfl, hb3⟩
  clear hnm
  go_wp2_with fail
  go_ret
  exact ⟨rfl, hP2.below hb3, hS2.trans (Sole.of hb3)⟩
set_option maxHeartbeats 1000000 in
set_option maxRecDepth 100000 in
theorem llabel_any (b : Nat) (x : LineV) (w : World) (hP : LnAt w b x) (hl : x.rest.length ≤ 65536) (ha : Asc x.rest) :
    Calls Tryz.prog 81 #[.pointer (some ⟨b, 0, none⟩)] w fun e w' => e = .returned (.bool (isName (wordW x.rest))) ∧ LnAt w' b { x with rest := wordR x.rest, label := wordW x.rest } ∧ Sole b w w' := by
  have hwd := word_any b x w hP hl ha
  have hwl := wordW_le x.rest
  have hnm := fun w => names_Is ⟨(wordW x.rest).toArray⟩ w (by rw [bytes_size]; omega)
  clear hP
  go_enter Tryz.func81, Tryz.ntmps81
  go_wp2_with fail
  refine hwd.mono ?_
  rintro e w1 ⟨rfl, hP1, hS1⟩
  clear hwd
  have hf := hP1.free 2
  have c2 := hP1.c2
  have hP2 := hP1.label (wordW x.rest)
  have hS2 := sole_set hS1 2 (.string ⟨(wordW x.rest).toArray⟩)
  go_wp2_with fail
  refine (hnm _).mono ?_
  rintro e w3 ⟨rfl, hb3⟩
  clear hnm
  go_wp2_with fail
  go_ret
  exact ⟨rfl, hP2.below hb3, hS2.trans (Sole.of hb3)⟩
/-- what key owes -/
def KeyPost (r : Option (Bytes × Bytes)) (x : LineV) (b : Nat) (w : World) (e : Ending) (w' : World) : Prop :=
  e = .returned (.bool r.isSome) ∧ (∃ y : LineV, LnAt w' b y ∧ ∀ k q, r = some (k, q) → x.key = [] → y = { x with rest := q, key := k }) ∧ Sole b w w'
set_option maxHeartbeats 1000000 in
set_option maxRecDepth 100000 in
theorem key_any (b : Nat) (x : LineV) (w : World) (hP : LnAt w b x) (hl : x.rest.length ≤ 65536) (ha : Asc x.rest) :
    Calls Tryz.prog 83 #[.pointer (some ⟨b, 0, none⟩)] w (KeyPost (keyL x.rest) x b w) := by
  have hwd := word_any b x w hP hl ha
  have c0 := hP.c0
  obtain ⟨R, hR⟩ : ∃ R, R = keyL x.rest := ⟨_, rfl⟩
  rw [← hR]
  unfold keyL at hR
  by_cases hk : wordW x.rest = keyW
  · have hat := fun w1 hP1 => attribute_any b { x with rest := wordR x.rest } w1 hP1 (by have := wordR_le x.rest; show (wordR x.rest).length ≤ _; omega) ha.rest
    rw [if_pos hk] at hR
    rw [hk] at hwd
    unfold keyW at hwd
    simp only at hat
    clear hP hk
    cases hb : attrB (wordR x.rest) with
    | true =>
      rw [hb] at hat hR
      have HR := Lib.hid hR
      clear hb hR
      go_enter Tryz.func83, Tryz.ntmps83
      go_wp2_with fail
      refine hwd.mono ?_
      rintro e w1 ⟨rfl, hP1, hS1⟩
      clear hwd
      have hat' := hat _ hP1
      clear hat
      go_wp2_with fail
      refine hat'.mono ?_
      rintro e w2 ⟨rfl, hP2, hS2⟩
      clear hat'
      have hf := hP2.free 4
      have c4 := hP2.c4
      go_wp2_with fail
      go_ret
      refine ⟨by rw [HR.out]; rfl, ⟨_, hP2.key _, fun k r h _ => ?_⟩, sole_set (hS1.trans hS2) 4 _⟩
      rw [HR.out] at h
      simp only [if_true, Option.some.injEq, Prod.mk.injEq] at h
      rw [← h.1, ← h.2]
    | false =>
      rw [hb] at hat hR
      have HR := Lib.hid hR
      clear hb hR
      go_enter Tryz.func83, Tryz.ntmps83
      go_wp2_with fail
      refine hwd.mono ?_
      rintro e w1 ⟨rfl, hP1, hS1⟩
      clear hwd
      have hat' := hat _ hP1
      clear hat
      go_wp2_with fail
      refine hat'.mono ?_
      rintro e w2 ⟨rfl, hP2, hS2⟩
      clear hat'
      have hf := hP2.free 4
      have c4 := hP2.c4
      go_wp2_with fail
      go_ret
      refine ⟨by rw [HR.out]; rfl, ⟨_, hP2.key _, fun k r h _ => ?_⟩, sole_set (hS1.trans hS2) 4 _⟩
      rw [HR.out] at h
      simp at h
  · rw [if_neg hk] at hR
    have hbq : (wordW x.rest == [107, 101, 121]) = false := by rw [beq_eq_false_iff_ne]; exact hk
    have HR := Lib.hid hR
    clear hP hk hR
    go_enter Tryz.func83, Tryz.ntmps83
    go_wp2_with fail
    refine hwd.mono ?_
    rintro e w1 ⟨rfl, hP1, hS1⟩
    clear hwd
    have hf := hP1.free 0
    have c0 := hP1.c0
    go_wp2_with fail
    go_ret
    refine ⟨by rw [HR.out]; rfl, ⟨_, hP1.rest x.rest, fun k r h hk => ?_⟩, sole_set hS1 0 _⟩
    rw [HR.out] at h
    simp only [Option.some.injEq, Prod.mk.injEq] at h
    obtain ⟨h1, h2⟩ := h
    subst h1; subst h2
    rw [← hk]
end Go.Proofs.YtnnbdlmilbcpjaaGreatDoor
