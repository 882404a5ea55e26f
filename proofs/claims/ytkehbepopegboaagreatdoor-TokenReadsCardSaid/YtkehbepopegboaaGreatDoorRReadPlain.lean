/-
  The document's answer, layer 1: a character is read by trying how many bytes it may have. Plain facts, no program in sight.
-/
import Derived.Test.YtkehbepopegboaaGreatDoorReadsPlain
namespace Go.Proofs.YtkehbepopegboaaGreatDoor
set_option linter.unusedVariables false
def offZ (s : Nat) : Int := if s = 2 then 192 else if s = 3 then 224 else if s = 4 then 240 else 0
/-- the number that is told, if so many bytes are tried, behind k bytes more than the first one -/
def numZ (l : Bytes) (s : Nat) : Nat → Int
  | 0 => ((l.getD 0 0).toNat : Nat) - offZ s
  | k + 1 => 64 * numZ l s k + ((l.getD (k + 1) 0).toNat : Nat) - 128
theorem numZ_le (l : Bytes) (s : Nat) : (-240 ≤ numZ l s 0 ∧ numZ l s 0 ≤ 255) ∧ (-15488 ≤ numZ l s 1 ∧ numZ l s 1 ≤ 16447) ∧ (-991360 ≤ numZ l s 2 ∧ numZ l s 2 ≤ 1052735) ∧ (-63447168 ≤ numZ l s 3 ∧ numZ l s 3 ≤ 67375167) := by
  have h0 := (l.getD 0 0).toNat_lt
  have h1 := (l.getD (0 + 1) 0).toNat_lt
  have h2 := (l.getD (1 + 1) 0).toNat_lt
  have h3 := (l.getD (2 + 1) 0).toNat_lt
  have e0 : numZ l s 0 = ((l.getD 0 0).toNat : Nat) - offZ s := rfl
  have e1 : numZ l s 1 = 64 * numZ l s 0 + ((l.getD (0 + 1) 0).toNat : Nat) - 128 := rfl
  have e2 : numZ l s 2 = 64 * numZ l s 1 + ((l.getD (1 + 1) 0).toNat : Nat) - 128 := rfl
  have e3 : numZ l s 3 = 64 * numZ l s 2 + ((l.getD (2 + 1) 0).toNat : Nat) - 128 := rfl
  have ho : 0 ≤ offZ s ∧ offZ s ≤ 240 := by unfold offZ; split <;> (try split) <;> (try split) <;> omega
  generalize numZ l s 0 = a at *
  generalize numZ l s 1 = b at *
  generalize numZ l s 2 = c at *
  generalize numZ l s 3 = d at *
  omega
theorem toByte (x : Int) (h0 : 0 ≤ x) (h1 : x < 256) : ((x.toNat.toUInt8).toNat : Int) = x := by
  simp; omega
theorem enc_dec (r : Int) (h : isCh r = true) (y : Bytes) : dec (Lib.encodeRune r ++ y) = some (r, (Lib.encodeRune r).length) := by
  have hr := isCh_range h
  have hs : ¬ (55296 ≤ r ∧ r ≤ 57343) := by
    intro hx; unfold isCh inSpan los his at h; simp at h; omega
  by_cases h1 : r < 128
  · have e : Lib.encodeRune r = [r.toNat.toUInt8] := by unfold Lib.encodeRune; rw [Lib.encodeRuneZ_one (by omega) (by omega)]; rfl
    have t0 := toByte r (by omega) (by omega)
    rw [e]
    generalize r.toNat.toUInt8 = a at t0
    simp only [List.cons_append, List.nil_append, dec, t0]
    have hb : begN r = 1 := by unfold begN; rw [if_pos h1]
    have hg : begR r = r := by unfold begR; rw [if_pos h1]
    have hu : uSize r = 1 := by unfold uSize; rw [if_pos h1]
    rw [hb, if_neg (by omega), hg]
    simp [contR, hu, h]
  by_cases h2 : r < 2048
  · have e : Lib.encodeRune r = [(192 + r / 64).toNat.toUInt8, (128 + r % 64).toNat.toUInt8] := by unfold Lib.encodeRune; rw [Lib.encodeRuneZ_two (by omega) (by omega)]; rfl
    have t0 := toByte (192 + r / 64) (by omega) (by omega)
    have t1 := toByte (128 + r % 64) (by omega) (by omega)
    rw [e]
    generalize (192 + r / 64).toNat.toUInt8 = a at t0
    generalize (128 + r % 64).toNat.toUInt8 = b at t1
    have c1 : isCont b = true := (isCont_iff b).2 (by omega)
    have hb : begN (192 + r / 64) = 2 := by unfold begN; rw [if_neg (by omega), if_neg (by omega), if_pos (by omega)]
    have hg : begR (192 + r / 64) = r / 64 := by unfold begR; rw [if_neg (by omega), if_neg (by omega), if_pos (by omega)]; omega
    have hu : uSize r = 2 := by unfold uSize; rw [if_neg h1, if_pos h2]
    have hv : r / 64 * 64 + (128 + r % 64 - 128) = r := by omega
    simp only [List.cons_append, List.nil_append, dec, t0, hb, hg]
    rw [if_neg (by simp only [List.length_cons]; omega)]
    simp [contR, c1, t1, hv, hu, h]
  by_cases h3 : r < 65536
  · have e : Lib.encodeRune r = [(224 + r / 4096).toNat.toUInt8, (128 + r / 64 % 64).toNat.toUInt8, (128 + r % 64).toNat.toUInt8] := by unfold Lib.encodeRune; rw [Lib.encodeRuneZ_three (by omega)]; rfl
    have t0 := toByte (224 + r / 4096) (by omega) (by omega)
    have t1 := toByte (128 + r / 64 % 64) (by omega) (by omega)
    have t2 := toByte (128 + r % 64) (by omega) (by omega)
    rw [e]
    generalize (224 + r / 4096).toNat.toUInt8 = a at t0
    generalize (128 + r / 64 % 64).toNat.toUInt8 = b at t1
    generalize (128 + r % 64).toNat.toUInt8 = c at t2
    have c1 : isCont b = true := (isCont_iff b).2 (by omega)
    have c2 : isCont c = true := (isCont_iff c).2 (by omega)
    have hb : begN (224 + r / 4096) = 3 := by unfold begN; rw [if_neg (by omega), if_neg (by omega), if_neg (by omega), if_pos (by omega)]
    have hg : begR (224 + r / 4096) = r / 4096 := by unfold begR; rw [if_neg (by omega), if_neg (by omega), if_neg (by omega), if_pos (by omega)]; omega
    have hu : uSize r = 3 := by unfold uSize; rw [if_neg h1, if_neg h2, if_pos h3]
    have hv : (r / 4096 * 64 + (128 + r / 64 % 64 - 128)) * 64 + (128 + r % 64 - 128) = r := by omega
    simp only [List.cons_append, List.nil_append, dec, t0, hb, hg]
    rw [if_neg (by simp only [List.length_cons]; omega)]
    simp [contR, c1, c2, t1, t2, hv, hu, h]
  · have e : Lib.encodeRune r = [(240 + r / 262144).toNat.toUInt8, (128 + r / 4096 % 64).toNat.toUInt8, (128 + r / 64 % 64).toNat.toUInt8, (128 + r % 64).toNat.toUInt8] := by unfold Lib.encodeRune; rw [Lib.encodeRuneZ_four (by omega) (by omega)]; rfl
    have t0 := toByte (240 + r / 262144) (by omega) (by omega)
    have t1 := toByte (128 + r / 4096 % 64) (by omega) (by omega)
    have t2 := toByte (128 + r / 64 % 64) (by omega) (by omega)
    have t3 := toByte (128 + r % 64) (by omega) (by omega)
    rw [e]
    generalize (240 + r / 262144).toNat.toUInt8 = a at t0
    generalize (128 + r / 4096 % 64).toNat.toUInt8 = b at t1
    generalize (128 + r / 64 % 64).toNat.toUInt8 = c at t2
    generalize (128 + r % 64).toNat.toUInt8 = d at t3
    have c1 : isCont b = true := (isCont_iff b).2 (by omega)
    have c2 : isCont c = true := (isCont_iff c).2 (by omega)
    have c3 : isCont d = true := (isCont_iff d).2 (by omega)
    have hb : begN (240 + r / 262144) = 4 := by unfold begN; rw [if_neg (by omega), if_neg (by omega), if_neg (by omega), if_neg (by omega), if_pos (by omega)]
    have hg : begR (240 + r / 262144) = r / 262144 := by unfold begR; rw [if_neg (by omega), if_neg (by omega), if_neg (by omega), if_neg (by omega), if_pos (by omega)]; omega
    have hu : uSize r = 4 := by unfold uSize; rw [if_neg h1, if_neg h2, if_neg h3]
    have hv : ((r / 262144 * 64 + (128 + r / 4096 % 64 - 128)) * 64 + (128 + r / 64 % 64 - 128)) * 64 + (128 + r % 64 - 128) = r := by omega
    simp only [List.cons_append, List.nil_append, dec, t0, hb, hg]
    rw [if_neg (by simp only [List.length_cons]; omega)]
    simp [contR, c1, c2, c3, t1, t2, t3, hv, hu, h]
theorem byte_of (x : Int) (c : UInt8) (h : x = ((c.toNat : Nat) : Int)) : x.toNat.toUInt8 = c := by
  subst h; simp
theorem long1 {t : Bytes} (h : 1 ≤ t.length) : ∃ x t', t = x :: t' := by
  cases t with
  | nil => simp at h
  | cons x t => exact ⟨x, t, rfl⟩
theorem long2 {t : Bytes} (h : 2 ≤ t.length) : ∃ x y t', t = x :: y :: t' := by
  obtain ⟨x, t, rfl⟩ := long1 (t := t) (by omega)
  obtain ⟨y, t, rfl⟩ := long1 (t := t) (by simp at h; omega)
  exact ⟨x, y, t, rfl⟩
theorem long3 {t : Bytes} (h : 3 ≤ t.length) : ∃ x y z t', t = x :: y :: z :: t' := by
  obtain ⟨x, t, rfl⟩ := long1 (t := t) (by omega)
  obtain ⟨y, z, t, rfl⟩ := long2 (t := t) (by simp at h; omega)
  exact ⟨x, y, z, t, rfl⟩
/-- what is read is what is told by so many bytes, and is written so -/
theorem dec_enc {l : Bytes} {r : Int} {k : Nat} (h : dec l = some (r, k)) : isCh r = true ∧ Lib.encodeRune r = l.take k ∧ r = numZ l k (k - 1) := by
  have hl := dec_len h
  cases l with
  | nil => simp at hl; omega
  | cons c t =>
    simp only [dec] at h
    have hb := begN_le (c.toNat : Nat)
    split at h
    · cases h
    rename_i hn
    split at h
    · cases h
    rename_i s hs
    split at h
    · rename_i hu
      simp only [Option.some.injEq, Prod.mk.injEq] at h
      obtain ⟨rfl, rfl⟩ := h
      refine ⟨hu.2, ?_⟩
      have hca := contR_all hs
      have hr := isCh_range hu.2
      have hsur : ¬ (55296 ≤ s ∧ s ≤ 57343) := by
        intro hx; have := hu.2; unfold isCh inSpan los his at this; simp at this; omega
      have hu1 := hu.1
      have hc0 : ((c.toNat : Nat) : Int) < 256 := by have := c.toNat_lt; omega
      obtain ⟨n, hnn⟩ : ∃ n : Nat, begN (c.toNat : Nat) = n := ⟨(begN (c.toNat : Nat)).toNat, by omega⟩
      rw [hnn] at hu1 hs hca hn hb ⊢
      simp only [Int.toNat_natCast] at hs hca ⊢
      have hn4 : n = 1 ∨ n = 2 ∨ n = 3 ∨ n = 4 := by omega
      have hlen : n - 1 ≤ t.length := by omega
      rcases hn4 with rfl | rfl | rfl | rfl
      · have hc : ((c.toNat : Nat) : Int) < 128 := by unfold begN at hnn; split at hnn <;> (try split at hnn) <;> (try split at hnn) <;> (try split at hnn) <;> (try split at hnn) <;> omega
        have hg : begR (c.toNat : Nat) = (c.toNat : Nat) := by unfold begR; rw [if_pos hc]
        rw [hg] at hs
        simp [contR] at hs
        refine ⟨?_, ?_⟩
        · unfold Lib.encodeRune
          rw [Lib.encodeRuneZ_one (by omega) (by omega)]
          simp only [List.map_cons, List.map_nil, List.take_succ_cons, List.take_zero]
          rw [byte_of s c (by omega)]
        · simp [numZ, offZ]; omega
      · have hc : 192 ≤ ((c.toNat : Nat) : Int) ∧ ((c.toNat : Nat) : Int) < 224 := by unfold begN at hnn; split at hnn <;> (try split at hnn) <;> (try split at hnn) <;> (try split at hnn) <;> (try split at hnn) <;> omega
        have hg : begR (c.toNat : Nat) = (c.toNat : Nat) - 192 := by unfold begR; rw [if_neg (by omega), if_neg (by omega), if_pos (by omega)]
        obtain ⟨x, t, rfl⟩ : ∃ x t', t = x :: t' := by cases t with | nil => simp at hlen | cons x t' => exact ⟨x, t', rfl⟩
        rw [hg] at hs
        simp only [List.take_succ_cons, List.take_zero, Nat.add_one_sub_one, contR] at hs hca
        have c1 := (isCont_iff x).1 (hca x (by simp))
        rw [if_pos (hca x (by simp))] at hs
        simp only [Option.some.injEq] at hs
        have hlo : 128 ≤ s ∧ s < 2048 := by unfold uSize at hu1; split at hu1 <;> (try split at hu1) <;> (try split at hu1) <;> omega
        refine ⟨?_, ?_⟩
        · unfold Lib.encodeRune
          rw [Lib.encodeRuneZ_two (by omega) (by omega)]
          simp only [List.map_cons, List.map_nil, List.take_succ_cons, List.take_zero]
          rw [byte_of _ c (by omega), byte_of _ x (by omega)]
        · simp [numZ, offZ]; omega
      · have hc : 224 ≤ ((c.toNat : Nat) : Int) ∧ ((c.toNat : Nat) : Int) < 240 := by unfold begN at hnn; split at hnn <;> (try split at hnn) <;> (try split at hnn) <;> (try split at hnn) <;> (try split at hnn) <;> omega
        have hg : begR (c.toNat : Nat) = (c.toNat : Nat) - 224 := by unfold begR; rw [if_neg (by omega), if_neg (by omega), if_neg (by omega), if_pos (by omega)]
        obtain ⟨x, y, t, rfl⟩ : ∃ x y t', t = x :: y :: t' := long2 hlen
        rw [hg] at hs
        simp only [List.take_succ_cons, List.take_zero, Nat.reduceSub, contR] at hs hca
        have c1 := (isCont_iff x).1 (hca x (by simp))
        have c2 := (isCont_iff y).1 (hca y (by simp))
        rw [if_pos (hca x (by simp)), if_pos (hca y (by simp))] at hs
        simp only [Option.some.injEq] at hs
        have hlo : 2048 ≤ s ∧ s < 65536 := by unfold uSize at hu1; split at hu1 <;> (try split at hu1) <;> (try split at hu1) <;> omega
        refine ⟨?_, ?_⟩
        · unfold Lib.encodeRune
          rw [Lib.encodeRuneZ_three (by omega)]
          simp only [List.map_cons, List.map_nil, List.take_succ_cons, List.take_zero]
          rw [byte_of _ c (by omega), byte_of _ x (by omega), byte_of _ y (by omega)]
        · simp [numZ, offZ]; omega
      · have hc : 240 ≤ ((c.toNat : Nat) : Int) ∧ ((c.toNat : Nat) : Int) < 248 := by unfold begN at hnn; split at hnn <;> (try split at hnn) <;> (try split at hnn) <;> (try split at hnn) <;> (try split at hnn) <;> omega
        have hg : begR (c.toNat : Nat) = (c.toNat : Nat) - 240 := by unfold begR; rw [if_neg (by omega), if_neg (by omega), if_neg (by omega), if_neg (by omega), if_pos (by omega)]
        obtain ⟨x, y, z, t, rfl⟩ : ∃ x y z t', t = x :: y :: z :: t' := long3 hlen
        rw [hg] at hs
        simp only [List.take_succ_cons, List.take_zero, Nat.reduceSub, contR] at hs hca
        have c1 := (isCont_iff x).1 (hca x (by simp))
        have c2 := (isCont_iff y).1 (hca y (by simp))
        have c3 := (isCont_iff z).1 (hca z (by simp))
        rw [if_pos (hca x (by simp)), if_pos (hca y (by simp)), if_pos (hca z (by simp))] at hs
        simp only [Option.some.injEq] at hs
        have hlo : 65536 ≤ s := by unfold uSize at hu1; split at hu1 <;> (try split at hu1) <;> (try split at hu1) <;> omega
        refine ⟨?_, ?_⟩
        · unfold Lib.encodeRune
          rw [Lib.encodeRuneZ_four (by omega) (by omega)]
          simp only [List.map_cons, List.map_nil, List.take_succ_cons, List.take_zero]
          rw [byte_of _ c (by omega), byte_of _ x (by omega), byte_of _ y (by omega), byte_of _ z (by omega)]
        · simp [numZ, offZ]; omega
    · cases h
/-- so many bytes are tried, and it fits -/
theorem dec_try {l : Bytes} {s : Nat} {r : Int} (hr : isCh r = true) (he : Lib.encodeRune r = l.take s) (hs : s ≤ l.length) : dec l = some (r, s) := by
  have h := enc_dec r hr (l.drop s)
  rw [he, List.take_append_drop, List.length_take, Nat.min_eq_left hs] at h
  exact h
end Go.Proofs.YtkehbepopegboaaGreatDoor
