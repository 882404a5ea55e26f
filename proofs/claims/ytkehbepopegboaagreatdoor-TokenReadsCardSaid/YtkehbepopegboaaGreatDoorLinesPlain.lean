/-
  The plain law of TokenLines: how lines end does not count.
-/
import Derived.Test.YtkehbepopegboaaGreatDoorRoomPlain
namespace Go.Proofs.YtkehbepopegboaaGreatDoor
set_option linter.unusedVariables false
/-- 13, or 13 and 10, in place of each 10 -/
def crs (h : Bool) : Bytes → Bytes
  | [] => []
  | c :: t => if c = 10 then (if h then 13 :: 10 :: crs h t else 13 :: crs h t) else c :: crs h t
theorem crs_append (h : Bool) (a b : Bytes) : crs h (a ++ b) = crs h a ++ crs h b := by
  induction a with
  | nil => rfl
  | cons c t ih =>
    simp only [List.cons_append, crs]
    split
    · split <;> simp [ih]
    · simp [ih]
theorem crs_length (h : Bool) (a : Bytes) : (crs h a).length ≤ 2 * a.length ∧ a.length ≤ (crs h a).length := by
  induction a with
  | nil => simp [crs]
  | cons c t ih =>
    simp only [crs]
    split
    · split <;> simp <;> omega
    · simp; omega
theorem lines_cons {c : UInt8} (t : Bytes) (h : c ≠ 13) : lines (c :: t) = c :: lines t := by
  conv => lhs; unfold lines
  rw [if_neg h]
theorem lines_cr_lf (t : Bytes) : lines (13 :: 10 :: t) = 10 :: lines t := by
  conv => lhs; unfold lines
  rw [if_pos rfl]
  simp only [if_pos]
  exact lines_cons t (by decide)
theorem lines_cr (t : Bytes) (h : t.head? ≠ some 10) : lines (13 :: t) = 10 :: lines t := by
  conv => lhs; unfold lines
  rw [if_pos rfl]
  cases t with
  | nil => rfl
  | cons d r => simp only; rw [if_neg (fun e => h (by simp [e]))]
theorem lines_id {l : Bytes} (h : ∀ x ∈ l, x ≠ 13) : lines l = l := by
  induction l with
  | nil => rfl
  | cons c t ih => rw [lines_cons t (h c (by simp)), ih fun x hx => h x (by simp [hx])]
theorem crs_head (t : Bytes) : (crs false t).head? ≠ some 10 := by
  cases t with
  | nil => simp [crs]
  | cons c r =>
    simp only [crs]
    split
    · simp
    · rename_i hc; simpa using hc
theorem lines_crs (h : Bool) {l : Bytes} (hl : ∀ x ∈ l, x ≠ 13) : lines (crs h l) = l := by
  induction l with
  | nil => rfl
  | cons c t ih =>
    have ih := ih fun x hx => hl x (by simp [hx])
    simp only [crs]
    split
    · rename_i hc
      cases h with
      | true => rw [if_pos rfl, lines_cr_lf, ih, hc]
      | false => rw [if_neg (by simp), lines_cr _ (crs_head t), ih, hc]
    · rw [lines_cons _ (hl c (by simp)), ih]
theorem contR_all {r s : Int} {l : Bytes} (h : contR r l = some s) : ∀ x ∈ l, isCont x = true := by
  induction l generalizing r with
  | nil => simp
  | cons c t ih =>
    simp only [contR] at h
    split at h
    · rename_i hc
      intro x hx
      simp at hx
      rcases hx with rfl | hx
      · exact hc
      · exact ih h x hx
    · cases h
theorem crs_take (h : Bool) : ∀ (m : Nat) (t : Bytes), (∀ x ∈ t.take m, x ≠ 10) → crs h t = t.take m ++ crs h (t.drop m)
  | 0, t, _ => by simp
  | m + 1, [], _ => by simp [crs]
  | m + 1, c :: t, hx => by
    have hc : c ≠ 10 := hx c (by simp)
    have := crs_take h m t fun x hx' => hx x (by simp [hx'])
    simp only [crs, if_neg hc, List.take_succ_cons, List.drop_succ_cons, List.cons_append]
    rw [← this]
theorem crs_take' (h : Bool) : ∀ (m : Nat) (t : Bytes), (∀ x ∈ (crs h t).take m, x ≠ 13) → m ≤ (crs h t).length → t.take m = (crs h t).take m ∧ m ≤ t.length
  | 0, t, _, _ => by simp
  | m + 1, [], _, hl => by simp [crs] at hl
  | m + 1, c :: t, hx, hl => by
    by_cases hc : c = 10
    · exfalso
      simp only [crs, if_pos hc] at hx
      cases h <;> exact hx 13 (by simp) rfl
    · simp only [crs, if_neg hc, List.take_succ_cons, List.length_cons] at hx hl ⊢
      have := crs_take' h m t (fun x hx' => hx x (by simp [hx'])) (by omega)
      exact ⟨by rw [this.1], by omega⟩
theorem cont_ne {x : UInt8} (h : isCont x = true) : x ≠ 10 ∧ x ≠ 13 := by
  constructor <;> (rintro rfl; revert h; decide)
theorem dec_crs (h : Bool) {c : UInt8} {t : Bytes} {r : Int} {k : Nat} (hd : dec (c :: t) = some (r, k)) : dec (c :: crs h t) = some (r, k) ∧ (c :: crs h t).drop k = crs h ((c :: t).drop k) := by
  have hlen := dec_len hd
  simp only [dec] at hd ⊢
  split at hd
  · cases hd
  rename_i hn
  have hb := begN_le (c.toNat : Nat)
  split at hd
  · cases hd
  rename_i s hs
  split at hd
  · rename_i hu
    simp only [Option.some.injEq, Prod.mk.injEq] at hd
    have hca := contR_all hs
    have hcr := crs_take h ((begN (c.toNat : Nat)).toNat - 1) t fun x hx => (cont_ne (hca x hx)).1
    have hl := (crs_length h t).2
    have htk : (crs h t).take ((begN (c.toNat : Nat)).toNat - 1) = t.take ((begN (c.toNat : Nat)).toNat - 1) := by
      conv => lhs; rw [hcr]
      rw [List.take_append_of_le_length (by rw [List.length_take]; omega), List.take_take, Nat.min_self]
    rw [if_neg (by omega), htk, hs]
    simp only
    rw [if_pos hu]
    refine ⟨by rw [hd.1, hd.2], ?_⟩
    have hk : k = (begN (c.toNat : Nat)).toNat - 1 + 1 := by omega
    rw [hk, List.drop_succ_cons, List.drop_succ_cons]
    conv => lhs; rw [hcr]
    rw [List.drop_append_of_le_length (by rw [List.length_take]; omega), List.drop_of_length_le (by rw [List.length_take]; omega), List.nil_append]
  · cases hd
theorem dec_crs' (h : Bool) {c : UInt8} {t : Bytes} (hd : dec (c :: t) = none) : dec (c :: crs h t) = none := by
  cases hx : dec (c :: crs h t) with
  | none => rfl
  | some y =>
    obtain ⟨r, k⟩ := y
    exfalso
    simp only [dec] at hd hx
    have hb := begN_le (c.toNat : Nat)
    split at hx
    · cases hx
    rename_i hn
    split at hx
    · cases hx
    rename_i s hs
    split at hx
    · rename_i hu
      have hca := contR_all hs
      have := crs_take' h ((begN (c.toNat : Nat)).toNat - 1) t (fun x hx => (cont_ne (hca x hx)).2) (by omega)
      rw [if_neg (by omega), this.1, hs] at hd
      simp only at hd
      rw [if_pos hu] at hd
      cases hd
    · cases hx
theorem valid_cons {l : Bytes} {r : Int} {k : Nat} (h : dec l = some (r, k)) : chk l = l.length ↔ chk (l.drop k) = (l.drop k).length := by
  rw [chk_some h]
  have := dec_len h
  have := chk_le (l.drop k)
  rw [List.length_drop] at this ⊢
  omega
theorem valid_crs (h : Bool) (n : Nat) : ∀ l : Bytes, l.length ≤ n → (chk l = l.length ↔ chk (crs h l) = (crs h l).length) := by
  induction n with
  | zero => intro l hl; obtain rfl : l = [] := List.length_eq_zero_iff.1 (by omega); simp [crs]
  | succ n ih =>
    intro l hl
    cases l with
    | nil => simp [crs]
    | cons c t =>
      simp at hl
      by_cases hc : c = 10
      · subst hc
        have d10 : ∀ s : Bytes, dec (10 :: s) = some (10, 1) := fun s => by simp [dec, begN, begR, contR, uSize, isCh, inSpan, los, his]; omega
        have d13 : ∀ s : Bytes, dec (13 :: s) = some (13, 1) := fun s => by simp [dec, begN, begR, contR, uSize, isCh, inSpan, los, his]; omega
        rw [valid_cons (d10 t)]
        have := ih t (by omega)
        simp only [crs, if_pos]
        cases h with
        | true =>
          rw [if_pos rfl, valid_cons (d13 _)]
          simp only [List.drop_succ_cons, List.drop_zero]
          rw [valid_cons (d10 _)]
          simpa using this
        | false =>
          rw [if_neg (by simp), valid_cons (d13 _)]
          simpa using this
      · cases hd : dec (c :: t) with
        | none =>
          have h2 := dec_crs' h hd
          have e1 : crs h (c :: t) = c :: crs h t := by simp [crs, hc]
          rw [e1, chk_none hd, chk_none h2]
          simp
        | some y =>
          obtain ⟨r, k⟩ := y
          have h2 := dec_crs h hd
          have e1 : crs h (c :: t) = c :: crs h t := by simp [crs, hc]
          rw [e1, valid_cons hd, valid_cons h2.1, h2.2]
          have := dec_len hd
          exact ih _ (by rw [List.length_drop]; simp; omega)
theorem allP_bad {l : Bytes} (h : l.length ≤ 65536) (hc : chk l < l.length) : allP l = ([], chk l, 10) := by
  unfold allP
  rw [if_neg (by omega), if_pos hc]
theorem allP_good {l : Bytes} (h : l.length ≤ 65536) (hc : chk l = l.length) : allP l = match allF ((lines l).length + 1) true 0 [] (lines l) with
    | .inl p => ([], p, 12)
    | .inr l => (l, 0, 0) := by
  conv => lhs; unfold allP
  rw [if_neg (by omega), if_neg (by omega)]
  rfl
/-- THE PLAIN LAW: the pieces, the error, and, but where a character is wrong, the place are the same -/
theorem lines_law (h : Bool) {l : Bytes} (hl : ∀ x ∈ l, x ≠ 13) (hn : l.length ≤ 600) :
    (allP (crs h l)).1 = (allP l).1 ∧ (allP (crs h l)).2.2 = (allP l).2.2 ∧ ((allP l).2.2 = 10 ∨ (allP (crs h l)).2.1 = (allP l).2.1) := by
  have hlen := crs_length h l
  have hv := valid_crs h l.length l (Nat.le_refl _)
  have h1 := chk_le l
  have h2 := chk_le (crs h l)
  by_cases hc : chk l = l.length
  · have hc2 := hv.1 hc
    rw [allP_good (by omega) hc, allP_good (by omega) hc2, lines_crs h hl, lines_id hl]
    exact ⟨rfl, rfl, .inr rfl⟩
  · have hc2 : ¬ chk (crs h l) = (crs h l).length := fun e => hc (hv.2 e)
    rw [allP_bad (by omega) (by omega), allP_bad (by omega) (by omega)]
    exact ⟨rfl, rfl, .inl rfl⟩
end Go.Proofs.YtkehbepopegboaaGreatDoor
