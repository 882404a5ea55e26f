/-
  The plain functions on lists of bytes that the program's layer 1 computes: no program in sight. No condition.
-/
import Derived.Lib.IndexMore
import Derived.Lib.Replace
import Derived.Lib.RuneBytes
namespace Go.Proofs.YtnnbdlmilbcpjaaGreatDoor

abbrev Bytes := List UInt8
def los : List Int := [9, 13, 32, 57344, 65536]
def his : List Int := [10, 13, 55295, 65533, 1114111]
def inSpan (r : Int) (k : Nat) : Bool := decide (los.getD k 0 ≤ r) && decide (r ≤ his.getD k 0)
/-- a number is a character -/
def isCh (r : Int) : Bool := inSpan r 0 || inSpan r 1 || inSpan r 2 || inSpan r 3 || inSpan r 4
/-- how many bytes a first byte tells, and what it has of the number -/
def begN (c : Int) : Int := if c < 128 then 1 else if c < 192 then 0 else if c < 224 then 2 else if c < 240 then 3 else if c < 248 then 4 else 0
def begR (c : Int) : Int := if c < 128 then c else if c < 192 then 0 else if c < 224 then c - 192 else if c < 240 then c - 224 else if c < 248 then c - 240 else 0
def uSize (r : Int) : Int := if r < 128 then 1 else if r < 2048 then 2 else if r < 65536 then 3 else 4
def isCont (c : UInt8) : Bool := !(decide (((c.toNat : Nat) : Int) < 128) || decide ((191 : Int) < ((c.toNat : Nat) : Int)))
/-- the bytes behind the first one -/
def contR : Int → Bytes → Option Int
  | r, [] => some r
  | r, c :: t => if isCont c then contR (r * 64 + (((c.toNat : Nat) : Int) - 128)) t else none
/-- the character with which bytes begin, and how many it has -/
def dec : Bytes → Option (Int × Nat)
  | [] => none
  | c :: t =>
    let n := begN c.toNat
    if n = 0 ∨ (t.length : Int) + 1 < n then none else
    match contR (begR c.toNat) (t.take (n.toNat - 1)) with
    | none => none
    | some r => if uSize r = n ∧ isCh r = true then some (r, n.toNat) else none
theorem begN_le (c : Int) : 0 ≤ begN c ∧ begN c ≤ 4 := by unfold begN; omega
theorem begR_le (c : Int) (h0 : 0 ≤ c) (h1 : c < 256) : 0 ≤ begR c ∧ begR c < 128 ∧ (2 ≤ begN c → begR c < 32) := by unfold begN begR; omega
theorem isCont_iff (c : UInt8) : isCont c = true ↔ (128 : Int) ≤ ((c.toNat : Nat) : Int) ∧ ((c.toNat : Nat) : Int) ≤ 191 := by
  unfold isCont; simp
theorem contR_append (r : Int) (a b : Bytes) : contR r (a ++ b) = (contR r a).bind fun s => contR s b := by
  induction a generalizing r with
  | nil => rfl
  | cons c t ih => simp only [List.cons_append, contR]; split <;> simp [ih]
theorem contR_snoc {r s : Int} {a : Bytes} {c : UInt8} (h : contR r a = some s) : contR r (a ++ [c]) = if isCont c then some (s * 64 + (((c.toNat : Nat) : Int) - 128)) else none := by
  rw [contR_append, h]; simp [contR]
theorem contR_fail {r : Int} {a b : Bytes} {c : UInt8} (h : isCont c = false) : contR r (a ++ c :: b) = none := by
  induction a generalizing r with
  | nil => simp [contR, h]
  | cons d t ih => simp only [List.cons_append, contR]; split <;> simp [ih]
theorem dec_len {l : Bytes} {r : Int} {k : Nat} (h : dec l = some (r, k)) : 1 ≤ k ∧ k ≤ 4 ∧ k ≤ l.length := by
  cases l with
  | nil => simp [dec] at h
  | cons c t =>
    have := begN_le c.toNat
    simp only [dec] at h
    split at h
    · simp at h
    · split at h
      · simp at h
      · split at h
        · simp only [Option.some.injEq, Prod.mk.injEq] at h; simp only [List.length_cons]; omega
        · simp at h
/-- the first place where no character stands -/
def chkF : Nat → Bytes → Nat
  | 0, _ => 0
  | f + 1, l => match dec l with
    | none => 0
    | some (_, k) => k + chkF f (l.drop k)
def chk (l : Bytes) : Nat := chkF l.length l
theorem chkF_eq (f : Nat) : ∀ (g : Nat) (l : Bytes), l.length ≤ f → l.length ≤ g → chkF f l = chkF g l := by
  induction f with
  | zero =>
    intro g l hf _
    obtain rfl : l = [] := List.length_eq_zero_iff.1 (by omega)
    cases g <;> simp [chkF, dec]
  | succ f ih =>
    intro g l hf hg
    cases g with
    | zero =>
      obtain rfl : l = [] := List.length_eq_zero_iff.1 (by omega)
      simp [chkF, dec]
    | succ g =>
      simp only [chkF]
      cases h : dec l with
      | none => rfl
      | some x =>
        obtain ⟨r, k⟩ := x
        have := dec_len h
        simp only
        rw [ih g _ (by simp; omega) (by simp; omega)]
theorem chk_none {l : Bytes} (h : dec l = none) : chk l = 0 := by
  unfold chk
  cases l with
  | nil => rfl
  | cons c t => simp [chkF, h]
theorem chk_some {l : Bytes} {r : Int} {k : Nat} (h : dec l = some (r, k)) : chk l = k + chk (l.drop k) := by
  have hl := dec_len h
  unfold chk
  cases hn : l.length with
  | zero => omega
  | succ n =>
    simp only [chkF, h]
    rw [chkF_eq n (l.drop k).length _ (by simp; omega) (by omega)]
theorem chk_nil : chk [] = 0 := rfl
theorem chk_le (l : Bytes) : chk l ≤ l.length := by
  have H : ∀ n (l : Bytes), l.length ≤ n → chk l ≤ l.length := by
    intro n
    induction n with
    | zero => intro l hl; obtain rfl : l = [] := List.length_eq_zero_iff.1 (by omega); simp [chk_nil]
    | succ n ih =>
      intro l hl
      cases h : dec l with
      | none => rw [chk_none h]; omega
      | some x =>
        obtain ⟨r, k⟩ := x
        have := dec_len h
        have := ih (l.drop k) (by simp; omega)
        rw [chk_some h]; simp at this; omega
  exact H _ l (Nat.le_refl _)
/-- text of characters alone -/
def valid (l : Bytes) : Prop := chk l = l.length
end Go.Proofs.YtnnbdlmilbcpjaaGreatDoor
