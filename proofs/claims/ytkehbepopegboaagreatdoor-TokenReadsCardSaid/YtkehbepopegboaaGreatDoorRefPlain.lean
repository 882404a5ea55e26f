/-
  The plain functions of references and of what is written by them (layer 2): no program in sight. No condition.
-/
import Derived.Test.YtkehbepopegboaaGreatDoorNamesPlain
import Derived.Lib.IndexLaws
open Go
namespace Go.Proofs.YtkehbepopegboaaGreatDoor
/-- what digits of a kind tell, if they tell a character -/
def numb (k : Int → Bool) (base : Int) (l : Bytes) : Option Int :=
  if 1 ≤ l.length ∧ l.length ≤ 8 ∧ allB k l = true then
    if valB base 0 l ≤ 1114111 ∧ isCh (valB base 0 l) = true then some (valB base 0 l) else none
  else none
/-- the character of what stands between the ampersand and the semicolon -/
def named (l : Bytes) : Option Int :=
  if l = [97, 109, 112] then some 38 else if l = [108, 116] then some 60 else if l = [103, 116] then some 62
  else if l = [113, 117, 111, 116] then some 34 else if l = [97, 112, 111, 115] then some 39
  else if Lib.hasPrefix l [35, 120] then numb hexB 16 (l.drop 2) else if Lib.hasPrefix l [35] then numb decB 10 (l.drop 1) else none
/-- the reference with which a text begins: its character, and how many bytes it has -/
def refr (l : Bytes) : Option (Int × Nat) :=
  if Lib.indexByte l 59 < 0 then none else (named ((l.drop 1).take ((Lib.indexByte l 59).toNat - 1))).map fun c => (c, (Lib.indexByte l 59).toNat + 1)
/-- what reference answers -/
def refV : Option (Int × Nat) → Value
  | none => .tuple #[.int .i32 0, .int .i64 0]
  | some (r, k) => .tuple #[.int .i32 r, .int .i64 k]
theorem refV_none : refV none = .tuple #[.int .i32 0, .int .i64 0] := rfl
theorem refV_some (r : Int) (k : Nat) : refV (some (r, k)) = .tuple #[.int .i32 r, .int .i64 k] := rfl
theorem named_rest {l : Bytes} (h1 : (l == [97, 109, 112]) = false) (h2 : (l == [108, 116]) = false) (h3 : (l == [103, 116]) = false) (h4 : (l == [113, 117, 111, 116]) = false) (h5 : (l == [97, 112, 111, 115]) = false) :
    named l = if Lib.hasPrefix l [35, 120] then numb hexB 16 (l.drop 2) else if Lib.hasPrefix l [35] then numb decB 10 (l.drop 1) else none := by
  unfold named
  rw [if_neg (by simpa using h1), if_neg (by simpa using h2), if_neg (by simpa using h3), if_neg (by simpa using h4), if_neg (by simpa using h5)]
theorem hasPrefix_le {l p : Bytes} (h : Lib.hasPrefix l p = true) : p.length ≤ l.length := by
  unfold Lib.hasPrefix at h
  exact (List.isPrefixOf_iff_prefix.1 h).length_le
theorem digV_le (c : Int) (k : Int → Bool) (hk : k c = true) (h : k = decB ∨ k = hexB) : 0 ≤ digV c ∧ digV c ≤ 15 := by
  rcases h with rfl | rfl
  · unfold decB at hk; simp at hk; unfold digV; omega
  · unfold hexB decB at hk; simp at hk; unfold digV; omega
theorem valB_nonneg (base : Int) (hb : 0 ≤ base) (k : Int → Bool) (h : k = decB ∨ k = hexB) : ∀ (l : Bytes) (a : Int), 0 ≤ a → allB k l = true → 0 ≤ valB base a l := by
  intro l
  induction l with
  | nil => intro a ha _; exact ha
  | cons c t ih =>
    intro a ha hl
    unfold allB at hl
    simp only [List.all_cons, Bool.and_eq_true] at hl
    refine ih _ ?_ (by unfold allB; exact hl.2)
    have := digV_le _ k hl.1 h
    have := Int.mul_nonneg ha hb
    omega
/-- the text that is written so, or what is wrong: the error's number, and the text, behind what has been read -/
def unescF : Nat → Bytes → Bytes → Int × Bytes
  | 0, acc, _ => (0, acc)
  | _ + 1, acc, [] => (0, acc)
  | f + 1, acc, c :: t =>
    if c = 60 then (12, []) else if c = 38 then
      match refr (c :: t) with
      | none => (13, [])
      | some (r, k) => unescF f (acc ++ Lib.encodeRune r) ((c :: t).drop k)
    else unescF f (acc ++ [c]) t
def unescape (l : Bytes) : Int × Bytes := if chk l < l.length then (10, []) else unescF l.length [] l
/-- what Unescape answers -/
def unV (x : Int × Bytes) : Value := .tuple #[.string ⟨x.2.toArray⟩, .int .i64 x.1]
theorem isCh_range {r : Int} (h : isCh r = true) : 9 ≤ r ∧ r ≤ 1114111 := by
  unfold isCh inSpan los his at h
  simp at h
  omega
theorem numb_range {k : Int → Bool} {base : Int} {l : Bytes} {r : Int} (h : numb k base l = some r) : isCh r = true := by
  unfold numb at h
  split at h
  · split at h
    · rename_i h2; simp only [Option.some.injEq] at h; rw [← h]; exact h2.2
    · simp at h
  · simp at h
theorem named_range {l : Bytes} {r : Int} (h : named l = some r) : isCh r = true := by
  unfold named at h
  repeat' split at h
  all_goals first
  | exact numb_range h
  | (simp only [Option.some.injEq] at h; subst h; decide)
  | simp at h
theorem refr_range {l : Bytes} {r : Int} {k : Nat} (h : refr l = some (r, k)) : isCh r = true ∧ 1 ≤ k ∧ k ≤ l.length := by
  unfold refr at h
  split at h
  · simp at h
  · rename_i hi
    cases hn : named ((l.drop 1).take ((Lib.indexByte l 59).toNat - 1)) with
    | none => rw [hn] at h; simp at h
    | some c =>
      rw [hn] at h
      simp only [Option.map_some, Option.some.injEq, Prod.mk.injEq] at h
      obtain ⟨rfl, rfl⟩ := h
      refine ⟨named_range hn, by omega, ?_⟩
      have hs := Lib.indexByte_some (l := l) (c := 59) (o := (Lib.indexByte l 59).toNat) (by omega)
      have := (List.getElem?_eq_some_iff.1 hs.1).1
      omega
theorem encodeRune_le (r : Int) : (Lib.encodeRune r).length ≤ 4 := by
  have := Lib.encodeRuneZ_length r
  unfold Lib.encodeRune; rw [List.length_map]; omega
theorem unescF_cons (f : Nat) (acc : Bytes) (c : UInt8) (t : Bytes) : unescF (f + 1) acc (c :: t) =
    if c = 60 then (12, []) else if c = 38 then (match refr (c :: t) with | none => (13, []) | some (r, k) => unescF f (acc ++ Lib.encodeRune r) ((c :: t).drop k)) else unescF f (acc ++ [c]) t := rfl
theorem unescF_nil (f : Nat) (acc : Bytes) : unescF f acc [] = (0, acc) := by cases f <;> rfl
end Go.Proofs.YtkehbepopegboaaGreatDoor
