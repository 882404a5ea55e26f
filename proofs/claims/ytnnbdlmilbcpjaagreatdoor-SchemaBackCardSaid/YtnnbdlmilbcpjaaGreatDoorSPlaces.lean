/-
  Layer 8 (schema): the places of the types, by their names: plain facts of the map.
-/
import Derived.Test.YtnnbdlmilbcpjaaGreatDoorSTypes
import Derived.Maps.OwnSet
namespace Go.Proofs.YtnnbdlmilbcpjaaGreatDoor
open Go.RowKit
set_option linter.unusedVariables false
theorem placeF_snoc (n : Bytes) (t : SType) : ∀ (ts : List SType) (i : Nat) (r : Option Nat), placeF i (ts ++ [t]) n r = if t.name = n then some (i + ts.length) else placeF i ts n r := by
  intro ts
  induction ts with
  | nil => intro i r; simp [placeF]
  | cons x ts ih =>
    intro i r
    simp only [List.cons_append, placeF]
    rw [ih]
    simp only [List.length_cons]
    rw [show i + 1 + ts.length = i + (ts.length + 1) by omega]
theorem placeS_snoc (ts : List SType) (t : SType) (n : Bytes) : placeS (ts ++ [t]) n = if t.name = n then some ts.length else placeS ts n := by
  unfold placeS
  rw [placeF_snoc, Nat.zero_add]
/-- so many different words -/
def dcount : List Bytes → Nat
  | [] => 0
  | a :: t => (if t.contains a then 0 else 1) + dcount t
theorem dcount_snoc (l : List Bytes) (a : Bytes) : dcount (l ++ [a]) = if l.contains a then dcount l else dcount l + 1 := by
  induction l with
  | nil => simp [dcount]
  | cons b t ih =>
    simp only [List.cons_append, dcount, ih]
    by_cases e : a = b
    · subst e
      by_cases h : t.contains a = true
      · simp_all
      · simp_all; omega
    · have e2 : ((a == b) : Bool) = false := by simpa using e
      have e3 : ¬ b = a := fun h => e h.symm
      by_cases h : t.contains a = true
      · by_cases h2 : t.contains b = true <;> simp_all
      · by_cases h2 : t.contains b = true <;> simp_all <;> omega
theorem dcount_le (l : List Bytes) : dcount l ≤ l.length := by
  induction l with
  | nil => simp [dcount]
  | cons b t ih => simp only [dcount, List.length_cons]; split <;> omega
theorem dcount_twice (l : List Bytes) : decide (dcount l < l.length) = twiceB l := by
  have h : dcount l < l.length ↔ twiceB l = true := by
    induction l with
    | nil => simp [dcount, twiceB]
    | cons b t ih =>
      have h1 := dcount_le t
      have e : dcount (b :: t) = (if t.contains b = true then 0 else 1) + dcount t := rfl
      have e2 : twiceB (b :: t) = (t.contains b || twiceB t) := rfl
      rw [e, e2, Bool.or_eq_true, ← ih, List.length_cons]
      by_cases hc : t.contains b = true
      · rw [if_pos hc]
        exact ⟨fun _ => .inl hc, fun _ => by omega⟩
      · rw [if_neg hc]
        exact ⟨fun h => .inr (by omega), fun h => by rcases h with h | h; exact absurd h hc; omega⟩
  rw [Bool.eq_iff_iff, decide_eq_true_eq]
  exact h
/-- the map tells the places -/
structure Pl (D : DataW Unit) (ts : List SType) : Prop where
  tidy : Maps.Tidy D
  at0 : ∀ n : Bytes, D.atKey (.string n) (.lit (.int .i64 0)) = .lit (.int .i64 (((placeS ts n).getD 0 : Nat) : Int))
  has : ∀ n : Bytes, Maps.has D (.string n) = (placeS ts n).isSome
  size : Maps.size D = dcount (ts.map SType.name)
theorem placeS_some (ts : List SType) (n : Bytes) : (placeS ts n).isSome = (ts.map SType.name).contains n := by
  have : ∀ (l : List SType) (i : Nat) (r : Option Nat), (placeF i l n r).isSome = (r.isSome || (l.map SType.name).contains n) := by
    intro l
    induction l with
    | nil => intro i r; simp [placeF]
    | cons t l ih =>
      intro i r
      simp only [placeF, ih, List.map_cons, List.contains_cons]
      by_cases e : t.name = n
      · simp [e]
      · have e2 : ((n == t.name) : Bool) = false := by simpa using fun h => e h.symm
        simp [e, e2]
  simpa [placeS] using this ts 0 none
theorem Pl.nil : Pl (.map []) [] := ⟨Maps.tidy_empty, fun n => rfl, fun n => rfl, rfl⟩
theorem Pl.snoc {D : DataW Unit} {ts : List SType} (h : Pl D ts) (t : SType) : Pl (D.put (.string t.name) (.lit (.int .i64 (ts.length : Nat)))) (ts ++ [t]) := by
  refine ⟨h.tidy.put (by trivial) _, fun n => ?_, fun n => ?_, ?_⟩
  · rw [placeS_snoc]
    by_cases e : t.name = n
    · subst e
      rw [if_pos rfl, Maps.atKey_put_same h.tidy.isMap (by trivial)]
      rfl
    · rw [if_neg e, Maps.atKey_put_other (by simpa using fun e2 : n = t.name => e e2.symm)]
      exact h.at0 n
  · rw [placeS_snoc]
    by_cases e : t.name = n
    · subst e
      rw [if_pos rfl, Maps.has_put_same h.tidy.isMap (by trivial)]
      rfl
    · rw [if_neg e, Maps.has_put_other (by simpa using fun e2 : n = t.name => e e2.symm)]
      exact h.has n
  · rw [Maps.size_put h.tidy, h.has t.name, placeS_some, List.map_append, List.map_cons, List.map_nil, dcount_snoc, h.size]
end Go.Proofs.YtnnbdlmilbcpjaaGreatDoor
