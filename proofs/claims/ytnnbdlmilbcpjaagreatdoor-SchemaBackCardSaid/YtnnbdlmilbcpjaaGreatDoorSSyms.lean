/-
  Layer 7 (regex): the words that stand in a content, rising, each once: the walk of Symbols.
-/
import Derived.Test.YtnnbdlmilbcpjaaGreatDoorSRegex2
import Derived.Test.YtnnbdlmilbcpjaaGreatDoorShelf
import Derived.Laws.OwnMore
import Derived.Lib.SlicesCompact
import Derived.Lib.OwnBridge
import Derived.Sort.OwnSorted
namespace Go.Proofs.YtnnbdlmilbcpjaaGreatDoor
open Go.RowKit
set_option linter.unusedVariables false
/-! ### what slices.Compact keeps is what compactB keeps -/

theorem compactB_snoc (l : List Bytes) (a b : Bytes) : compactB (l ++ [a, b]) = if a = b then compactB (l ++ [a]) else compactB (l ++ [a]) ++ [b] := by
  induction l with
  | nil =>
    simp only [List.nil_append, compactB]
    by_cases h : a = b
    · subst h; simp
    · simp [h]
  | cons x t ih =>
    cases t with
    | nil =>
      simp only [List.cons_append, List.nil_append, compactB]
      by_cases h : x = a <;> by_cases h2 : a = b <;> simp [h, h2]
    | cons y r =>
      simp only [List.cons_append, compactB] at ih ⊢
      by_cases h : x = y
      · simp only [h, if_true] at ih ⊢; exact ih
      · simp only [if_neg h]
        rw [ih]
        split <;> simp
theorem take_two {α : Type} {l : List α} {k : Nat} {a b : α} (ha : l[k]? = some a) (hb : l[k + 1]? = some b) : l.take (k + 2) = l.take k ++ [a, b] ∧ l.take (k + 1) = l.take k ++ [a] := by
  have h1 : l.take (k + 1) = l.take k ++ [a] := by rw [List.take_add_one, ha]; rfl
  refine ⟨?_, h1⟩
  rw [List.take_add_one, hb, h1]
  simp
theorem compactUpTo_take (l : List Bytes) : ∀ m, m ≤ l.length → Lib.compactUpTo l.toArray m = compactB (l.take m) := by
  intro m
  induction m with
  | zero => intro _; simp [Lib.compactUpTo, compactB]
  | succ m ih =>
    intro hm
    rw [Lib.compactUpTo_succ, ih (by omega)]
    have hb : l[m]? = some l[m] := List.getElem?_eq_getElem (by omega)
    have hb2 : l.toArray[m]! = l[m] := by simp [show m < l.length by omega]
    cases m with
    | zero =>
      rw [if_pos (Lib.keeps_lt_one _ 0 (by omega)), hb2]
      rw [List.take_add_one, hb]
      simp [compactB]
    | succ k =>
      have ha : l[k]? = some l[k] := List.getElem?_eq_getElem (by omega)
      have ha2 : l.toArray[k]! = l[k] := by simp [show k < l.length by omega]
      obtain ⟨e1, e2⟩ := take_two ha hb
      rw [show k + 1 + 1 = k + 2 from rfl, e1, e2, compactB_snoc, hb2]
      by_cases h : l[k] = l[k + 1]
      · rw [if_pos h, Lib.keeps_neg (by omega) (by rw [hb2, show k + 1 - 1 = k from rfl, ha2]; exact h.symm)]
        simp
      · rw [if_neg h, Lib.keeps_pos (by rw [hb2, show k + 1 - 1 = k from rfl, ha2]; exact fun e => h e.symm)]
        simp
theorem compact_eq (l : List Bytes) : Lib.compact l = compactB l := by
  show Lib.compactUpTo l.toArray l.length = _
  rw [compactUpTo_take l _ (Nat.le_refl _), List.take_of_length_le (Nat.le_refl _)]
end Go.Proofs.YtnnbdlmilbcpjaaGreatDoor
