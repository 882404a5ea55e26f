/-
  Parts made one by nodes of an op: plain facts: step by step, how many nodes, whose parts stand ahead. No condition.
-/
import Derived.Test.YtnnbdlmilbcpjaaGreatDoorSPPlain
namespace Go.Proofs.YtnnbdlmilbcpjaaGreatDoor
set_option linter.unusedVariables false
/-- one part more -/
def stepF (op : Int) (i : Nat) (out p : List SNode) : List SNode := if i = 0 then out ++ p.map (movedS out.length) else out ++ p.map (movedS out.length) ++ [⟨op, [], (out.length : Int) - 1, ((out ++ p.map (movedS out.length)).length : Int) - 1⟩]
theorem foldGo_snoc (op : Int) (p : List SNode) : ∀ (ps : List (List SNode)) (i : Nat) (out : List SNode), foldGo op i out (ps ++ [p]) = stepF op (i + ps.length) (foldGo op i out ps) p := by
  intro ps
  induction ps with
  | nil => intro i out; rfl
  | cons q t ih =>
    intro i out
    simp only [List.cons_append, foldGo, ih, List.length_cons]
    congr 1
    omega
theorem foldGo_take (op : Int) (ps : List (List SNode)) (k : Nat) (p : List SNode) (h : ps[k]? = some p) : foldGo op 0 [] (ps.take (k + 1)) = stepF op k (foldGo op 0 [] (ps.take k)) p := by
  have hk := (List.getElem?_eq_some_iff.1 h).1
  rw [List.take_add_one, h, Option.toList_some, foldGo_snoc, List.length_take, Nat.min_eq_left (by omega), Nat.zero_add]
theorem stepF_len (op : Int) (i : Nat) (out p : List SNode) : (stepF op i out p).length = out.length + p.length + (if i = 0 then 0 else 1) := by
  unfold stepF; split <;> simp <;> omega
theorem foldGo_len (op : Int) : ∀ (ps : List (List SNode)) (i : Nat) (out : List SNode), (foldGo op i out ps).length + (if i = 0 ∧ ps ≠ [] then 1 else 0) = out.length + sumS ps + ps.length := by
  intro ps
  induction ps with
  | nil => intro i out; simp [foldGo, sumS]
  | cons q t ih =>
    intro i out
    have := ih (i + 1) (stepF op i out q)
    rw [stepF_len] at this
    show (foldGo op (i + 1) (stepF op i out q) t).length + _ = _
    simp only [sumS, List.map_cons, List.sum_cons, List.length_cons] at this ⊢
    by_cases hi : i = 0
    · subst hi; simp at this ⊢; omega
    · simp [hi] at this ⊢; omega
theorem sumS_take_le (ps : List (List SNode)) (k : Nat) : sumS (ps.take k) ≤ sumS ps := by
  have h : sumS ps = sumS (ps.take k) + sumS (ps.drop k) := by
    conv => lhs; rw [← List.take_append_drop k ps]
    unfold sumS; rw [List.map_append, List.sum_append]
  omega
theorem sumS_take (ps : List (List SNode)) (k : Nat) (p : List SNode) (h : ps[k]? = some p) : sumS (ps.take (k + 1)) = sumS (ps.take k) + p.length := by
  rw [List.take_add_one, h]; simp [sumS]
theorem len_le_sumS {ps : List (List SNode)} {p : List SNode} (h : p ∈ ps) : p.length ≤ sumS ps := by
  induction ps with
  | nil => simp at h
  | cons q t ih =>
    simp only [sumS, List.map_cons, List.sum_cons]
    rcases List.mem_cons.1 h with rfl | h
    · omega
    · have := ih h; simp only [sumS] at this; omega
/-- the parts of a node stand ahead of it -/
def Ahead (l : List SNode) : Prop := ∀ (i : Nat) (n : SNode), l[i]? = some n → 0 ≤ n.a ∧ n.a ≤ (i : Int) ∧ 0 ≤ n.b ∧ n.b ≤ (i : Int)
theorem Ahead.nil : Ahead [] := fun i n h => by simp at h
theorem Ahead.one (n : SNode) (ha : n.a = 0) (hb : n.b = 0) : Ahead [n] := by
  intro i m h
  cases i with
  | zero => simp at h; subst h; simp [ha, hb]
  | succ i => simp at h
theorem Ahead.append {a b : List SNode} (ha : Ahead a) (hb : ∀ i n, b[i]? = some n → 0 ≤ n.a ∧ n.a ≤ ((a.length + i : Nat) : Int) ∧ 0 ≤ n.b ∧ n.b ≤ ((a.length + i : Nat) : Int)) : Ahead (a ++ b) := by
  intro i n h
  by_cases hi : i < a.length
  · rw [List.getElem?_append_left hi] at h; exact ha i n h
  · rw [List.getElem?_append_right (by omega)] at h
    have := hb _ n h
    rwa [show a.length + (i - a.length) = i from by omega] at this
theorem Ahead.moved {a p : List SNode} (ha : Ahead a) (hp : Ahead p) : Ahead (a ++ p.map (movedS a.length)) := by
  refine ha.append fun i n h => ?_
  rw [List.getElem?_map] at h
  cases hx : p[i]? with
  | none => rw [hx] at h; cases h
  | some m =>
    rw [hx] at h
    injection h with h
    have := hp i m hx
    subst h
    unfold movedS
    split
    · simp only; omega
    · split
      · simp only; omega
      · omega
theorem Ahead.snoc {a : List SNode} (ha : Ahead a) (n : SNode) (h1 : 0 ≤ n.a ∧ n.a ≤ (a.length : Int)) (h2 : 0 ≤ n.b ∧ n.b ≤ (a.length : Int)) : Ahead (a ++ [n]) := by
  refine ha.append fun i m h => ?_
  cases i with
  | zero => simp at h; subst h; simp; omega
  | succ i => simp at h
theorem stepF_ahead {op : Int} {i : Nat} {out p : List SNode} (ho : Ahead out) (hp : Ahead p) (hn : i ≠ 0 → out ≠ []) : Ahead (stepF op i out p) := by
  unfold stepF
  split
  · exact ho.moved hp
  · rename_i hi
    have := hn hi
    have hl : 1 ≤ out.length := by cases out with | nil => exact absurd rfl this | cons a t => simp
    refine (ho.moved hp).snoc _ ?_ ?_
    · simp; omega
    · simp; omega
theorem foldGo_ahead (op : Int) : ∀ (ps : List (List SNode)) (i : Nat) (out : List SNode), Ahead out → (i ≠ 0 → out ≠ []) → (∀ p ∈ ps, Ahead p ∧ p ≠ []) → Ahead (foldGo op i out ps) ∧ ((ps ≠ [] ∨ out ≠ []) → foldGo op i out ps ≠ []) := by
  intro ps
  induction ps with
  | nil => intro i out ho hn hp; exact ⟨ho, fun h => by rcases h with h | h; exact absurd rfl h; exact h⟩
  | cons q t ih =>
    intro i out ho hn hp
    have hq := hp q (List.mem_cons_self ..)
    have hne : stepF op i out q ≠ [] := by
      intro e
      have := stepF_len op i out q
      rw [e] at this
      have : q.length = 0 := by simp at this; omega
      exact hq.2 (List.eq_nil_of_length_eq_zero this)
    have := ih (i + 1) (stepF op i out q) (stepF_ahead ho hq.1 hn) (fun _ => hne) (fun p h => hp p (List.mem_cons_of_mem _ h))
    exact ⟨this.1, fun _ => this.2 (.inr hne)⟩
/-- nodes that may stand as a part -/
structure Good (l : List SNode) : Prop where
  ahead : Ahead l
  ne : l ≠ []
  len : l.length ≤ 1024
theorem Good.one (n : SNode) (ha : n.a = 0) (hb : n.b = 0) : Good [n] := ⟨Ahead.one n ha hb, by simp, by simp⟩
theorem Good.fold {op none_ : Int} {ps : List (List SNode)} {l : List SNode} (hp : ∀ p ∈ ps, Good p) (h : foldS op none_ ps = some l) : Good l := by
  unfold foldS at h
  split at h
  · injection h with h; subst h; exact Good.one _ rfl rfl
  · rename_i hne
    split at h
    · cases h
    · rename_i hle
      injection h with h
      have hA := foldGo_ahead op ps 0 [] Ahead.nil (fun h => absurd rfl h) (fun p h => ⟨(hp p h).ahead, (hp p h).ne⟩)
      have hl := foldGo_len op ps 0 []
      subst h
      have : 1 ≤ ps.length := by cases ps with | nil => exact absurd rfl hne | cons a t => simp
      refine ⟨hA.1, hA.2 (.inl hne), ?_⟩
      · simp [hne] at hl; omega
theorem Good.keep {big : Bool} {r : Option (List SNode)} (h : ∀ l, r = some l → Ahead l ∧ l ≠ []) : Good (keepS big r).1 := by
  unfold keepS
  split
  · exact Good.one _ rfl rfl
  · split
    · exact Good.one _ rfl rfl
    · rename_i l hc
      have := h l rfl
      exact ⟨this.1, this.2, by simp at hc; show l.length ≤ _; omega⟩
theorem Good.many {l : List SNode} (h : Good l) : Ahead (manyS l) ∧ manyS l ≠ [] ∧ (manyS l).length ≤ 1025 := by
  have hl : 1 ≤ l.length := by have := h.ne; cases l with | nil => exact absurd rfl this | cons a t => simp
  refine ⟨h.ahead.snoc _ ?_ ?_, by simp [manyS], by have := h.len; simp [manyS]; omega⟩
  · simp; omega
  · simp
end Go.Proofs.YtnnbdlmilbcpjaaGreatDoor
