/-
  What reading of a part leaves: plain facts: reading goes on, stays within the text, and the nodes may stand as a part. No condition.
-/
import Derived.Test.YtnnbdlmilbcpjaaGreatDoorSFoldP
namespace Go.Proofs.YtnnbdlmilbcpjaaGreatDoor
set_option linter.unusedVariables false
/-- reading goes on and stays within the text; its nodes may stand as a part -/
def PartOk (l : Bytes) (f : RSt → PartR) : Prop := ∀ st ns st1, st.p ≤ l.length → f st = some (ns, st1) → st.p ≤ st1.p ∧ st1.p ≤ l.length ∧ Good ns
theorem markP_bd (l : Bytes) (c : UInt8) (p : Nat) (hp : p ≤ l.length) : markP l c p ≤ l.length ∧ p ≤ markP l c p := by
  have h := blanksN_le (l.drop p)
  rw [List.length_drop] at h
  unfold markP markB blanksAt
  split
  · rename_i hm
    by_cases hq : p + blanksN (l.drop p) < l.length
    · omega
    · rw [List.getElem?_eq_none (by omega)] at hm; simp at hm
  · omega
theorem markP_lt (l : Bytes) (c : UInt8) (p : Nat) (h : markB l c p = true) : p < markP l c p := by
  unfold markP; rw [if_pos h]; unfold blanksAt; omega
theorem wordAt_bd (l : Bytes) (q : Nat) (h : q ≤ l.length) : q + (wordAt l q).length ≤ l.length := by
  unfold wordAt
  split
  · simpa using h
  · have := partN_le (l.drop q)
    unfold partN at this
    rw [List.length_drop] at this
    split
    · omega
    · simpa using h
theorem atomS_ok {l : Bytes} {E : RSt → PartR} (hE : PartOk l E) : PartOk l (atomS l E) := by
  intro st ns st1 hp h
  have m1 := markP_bd l 33 st.p hp
  have m2 := markP_bd l 40 _ m1.1
  have m3 := markP_bd l 41 _ m2.1
  unfold atomS at h
  split at h
  · injection h with h; injection h with h1 h2; subst h1; subst h2
    exact ⟨m1.2, m1.1, Good.one _ rfl rfl⟩
  · split at h
    · split at h
      · injection h with h; injection h with h1 h2; subst h1; subst h2
        exact ⟨by simp only; omega, m3.1, Good.one _ rfl rfl⟩
      · split at h
        · cases h
        · rename_i ns' st' he
          have hk := hE _ _ _ (by exact m3.1) he
          have m4 := markP_bd l 41 st'.p hk.2.1
          split at h
          · injection h with h; injection h with h1 h2; subst h1; subst h2
            exact ⟨by have := hk.1; simp only at this ⊢; omega, m4.1, hk.2.2⟩
          · cases h
    · split at h
      · cases h
      · injection h with h; injection h with h1 h2; subst h1; subst h2
        have := wordAt_bd l _ m2.1
        exact ⟨by simp only; omega, this, Good.one _ rfl rfl⟩
theorem manyS_ok {l : List SNode} (h : Good l) : ∀ x, some (manyS l) = some x → Ahead x ∧ x ≠ [] := by
  intro x e; injection e with e; subst e; exact ⟨h.many.1, h.many.2.1⟩
theorem fold2_ok {op none_ : Int} {a b : List SNode} (ha : Good a) (hb : Ahead b ∧ b ≠ []) : ∀ x, foldS op none_ [a, b] = some x → Ahead x ∧ x ≠ [] := by
  intro x h
  unfold foldS at h
  rw [if_neg (by simp)] at h
  split at h
  · cases h
  · injection h with h
    have := foldGo_ahead op [a, b] 0 [] Ahead.nil (fun h => absurd rfl h) (fun p hp => by simp at hp; rcases hp with rfl | rfl; exact ⟨ha.ahead, ha.ne⟩; exact hb)
    subst h
    exact ⟨this.1, this.2 (.inl (by simp))⟩
theorem marksS_ok (l : Bytes) : ∀ (f : Nat) (ns : List SNode) (st : RSt), st.p ≤ l.length → Good ns → st.p ≤ (marksS l f ns st).2.p ∧ (marksS l f ns st).2.p ≤ l.length ∧ Good (marksS l f ns st).1 := by
  intro f
  induction f with
  | zero => intro ns st hp hg; exact ⟨Nat.le_refl _, hp, hg⟩
  | succ f ih =>
    intro ns st hp hg
    have m1 := markP_bd l 42 st.p hp
    have m2 := markP_bd l 43 _ m1.1
    have m3 := markP_bd l 63 _ m2.1
    unfold marksS
    split
    · have := ih (keepS st.big (some (manyS ns))).1 { st with p := markP l 42 st.p, big := (keepS st.big (some (manyS ns))).2 } m1.1 (Good.keep (manyS_ok hg))
      exact ⟨by have := this.1; simp only at this; omega, this.2⟩
    · split
      · have := ih (keepS st.big (foldS 3 1 [ns, manyS ns])).1 { st with p := markP l 43 (markP l 42 st.p), big := (keepS st.big (foldS 3 1 [ns, manyS ns])).2 } m2.1 (Good.keep (fold2_ok hg ⟨hg.many.1, hg.many.2.1⟩))
        exact ⟨by have := this.1; simp only at this; omega, this.2⟩
      · split
        · have := ih (keepS st.big (foldS 4 0 [ns, [emptyN]])).1 { st with p := markP l 63 (markP l 43 (markP l 42 st.p)), big := (keepS st.big (foldS 4 0 [ns, [emptyN]])).2 } m3.1 (Good.keep (fold2_ok hg ⟨Ahead.one _ rfl rfl, by simp⟩))
          exact ⟨by have := this.1; simp only at this; omega, this.2⟩
        · exact ⟨by simp only; omega, m3.1, hg⟩
theorem itemS_ok {l : Bytes} {E : RSt → PartR} (hE : PartOk l E) : PartOk l (itemS l E) := by
  intro st ns st1 hp h
  unfold itemS at h
  split at h
  · cases h
  · rename_i ns' st' he
    have h1 := atomS_ok hE _ _ _ hp he
    have h2 := marksS_ok l (l.length + 1) ns' st' h1.2.1 h1.2.2
    injection h with h
    rw [h] at h2
    exact ⟨Nat.le_trans h1.1 h2.1, h2.2⟩
theorem rowS_ok {l : Bytes} {part : RSt → PartR} (c : UInt8) (op none_ : Int) (hp : PartOk l part) : ∀ (f : Nat) (parts : List (List SNode)) (st : RSt) ns st1, (∀ p ∈ parts, Good p) → st.p ≤ l.length → rowS l c op none_ part f parts st = some (ns, st1) → st.p ≤ st1.p ∧ st1.p ≤ l.length ∧ Good ns := by
  intro f
  induction f with
  | zero => intro parts st ns st1 hg hs h; simp [rowS] at h
  | succ f ih =>
    intro parts st ns st1 hg hs h
    unfold rowS at h
    split at h
    · cases h
    · rename_i ns' st' he
      have h1 := hp _ _ _ hs he
      have m := markP_bd l c st'.p h1.2.1
      have hg2 : ∀ p ∈ parts ++ [ns'], Good p := fun p hq => by
        rcases List.mem_append.1 hq with hq | hq
        · exact hg p hq
        · simp at hq; subst hq; exact h1.2.2
      split at h
      · have := ih _ _ _ _ hg2 (by exact m.1) h
        exact ⟨by have := this.1; simp only at this; omega, this.2⟩
      · split at h
        · injection h with h; injection h with e1 e2; subst e1; subst e2
          exact ⟨by simp only; omega, m.1, h1.2.2⟩
        · injection h with h; injection h with e1 e2; subst e1; subst e2
          exact ⟨by simp only; omega, m.1, Good.keep (fun x hx => by have := Good.fold hg2 hx; exact ⟨this.ahead, this.ne⟩)⟩
theorem seqS_ok {l : Bytes} {E : RSt → PartR} (hE : PartOk l E) : PartOk l (seqS l E) := by
  intro st ns st1 hp h
  exact rowS_ok 44 3 1 (itemS_ok hE) _ _ _ _ _ (fun p hp => by simp at hp) hp h
theorem exprS_ok (l : Bytes) : ∀ n, PartOk l (exprS l n) := by
  intro n
  induction n with
  | zero => intro st ns st1 _ h; simp [exprS] at h
  | succ n ih =>
    intro st ns st1 hp h
    exact rowS_ok 124 4 0 (seqS_ok ih) _ _ _ _ _ (fun p hp => by simp at hp) hp h
end Go.Proofs.YtnnbdlmilbcpjaaGreatDoor
