/-
  The plain law of layer 3: a piece is not longer than what is there, and is not nothing.
-/
import Derived.Test.YtkehbepopegboaaGreatDoorTokPlain
namespace Go.Proofs.YtkehbepopegboaaGreatDoor
set_option linter.unusedVariables false
theorem hasPrefix_room {l m : Bytes} (h : Lib.hasPrefix l m = true) : m.length ≤ l.length := by
  unfold Lib.hasPrefix at h
  exact (List.isPrefixOf_iff_prefix.1 h).length_le
theorem hasPrefix_drop_room {l m : Bytes} {a : Nat} (h : Lib.hasPrefix (l.drop a) m = true) (hm : 1 ≤ m.length) : a + m.length ≤ l.length := by
  have := hasPrefix_room h
  rw [List.length_drop] at this
  omega
theorem attrP_room {l n v : Bytes} {k : Nat} (h : attrP l = some ((n, v), k)) : 1 ≤ k ∧ k ≤ l.length ∧ n.length ≤ l.length := by
  unfold attrP at h
  simp only at h
  split at h
  · cases h
  split at h
  · cases h
  generalize hb : partN l + blanksN (l.drop (partN l)) + 1 + blanksN (l.drop (partN l + blanksN (l.drop (partN l)) + 1)) = b at h
  split at h
  · cases h
  rename_i m hm
  split at h
  · cases h
  rename_i hi
  split at h
  · cases h
  split at h
  · injection h with h
    injection h with h1 h2
    injection h1 with h1 h3
    subst h1
    have hmk : ∃ c : UInt8, Lib.hasPrefix (l.drop b) [c] = true := by
      split at hm
      · exact ⟨_, by assumption⟩
      · split at hm
        · exact ⟨_, by assumption⟩
        · cases hm
    obtain ⟨c, hc⟩ := hmk
    have r1 := hasPrefix_drop_room hc (by simp)
    have r2 := Lib.index_room (l.drop (b + 1)) [m] (by omega)
    rw [List.length_drop] at r2
    simp only [List.length_cons, List.length_nil] at r1 r2
    have := List.length_take_le (partN l) l
    have h3 : (List.take (partN l) l).length ≤ l.length := by rw [List.length_take]; omega
    exact ⟨by omega, by omega, h3⟩
  · cases h
theorem attrsF_room (f : Nat) : ∀ {acc : List (Bytes × Bytes)} {l : Bytes} {r : List (Bytes × Bytes)} {e : Bool} {k : Nat}, attrsF f acc l = some (r, e, k) → k ≤ l.length := by
  induction f with
  | zero => intro acc l r e k h; simp [attrsF] at h
  | succ f ih =>
    intro acc l r e k h
    unfold attrsF at h
    simp only at h
    split at h
    · rename_i h1
      have := hasPrefix_drop_room h1 (by simp)
      simp at h this
      omega
    split at h
    · rename_i h1
      have := hasPrefix_drop_room h1 (by simp)
      simp at h this
      omega
    split at h
    · cases h
    split at h
    · cases h
    rename_i x j hx
    obtain ⟨n, v⟩ := x
    have hr := attrP_room hx
    rw [List.length_drop] at hr
    split at h
    · cases h
    split at h
    · cases h
    rename_i r' e' q hq
    have h2 := ih hq
    rw [List.length_drop] at h2
    simp at h
    omega
theorem pieceP_room {first : Bool} {l : Bytes} {t : Tok} {k : Nat} (hl : l ≠ []) (h : pieceP first l = some (t, k)) : 1 ≤ k ∧ k ≤ l.length := by
  unfold pieceP at h
  split at h
  · unfold declP at h
    split at h
    · cases h
    split at h
    · rename_i h1; have := hasPrefix_room h1; simp [plainD] at this; simp at h; omega
    split at h
    · rename_i h1; have := hasPrefix_room h1; simp [encodedD] at this; simp at h; omega
    · cases h
  split at h
  · unfold commentP at h
    simp only at h
    split at h
    · cases h
    split at h
    · cases h
    · rename_i h1
      have := hasPrefix_drop_room (l := l) (m := [62]) (by simpa using h1) (by simp)
      simp at this h
      omega
  split at h
  · rename_i h1
    unfold dataP at h
    simp only at h
    split at h
    · cases h
    · rename_i hi
      have r2 := Lib.index_room (l.drop 9) [93, 93, 62] (by omega)
      rw [List.length_drop] at r2
      have := hasPrefix_room h1
      simp at this h r2
      omega
  split at h
  · unfold endP at h
    simp only at h
    split at h
    · cases h
    split at h
    · cases h
    · rename_i h1
      have := hasPrefix_drop_room (l := l) (m := [62]) (by simpa using h1) (by simp)
      simp at this h
      omega
  split at h
  · rename_i h1
    unfold beginP at h
    simp only at h
    split at h
    · cases h
    split at h
    · cases h
    · rename_i r e q hq
      have h2 := attrsF_room _ hq
      have := hasPrefix_room h1
      have hp := partN_le (l.drop 1)
      rw [List.length_drop] at h2 hp
      simp only [Option.some.injEq, Prod.mk.injEq] at h
      simp at this
      omega
  · rename_i h5
    have hl0 : 0 < l.length := List.length_pos_iff.2 hl
    have hne : Lib.indexByte l 60 ≠ 0 := by
      intro h0
      cases l with
      | nil => exact hl rfl
      | cons c r =>
        by_cases hc : c = 60
        · subst hc; exact h5 (by simp [Lib.hasPrefix])
        · unfold Lib.indexByte at h0
          rw [if_neg (by simpa using hc)] at h0
          split at h0
          · omega
          · rename_i h6
            have := Lib.indexByte_ge r 60
            simp at h6
            omega
    have hw : k = (if Lib.indexByte l 60 < 0 then l else l.take (Lib.indexByte l 60).toNat).length := by
      unfold wordsP at h
      simp only at h
      generalize (if Lib.indexByte l 60 < 0 then l else l.take (Lib.indexByte l 60).toNat) = raw at h ⊢
      split at h
      · cases h
      split at h
      · simp at h; exact h.2.symm
      · cases h
    rw [hw]
    split
    · omega
    · rw [List.length_take]; omega
end Go.Proofs.YtkehbepopegboaaGreatDoor
