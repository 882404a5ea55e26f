/-
  The words that stand in a content are its nodes' words: plain. No condition.
-/
import Derived.Test.YtnnbdlmilbcpjaaGreatDoorSIn
namespace Go.Proofs.YtnnbdlmilbcpjaaGreatDoor
open Go.RowKit
theorem compactB_mem {b : Bytes} : ∀ {l : List Bytes}, b ∈ compactB l → b ∈ l
  | [], h => h
  | [a], h => h
  | a :: c :: t, h => by
    simp only [compactB] at h
    by_cases e : a = c
    · rw [if_pos e] at h; exact List.mem_cons_of_mem _ (compactB_mem h)
    · rw [if_neg e] at h
      rcases List.mem_cons.1 h with h | h
      · exact List.mem_cons.2 (.inl h)
      · exact List.mem_cons_of_mem _ (compactB_mem h)
theorem symsS_mem {l : List SNode} {b : Bytes} (h : b ∈ symsS l) : ∃ n ∈ l, n.sym = b := by
  unfold symsS at h
  split at h
  · have h2 := List.mem_mergeSort.1 (compactB_mem h)
    unfold symsOf at h2
    obtain ⟨n, hn, e⟩ := List.mem_filterMap.1 h2
    refine ⟨n, hn, ?_⟩
    split at e
    · injection e
    · cases e
  · cases h
end Go.Proofs.YtnnbdlmilbcpjaaGreatDoor
