/-
  An own row of words reads as a row of words: plain. No condition.
-/
import Derived.Test.YtnnbdlmilbcpjaaGreatDoorSPlaces2
namespace Go.Proofs.YtnnbdlmilbcpjaaGreatDoor
open Go.RowKit
set_option linter.unusedVariables false
theorem wordsIn_of_own {w : World} {B : Nat} {o : Option Addr} {n c : Nat} {ss : List Bytes} (h : WordsOwn w B (.slice o n c) ss) : n = ss.length ∧ WordsIn w o c ss := by
  by_cases hn : Value.slice o n c = .slice none 0 0
  · injection hn with h1 h2 h3
    subst h1; subst h2; subst h3
    have hl : ss.length = 0 := by
      rcases h.2 with ⟨_, hz⟩ | ⟨g, cap, cur, hv, _⟩
      · exact hz
      · cases hv
    obtain rfl := List.eq_nil_of_length_eq_zero hl
    exact ⟨rfl, rfl, Nat.le_refl _, Nat.zero_le _, fun h0 => absurd h0 (by simp)⟩
  · obtain ⟨g, cap, e, hbg, hgl, hnc, hcm, hlen, hH⟩ := Lib.holds_of_ownsRow h hn
    injection e with e1 e2 e3
    subst e1; subst e3
    refine ⟨e2, by simp, hnc, hcm, fun _ => ⟨g, 0, rfl, hgl, fun j u hj => ?_⟩⟩
    rw [List.getElem?_map] at hj
    cases hx : ss[j]? with
    | none => rw [hx] at hj; cases hj
    | some b =>
      rw [hx] at hj
      injection hj with hj
      subst hj
      have hk := (List.getElem?_eq_some_iff.1 hx).1
      have := (hH j (by simpa using hk)).1
      rw [this]
      congr 2
      simp [hk, (List.getElem?_eq_some_iff.1 hx).2]
end Go.Proofs.YtnnbdlmilbcpjaaGreatDoor
