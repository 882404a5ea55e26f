/-
  Layer 7 (regex): the reader's method keep. Conditions as before.
-/
import Derived.Test.YtnnbdlmilbcpjaaGreatDoorSFold
namespace Go.Proofs.YtnnbdlmilbcpjaaGreatDoor
open Go.RowKit
set_option linter.unusedVariables false
/-- a slice that holds what fold or many made, and whether it is there -/
def MadeIs (w : World) (B : Nat) (v : Value) (ok : Bool) (r : Option (List SNode)) : Prop :=
  match r with
  | none => v = .slice none 0 0 ∧ ok = false
  | some l => NodesOwn w B v l ∧ ok = true
theorem noneN_row : (nodeRow noneN).toArray = #[.int .i64 0, .string ⟨#[]⟩, .int .i64 0, .int .i64 0] := rfl
theorem emptyN_row : (nodeRow emptyN).toArray = #[.int .i64 1, .string ⟨#[]⟩, .int .i64 0, .int .i64 0] := rfl
/-- what keep owes -/
def KeepPost (r : List SNode × Bool) (b p B : Nat) (doc : ByteArray) (lo : Bool) (w : World) (e : Ending) (w' : World) : Prop :=
  ∃ v, e = .returned v ∧ NodesOwn w' B v r.1 ∧ RdAt w' b doc p lo r.2 ∧ Sole b w w'
theorem keep_new {b p B : Nat} {doc : ByteArray} {lo : Bool} {w w1 : World} (hP : RdAt w1 b doc p lo true) (hS : Sole b w w1) (H : Nat) (hH : w1.heap.size = H) (hB : B ≤ H) :
    KeepPost ([noneN], true) b p B doc lo w (.returned (.slice (some ⟨H, 0, none⟩) 1 1)) (w1.alloc (.cells #[.int .i64 0, .string ⟨#[]⟩, .int .i64 0, .int .i64 0] 70)) := by
  subst hH
  refine ⟨_, rfl, ?_, hP.below ((Below.refl _ w1).alloc (Nat.le_refl _) _), hS.alloc _⟩
  have := nodesOwn_new w1 noneN B hB
  rw [noneN_row] at this
  exact this
theorem keepS_over {big : Bool} {r : Option (List SNode)} (h : ∀ l, r = some l → 1024 < l.length) : keepS big r = ([noneN], true) := by
  unfold keepS
  split
  · rfl
  · rename_i l; rw [if_pos (.inr (h l rfl))]
theorem keepS_big {r : Option (List SNode)} : keepS true r = ([noneN], true) := by
  unfold keepS
  split
  · rfl
  · rw [if_pos (.inl rfl)]
theorem keepS_ok {l : List SNode} (h : l.length ≤ 1024) : keepS false (some l) = (l, false) := by
  show (if false = true ∨ 1024 < l.length then ([noneN], true) else (l, false)) = _
  rw [if_neg (by simp; omega)]
set_option maxHeartbeats 1000000 in
set_option maxRecDepth 100000 in
theorem rkeep_any (b p B : Nat) (doc : ByteArray) (lo bi : Bool) (r : Option (List SNode)) (v : Value) (ok : Bool) (w : World) (hP : RdAt w b doc p lo bi) (hM : MadeIs w B v ok r) (hB : B ≤ w.heap.size) (hb : b < B) (hl : ∀ l, r = some l → l.length ≤ 1048576) :
    Calls Tryz.prog 156 #[.pointer (some ⟨b, 0, none⟩), v, .bool ok] w (KeepPost (keepS bi r) b p B doc lo w) := by
  have hf := hP.free 3
  cases r with
  | none =>
    obtain ⟨rfl, rfl⟩ := hM
    rw [keepS_over (by intro l h; cases h)]
    have c3 := hP.cBi
    go_enter Tryz.func156, Tryz.ntmps156
    go_wp2_with fail
    go_ret
    exact keep_new (hP.setBi true) ((Sole.refl b w).setCell 3 _) _ (by simp [World.setCell]) hB
  | some l =>
    obtain ⟨hown, rfl⟩ := hM
    have hll := hl l rfl
    obtain ⟨vo, vc, rfl⟩ := ownRow_shape hown
    by_cases hbig : 1024 < l.length
    · rw [keepS_over (by intro l' h; injection h with h; subst h; exact hbig)]
      have hd : decide ((l.length : Int) > 1024) = true := by rw [decide_eq_true_eq]; omega
      have c3 := hP.cBi
      go_enter Tryz.func156, Tryz.ntmps156
      go_wp2_with fail
      go_ret
      exact keep_new (hP.setBi true) ((Sole.refl b w).setCell 3 _) _ (by simp [World.setCell]) hB
    · have hd : decide ((l.length : Int) > 1024) = false := by rw [decide_eq_false_iff_not]; omega
      have c3 := hP.cBi
      cases bi with
      | true =>
        rw [keepS_big]
        go_enter Tryz.func156, Tryz.ntmps156
        go_wp2_with fail
        go_ret
        exact keep_new hP (Sole.refl b w) _ rfl hB
      | false =>
        rw [keepS_ok (by omega)]
        go_enter Tryz.func156, Tryz.ntmps156
        go_wp2_with fail
        go_ret
        exact ⟨_, rfl, hown, hP, Sole.refl b w⟩
end Go.Proofs.YtnnbdlmilbcpjaaGreatDoor
