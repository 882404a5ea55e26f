/-
  The statements' own small functions on tokens: their walks, where both tokens are one.
-/
import Derived.Test.YtkehbepopegboaaGreatDoorAll
namespace Go.Proofs.YtkehbepopegboaaGreatDoor
open Go.RowKit
set_option linter.unusedVariables false
set_option maxHeartbeats 4000000 in
set_option maxRecDepth 100000 in
theorem plain_any (t : Tok) (o : Option Addr) (n c : Nat) (w : World) :
    Calls Tryz.prog 10 #[tokV t (.slice o n c)] w fun e w' => e = .returned (tokV t (.slice o n c)) ∧ Below w.heap.size w w' := by
  unfold tokV
  go_enter Tryz.func10, Tryz.ntmps10
  go_wp2_with fail
  refine bodyPost_ret (v := .agg #[.int .i64 t.kind, .string ⟨t.name.toArray⟩, .string ⟨t.text.toArray⟩, .slice o n c, .bool t.empty]) (by simp [results, Tryz.results10, go_sem]) rfl ⟨rfl, ((Below.refl _ w).alloc (Nat.le_refl _) _).alloc (by simp) _⟩
theorem attrCells_at {l : List (Bytes × Bytes)} {k : Nat} {x : Bytes × Bytes} (h : l[k]? = some x) : (attrCells l)[k * 2]? = some (.string ⟨x.1.toArray⟩) ∧ (attrCells l)[k * 2 + 1]? = some (.string ⟨x.2.toArray⟩) := by
  induction l generalizing k with
  | nil => simp at h
  | cons y r ih =>
    have hc : attrCells (y :: r) = .string ⟨y.1.toArray⟩ :: .string ⟨y.2.toArray⟩ :: attrCells r := rfl
    rw [hc]
    cases k with
    | zero => simp at h; subst h; simp
    | succ k =>
      simp only [List.getElem?_cons_succ] at h
      have := ih h
      rw [show (k + 1) * 2 = k * 2 + 1 + 1 from by omega, show k * 2 + 1 + 1 + 1 = (k * 2 + 1) + 1 + 1 from by omega]
      simpa using this
theorem ownsRow_len {w : World} {base size n : Nat} {e : TypeId} {v : Value} {xs : List Value} (h : w.ownsRow base e size v n xs) : n ≤ maxLen := by
  rcases h.2 with ⟨_, hn⟩ | ⟨g, cap, cur, _, _, _, h1, h2, _⟩
  · omega
  · omega
theorem AttrsAt.below {w w' : World} {B : Nat} {v : Value} {l : List (Bytes × Bytes)} (h : AttrsAt w B v l) (hb : Below w.heap.size w w') : AttrsAt w' B v l :=
  h.kept (row := .none) ⟨hb.os, hb.tape, hb.output, hb.size, fun k hk _ => hb.block k hk⟩ (by cases v.ownBlock <;> simp)
theorem AttrsAt.at {w : World} {B : Nat} {o : Option Addr} {c : Nat} {l : List (Bytes × Bytes)} (h : AttrsAt w B (.slice o l.length c) l) {k : Nat} {x : Bytes × Bytes} (hx : l[k]? = some x) :
    ∃ g, o = some ⟨g, 0, .none⟩ ∧ w.cell? ⟨g, k * 2, .none⟩ = some (.string ⟨x.1.toArray⟩) ∧ w.cell? ⟨g, k * 2 + 1, .none⟩ = some (.string ⟨x.2.toArray⟩) := by
  have hk : k < l.length := (List.getElem?_eq_some_iff.1 hx).1
  rcases h.2 with ⟨e, hn⟩ | ⟨g, cap, cur, hv, _⟩
  · omega
  · injection hv with e1 e2 e3
    subst e1 e3
    have h1 := attrCells_at hx
    exact ⟨g, rfl, (h.cellAt _ (by omega)).trans h1.1, (h.cellAt _ (by omega)).trans h1.2⟩
set_option maxHeartbeats 4000000 in
set_option maxRecDepth 100000 in
theorem attrs_eq (l : List (Bytes × Bytes)) (o1 o2 : Option Addr) (c1 c2 B1 B2 : Nat) (w : World) (h1 : AttrsAt w B1 (.slice o1 l.length c1) l) (h2 : AttrsAt w B2 (.slice o2 l.length c2) l) :
    Calls Tryz.prog 17 #[.slice o1 l.length c1, .slice o2 l.length c2] w fun e w' => e = .returned (.bool true) ∧ Below w.heap.size w w' := by
  have hnn : ((l.length : Int) != (l.length : Int)) = false := by simp
  have hl : l.length ≤ 9223372036854775807 := ownsRow_len h1
  go_enter Tryz.func17, Tryz.ntmps17
  go_wp2_with fail
  go_loopw [5] (fun i wr => ∃ k : Nat, i = .int .i64 k ∧ k ≤ l.length ∧ ∃ n, wr = w.drewN n) (fun i _ => l.length - (intOf i).toNat)
  case atStart => exact ⟨0, rfl, Nat.zero_le _, 0, rfl⟩
  case round =>
    obtain ⟨k, rfl, hk, n, rfl⟩ := hrel
    by_cases hlt : k < l.length
    · obtain ⟨x, hx⟩ : ∃ x, l[k]? = some x := ⟨_, List.getElem?_eq_getElem hlt⟩
      obtain ⟨g1, rfl, a0, a1⟩ := h1.at hx
      obtain ⟨g2, rfl, b0, b1⟩ := h2.at hx
      have hd : decide ((k : Int) < (l.length : Int)) = true := by rw [decide_eq_true_eq]; omega
      go_wp2_with fail
      go_quiet (fail)
      go_wp2_with fail
      go_roundw
      case rel => exact ⟨k + 1, by go_num, by omega, _, rfl⟩
      case measure => simp [intOf]; omega
    · have hd : decide ((k : Int) < (l.length : Int)) = false := by rw [decide_eq_false_iff_not]; omega
      go_wp2_with fail
      go_ret
      exact ⟨rfl, ⟨rfl, rfl, rfl, Nat.le_refl _, fun _ _ => rfl⟩⟩
set_option maxHeartbeats 4000000 in
set_option maxRecDepth 100000 in
theorem same_eq (t : Tok) (o1 o2 : Option Addr) (c1 c2 B1 B2 : Nat) (w : World) (h1 : AttrsAt w B1 (.slice o1 t.attrs.length c1) t.attrs) (h2 : AttrsAt w B2 (.slice o2 t.attrs.length c2) t.attrs) :
    Calls Tryz.prog 9 #[tokV t (.slice o1 t.attrs.length c1), tokV t (.slice o2 t.attrs.length c2)] w fun e w' => e = .returned (.bool true) ∧ Below w.heap.size w w' := by
  unfold tokV
  have hat := fun w' (hb : Below w.heap.size w w') => attrs_eq t.attrs o1 o2 c1 c2 B1 B2 w' (h1.below hb) (h2.below hb)
  have Hat := Lib.hid hat
  clear hat
  go_enter Tryz.func9, Tryz.ntmps9
  go_wp2_with fail
  refine (Hat.out _ (((Below.refl _ w).alloc (Nat.le_refl _) _).alloc (by simp) _)).mono ?_
  rintro e w' ⟨rfl, hb⟩
  clear Hat
  go_wp2_with fail
  go_ret
  exact ⟨rfl, (((Below.refl _ w).alloc (Nat.le_refl _) _).alloc (by simp) _).trans (hb.mono (by simp; omega))⟩
end Go.Proofs.YtkehbepopegboaaGreatDoor
