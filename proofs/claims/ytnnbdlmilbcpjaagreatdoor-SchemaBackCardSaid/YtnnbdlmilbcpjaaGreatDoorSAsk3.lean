/-
  Layer 9 (schema): rows of attributes that do not rise: the walk. Conditions: what comes in is bounded.
-/
import Derived.Test.YtnnbdlmilbcpjaaGreatDoorSAsk2
import Derived.Sort.Walk0
namespace Go.Proofs.YtnnbdlmilbcpjaaGreatDoor
open Go.RowKit
set_option linter.unusedVariables false
theorem below_drewN {B : Nat} {w w' : World} (h : Below B w w') (n : Nat) : Below B w (w'.drewN n) := ⟨h.os, h.tape, h.output, h.size, h.block⟩
theorem fallsS_two (x y : Bytes) : ∀ a : List Bytes, fallsS (a ++ [x, y]) = (fallsS (a ++ [x]) || leS y x)
  | [] => by simp [fallsS]
  | [c] => by simp [fallsS]
  | c :: d :: t => by
    have := fallsS_two x y (d :: t)
    simp only [List.cons_append, fallsS] at this ⊢
    rw [this, Bool.or_assoc]
theorem fallsS_left (b : List Bytes) : ∀ a : List Bytes, fallsS a = true → fallsS (a ++ b) = true
  | [], h => by simp [fallsS] at h
  | [c], h => by simp [fallsS] at h
  | c :: d :: t, h => by
    have := fallsS_left b (d :: t)
    simp only [List.cons_append, fallsS, Bool.or_eq_true] at this h ⊢
    rcases h with h | h
    · exact .inl h
    · exact .inr (this h)
theorem fallsS_take {l : List Bytes} {k : Nat} {x y : Bytes} (hx : l[k]? = some x) (hy : l[k + 1]? = some y) : fallsS (l.take (k + 2)) = (fallsS (l.take (k + 1)) || leS y x) := by
  have e1 : l.take (k + 1) = l.take k ++ [x] := by rw [List.take_add_one, hx]; rfl
  have e2 : l.take (k + 2) = l.take k ++ [x, y] := by
    rw [show k + 2 = (k + 1) + 1 from rfl, List.take_add_one, hy, e1]; simp
  rw [e1, e2, fallsS_two]
theorem less_leS (x y : Bytes) : Op.bytesLess x y = !leS y x := by
  rw [Go.Proofs.bytesLess_eq]
  unfold leS
  rw [Bool.eq_iff_iff]
  simp
set_option maxHeartbeats 2000000 in
set_option maxRecDepth 100000 in
theorem ask6_any (x : TyV) (w : World) (hW : WordsIn w x.ao x.ac x.t.attrs) (h4 : x.t.attrs.length ≤ 1048576) :
    Calls Tryz.prog 51 #[typeVal x] w fun e w' => e = .returned (.bool (fallsS x.t.attrs)) ∧ Below w.heap.size w w' := by
  obtain ⟨r, hr⟩ : ∃ r, r = fallsS x.t.attrs := ⟨_, rfl⟩
  rw [← hr]
  have hlm := hW.2.1
  have hcm := hW.2.2.1
  unfold maxLen at hcm
  obtain ⟨⟨name, label, attrs, key, text, nodes⟩, ao, ac, no, nc⟩ := x
  unfold typeVal typeRow
  simp only at hr hW h4 hlm hcm ⊢
  have hb0 : Below w.heap.size w (w.alloc (.cells #[.string ⟨name.toArray⟩, .string ⟨label.toArray⟩, .slice ao attrs.length ac, .string ⟨key.toArray⟩, .bool text, .slice no nodes.length nc] 47)) := (Below.refl _ w).alloc (Nat.le_refl _) _
  have hbx := heap_alloc_new w (.cells #[.string ⟨name.toArray⟩, .string ⟨label.toArray⟩, .slice ao attrs.length ac, .string ⟨key.toArray⟩, .bool text, .slice no nodes.length nc] 47)
  have X := Lib.hid (And.intro hb0 hbx)
  have Hr := Lib.hid hr
  clear hb0 hbx hr
  go_enter Tryz.func51, Tryz.ntmps51
  go_wp2_with fail
  go_loopw [3] (fun i wr => ∃ k : Nat, i = .int .i64 ((k : Int) + 1) ∧ (k + 1 ≤ attrs.length ∨ k = 0) ∧ wr.heap[w.heap.size]? = some (.cells #[.string ⟨name.toArray⟩, .string ⟨label.toArray⟩, .slice ao attrs.length ac, .string ⟨key.toArray⟩, .bool text, .slice no nodes.length nc] 47 (0, 0)) ∧ Below w.heap.size w wr ∧ Hid (fallsS (attrs.take (k + 1)) = false)) (fun i _ => attrs.length - (intOf i).toNat)
  case atStart =>
    refine ⟨0, rfl, .inr rfl, X.out.2, X.out.1, ?_⟩
    show _ = _
    cases attrs with
    | nil => rfl
    | cons c t => simp [fallsS]
  case round =>
    obtain ⟨k, rfl, hk, hbx, hbr, Hno⟩ := hrel
    clear X
    have c2 := cell_of_row wr w.heap.size 2 _ _ _ hbx
    have Hbx := Lib.hid hbx
    clear hbx
    by_cases hlt : k + 1 < attrs.length
    · have hdk : decide ((k : Int) + 1 < (attrs.length : Int)) = true := by rw [decide_eq_true_eq]; omega
      have b1 : (0 : Int) ≤ (k : Int) := by omega
      have b2 : (k : Int) < (attrs.length : Int) := by omega
      have b3 : (0 : Int) ≤ (k : Int) + 1 := by omega
      have b4 : (k : Int) + 1 < (attrs.length : Int) := by omega
      obtain ⟨x, hx⟩ : ∃ n, attrs[k]? = some n := ⟨_, List.getElem?_eq_getElem (by omega)⟩
      obtain ⟨y, hy⟩ : ∃ n, attrs[k + 1]? = some n := ⟨_, List.getElem?_eq_getElem hlt⟩
      have hft := fallsS_take hx hy
      rw [Hno.out, Bool.false_or] at hft
      obtain ⟨b, off, rfl, hbl, x0⟩ := (hW.below hbr).at hx
      obtain ⟨b', off', e, hbl', x1⟩ := (hW.below hbr).at hy
      injection e with e
      injection e with e1 e2
      subst e1; subst e2
      have t1 : (((k : Int) + 1).toNat) = k + 1 := by omega
      have hcmp : Op.bytesLess x y = !leS y x := less_leS x y
      cases hv : leS y x with
      | true =>
        rw [hv] at hft hcmp
        have hR : r = true := by
          rw [Hr.out, ← List.take_append_drop (k + 2) attrs]
          exact fallsS_left _ _ hft
        have HR := Lib.hid hR
        have Hft := Lib.hid hft
        clear hR hft hv hx hy
        go_wp2_with fail
        go_quiet (fail)
        go_wp2_with fail
        go_ret
        exact ⟨ret_bool HR.out.symm, below_drewN hbr _⟩
      | false =>
        rw [hv] at hft hcmp
        have Hft := Lib.hid hft
        clear hft hv hx hy
        go_wp2_with fail
        go_quiet (fail)
        go_wp2_with fail
        go_roundw
        case rel => exact ⟨k + 1, by go_num, .inl (by omega), Hbx.out, below_drewN hbr _, Hft.out⟩
        case measure => simp [intOf]; omega
    · have hdk : decide ((k : Int) + 1 < (attrs.length : Int)) = false := by rw [decide_eq_false_iff_not]; omega
      have hR : r = false := by
        have := Hno.out
        rwa [List.take_of_length_le (by omega), ← Hr.out] at this
      have HR := Lib.hid hR
      clear hR
      go_wp2_with fail
      go_ret
      exact ⟨ret_bool HR.out.symm, hbr⟩
end Go.Proofs.YtnnbdlmilbcpjaaGreatDoor
