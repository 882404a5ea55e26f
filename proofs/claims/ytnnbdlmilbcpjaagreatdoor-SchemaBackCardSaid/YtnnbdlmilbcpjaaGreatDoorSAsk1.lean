/-
  Layer 9 (schema): what may be wrong with a schema: what the closures of asks know, and the walks of the first ones.
-/
import Derived.Test.YtnnbdlmilbcpjaaGreatDoorSHave
namespace Go.Proofs.YtnnbdlmilbcpjaaGreatDoor
open Go.RowKit
set_option linter.unusedVariables false
theorem PlacesAt.below {w w' : World} {M : Nat} {ts : List SType} (h : PlacesAt w M ts) (hb : Below w.heap.size w w') : PlacesAt w' M ts :=
  h.kept (row := none) ⟨hb.os, hb.tape, hb.output, hb.size, fun k hk _ => hb.block k hk⟩ (by simp)
/-- bounds of what comes in -/
structure Lim (l : List TyV) : Prop where
  len : l.length ≤ 1048576
  name : ∀ x ∈ l, x.t.name.length ≤ 1048576
  label : ∀ x ∈ l, x.t.label.length ≤ 1048576
  key : ∀ x ∈ l, x.t.key.length ≤ 1048576
  attrs : ∀ x ∈ l, x.t.attrs.length ≤ 1048576
  attr : ∀ x ∈ l, ∀ a ∈ x.t.attrs, a.length ≤ 1048576
  sym : ∀ x ∈ l, ∀ n ∈ x.t.nodes, n.sym.length ≤ 1048576
/-- what the closures know: the schema in block S, the map of places in block P, told in block T -/
structure Env (w : World) (S P T M : Nat) (o : Option Addr) (cap : Nat) (l : List TyV) : Prop where
  s : w.heap[S]? = some (.cells #[.slice o l.length cap] 24 (0, 0))
  p : w.heap[P]? = some (.cells #[.map (some M)] 61 (0, 0))
  t : w.heap[T]? = some (.cells #[.func (.func 43) #[] #[]] 92 (0, 0))
  types : TypesAt w o cap l
  places : PlacesAt w M (l.map TyV.t)
  mlt : M < w.heap.size
theorem Env.below {w w' : World} {S P T M : Nat} {o : Option Addr} {cap : Nat} {l : List TyV} (h : Env w S P T M o cap l) (hb : Below w.heap.size w w') : Env w' S P T M o cap l :=
  ⟨(hb.block S (lt_of_block h.s)).trans h.s, (hb.block P (lt_of_block h.p)).trans h.p, (hb.block T (lt_of_block h.t)).trans h.t, h.types.below hb, h.places.below hb, by have := hb.size; have := h.mlt; omega⟩
theorem told_yes (e : Int) (w : World) : Calls Tryz.prog 43 #[.int .i64 e, .bool true] w fun e' w' => e' = .returned (.int .i64 e) ∧ w = w' := by
  go_enter Tryz.func43, Tryz.ntmps43
  go_wp2_with fail
  go_ret
  exact ⟨rfl, rfl⟩
theorem told_no (e : Int) (w : World) : Calls Tryz.prog 43 #[.int .i64 e, .bool false] w fun e' w' => e' = .returned (.int .i64 0) ∧ w = w' := by
  go_enter Tryz.func43, Tryz.ntmps43
  go_wp2_with fail
  go_ret
  exact ⟨rfl, rfl⟩
theorem told_any (e : Int) (b : Bool) (w : World) : Calls Tryz.prog 43 #[.int .i64 e, .bool b] w fun e' w' => e' = .returned (.int .i64 (if b = true then e else 0)) ∧ w = w' := by
  cases b
  · exact told_no e w
  · exact told_yes e w
set_option maxRecDepth 100000 in
theorem enter_told : ∀ args wz, (callFunc 43 args).run Tryz.prog wz = .ok (.enter 43 args) wz := fun _ _ => rfl
set_option maxRecDepth 100000 in
theorem ask3_any {w : World} {S P T M : Nat} {o : Option Addr} {cap : Nat} {l : List TyV} (h : Env w S P T M o cap l) (hl : l.length ≤ 1048576) :
    Calls Tryz.prog 47 #[.pointer (some ⟨T, 0, none⟩), .pointer (some ⟨S, 0, none⟩)] w fun e w' => e = .returned (.int .i64 (if 64 < l.length then 17 else 0)) ∧ w = w' := by
  have c1 := cell_of_row w S 0 _ _ _ h.s
  have c2 := cell_of_row w T 0 _ _ _ h.t
  have he := enter_told
  clear h
  by_cases hb : 64 < l.length
  · have hd : decide ((l.length : Int) > 64) = true := by rw [decide_eq_true_eq]; omega
    rw [if_pos hb]
    go_enter Tryz.func47, Tryz.ntmps47
    go_wp2_with fail
    refine (told_yes _ _).mono ?_
    rintro e w' ⟨rfl, rfl⟩
    go_wp2_with fail
    go_ret
    exact ⟨rfl, rfl⟩
  · have hd : decide ((l.length : Int) > 64) = false := by rw [decide_eq_false_iff_not]; omega
    rw [if_neg hb]
    go_enter Tryz.func47, Tryz.ntmps47
    go_wp2_with fail
    refine (told_no _ _).mono ?_
    rintro e w' ⟨rfl, rfl⟩
    go_wp2_with fail
    go_ret
    exact ⟨rfl, rfl⟩
set_option maxRecDepth 100000 in
theorem ask4_any {w : World} {S P T M : Nat} {o : Option Addr} {cap : Nat} {l : List TyV} (h : Env w S P T M o cap l) (hl : l.length ≤ 1048576) :
    Calls Tryz.prog 48 #[.pointer (some ⟨T, 0, none⟩), .pointer (some ⟨S, 0, none⟩)] w fun e w' => e = .returned (.int .i64 (if l.length = 0 then 18 else 0)) ∧ w = w' := by
  have c1 := cell_of_row w S 0 _ _ _ h.s
  have c2 := cell_of_row w T 0 _ _ _ h.t
  have he := enter_told
  clear h
  by_cases hb : l.length = 0
  · have hd : ((l.length : Int) == 0) = true := by rw [beq_iff_eq]; omega
    rw [if_pos hb]
    have Hb := Lib.hid hb
    clear hb
    go_enter Tryz.func48, Tryz.ntmps48
    go_wp2_with fail
    refine (told_yes _ _).mono ?_
    rintro e w' ⟨rfl, rfl⟩
    go_wp2_with fail
    go_ret
    exact ⟨rfl, rfl⟩
  · have hd : ((l.length : Int) == 0) = false := by rw [beq_eq_false_iff_ne]; omega
    rw [if_neg hb]
    go_enter Tryz.func48, Tryz.ntmps48
    go_wp2_with fail
    refine (told_no _ _).mono ?_
    rintro e w' ⟨rfl, rfl⟩
    go_wp2_with fail
    go_ret
    exact ⟨rfl, rfl⟩
def formB (t : SType) : Bool := t.text && (!t.nodes.isEmpty || !t.key.isEmpty)
theorem isEmpty_len {α : Type} (l : List α) : l.isEmpty = decide (l.length = 0) := by cases l <;> simp
set_option maxHeartbeats 1000000 in
set_option maxRecDepth 100000 in
theorem ask7_any (x : TyV) (w : World) : Calls Tryz.prog 52 #[typeVal x] w fun e w' => e = .returned (.bool (formB x.t)) ∧ Below w.heap.size w w' := by
  obtain ⟨r, hr⟩ : ∃ r, r = formB x.t := ⟨_, rfl⟩
  rw [← hr]
  unfold formB at hr
  obtain ⟨⟨name, label, attrs, key, text, nodes⟩, ao, ac, no, nc⟩ := x
  unfold typeVal typeRow
  simp only at hr ⊢
  cases text with
  | false =>
    rw [Bool.false_and] at hr
    have Hr := Lib.hid hr
    clear hr
    go_enter Tryz.func52, Tryz.ntmps52
    go_wp2_with fail
    go_ret
    exact ⟨ret_bool Hr.out.symm, (Below.refl _ w).alloc (Nat.le_refl _) _⟩
  | true =>
    rw [Bool.true_and, isEmpty_len] at hr
    by_cases hn : nodes.length = 0
    · rw [decide_eq_true hn, Bool.not_true, Bool.false_or] at hr
      obtain rfl := List.eq_nil_of_length_eq_zero hn
      cases hk : key with
      | nil =>
        rw [hk] at hr
        have Hr := Lib.hid hr
        clear hr hn hk
        go_enter Tryz.func52, Tryz.ntmps52
        go_wp2_with fail
        go_ret
        exact ⟨ret_bool Hr.out.symm, (Below.refl _ w).alloc (Nat.le_refl _) _⟩
      | cons c t =>
        rw [hk] at hr
        have Hr := Lib.hid hr
        clear hr hn hk
        go_enter Tryz.func52, Tryz.ntmps52
        go_wp2_with fail
        go_ret
        exact ⟨ret_bool Hr.out.symm, (Below.refl _ w).alloc (Nat.le_refl _) _⟩
    · rw [decide_eq_false hn, Bool.not_false, Bool.true_or] at hr
      have Hr := Lib.hid hr
      generalize nodes.length = m at hn
      have hpos : 0 < m := by omega
      have hd : decide ((m : Int) > 0) = true := by rw [decide_eq_true_eq]; omega
      clear hr hn
      go_enter Tryz.func52, Tryz.ntmps52
      go_wp2_with fail
      go_ret
      exact ⟨ret_bool Hr.out.symm, (Below.refl _ w).alloc (Nat.le_refl _) _⟩
theorem no_any (s : ByteArray) (w : World) (hs : s.size ≤ 9223372036854775807) : Calls Tryz.prog 87 #[.string s] w fun e w' => e = .returned (.bool (!isName s.data.toList)) ∧ Below w.heap.size w w' := by
  go_enter Tryz.func87, Tryz.ntmps87
  go_wp2_with fail
  refine (names_Is s _ hs).mono ?_
  rintro e w' ⟨rfl, hb⟩
  go_wp2_with fail
  go_ret
  exact ⟨rfl, hb⟩
end Go.Proofs.YtnnbdlmilbcpjaaGreatDoor
