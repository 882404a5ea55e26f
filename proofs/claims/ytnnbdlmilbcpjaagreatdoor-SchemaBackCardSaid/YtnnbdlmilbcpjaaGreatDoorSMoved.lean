/-
  Layer 7 (regex): moved, many, slices.Clone of nodes: their walks. Conditions: nodes' places are small.
-/
import Derived.Test.YtnnbdlmilbcpjaaGreatDoorSRd3
import Derived.Laws.EntriesVeiled
import Derived.Laws.OwnMore
import Derived.Maps.AppendAt
import Derived.Maps.Range
namespace Go.Proofs.YtnnbdlmilbcpjaaGreatDoor
open Go.RowKit
set_option linter.unusedVariables false
def nodeVal (n : SNode) : Value := .agg (nodeRow n).toArray
theorem below2 (w : World) (o o' : Obj) : Below w.heap.size w ((w.alloc o).alloc o') := ((Below.refl _ w).alloc (Nat.le_refl _) _).alloc (by simp) _
set_option maxHeartbeats 1000000 in
set_option maxRecDepth 100000 in
theorem moved_any (n : SNode) (k : Nat) (w : World) (ha : 0 ≤ n.a ∧ n.a ≤ 65536) (hb : 0 ≤ n.b ∧ n.b ≤ 65536) (hk : k ≤ 65536) :
    Calls Tryz.prog 159 #[nodeVal n, .int .i64 (k : Nat)] w fun e w' => e = .returned (nodeVal (movedS k n)) ∧ Below w.heap.size w w' := by
  obtain ⟨op, sym, a, b⟩ := n
  simp only at ha hb
  obtain ⟨m, hm⟩ : ∃ m, m = movedS k ⟨op, sym, a, b⟩ := ⟨_, rfl⟩
  rw [← hm]
  unfold movedS at hm
  simp only at hm
  unfold nodeVal nodeRow
  simp only
  obtain ⟨ha0, ha1⟩ := ha
  obtain ⟨hb0, hb1⟩ := hb
  by_cases h3 : op = 3
  · subst h3
    rw [if_pos (.inl rfl)] at hm
    have Hm := Lib.hid hm
    clear hm
    go_enter Tryz.func159, Tryz.ntmps159
    go_wp2_with fail
    exact bodyPost_ret (v := .agg #[.int .i64 3, .string ⟨sym.toArray⟩, .int .i64 (a + k), .int .i64 (b + k)]) (by simp [results, Tryz.results159, go_sem]) rfl ⟨by rw [Hm.out], below2 _ _ _⟩
  · by_cases h4 : op = 4
    · subst h4
      rw [if_pos (.inr rfl)] at hm
      have Hm := Lib.hid hm
      clear hm h3
      go_enter Tryz.func159, Tryz.ntmps159
      go_wp2_with fail
      exact bodyPost_ret (v := .agg #[.int .i64 4, .string ⟨sym.toArray⟩, .int .i64 (a + k), .int .i64 (b + k)]) (by simp [results, Tryz.results159, go_sem]) rfl ⟨by rw [Hm.out], below2 _ _ _⟩
    · rw [if_neg (by omega)] at hm
      by_cases h5 : op = 5
      · subst h5
        rw [if_pos rfl] at hm
        have Hm := Lib.hid hm
        clear hm h3 h4
        go_enter Tryz.func159, Tryz.ntmps159
        go_wp2_with fail
        exact bodyPost_ret (v := .agg #[.int .i64 5, .string ⟨sym.toArray⟩, .int .i64 (a + k), .int .i64 b]) (by simp [results, Tryz.results159, go_sem]) rfl ⟨by rw [Hm.out], below2 _ _ _⟩
      · rw [if_neg h5] at hm
        have Hm := Lib.hid hm
        have b3 : (op == 3) = false := by rw [beq_eq_false_iff_ne]; exact h3
        have b4 : (op == 4) = false := by rw [beq_eq_false_iff_ne]; exact h4
        have b5 : (op == 5) = false := by rw [beq_eq_false_iff_ne]; exact h5
        clear hm h3 h4 h5
        go_enter Tryz.func159, Tryz.ntmps159
        go_wp2_with fail
        exact bodyPost_ret (v := .agg #[.int .i64 op, .string ⟨sym.toArray⟩, .int .i64 a, .int .i64 b]) (by simp [results, Tryz.results159, go_sem]) rfl ⟨by rw [Hm.out], below2 _ _ _⟩
theorem info_node : (Tryz.prog.info? 70).map (fun i => (i.zero, i.size, i.bytes)) = some (some (.agg #[.int .i64 0, .string ⟨#[]⟩, .int .i64 0, .int .i64 0]), 4, 40) := by kernel_rfl
/-- an own row of nodes -/
def NodesOwn (w : World) (B : Nat) (v : Value) (l : List SNode) : Prop := w.ownsRow B 70 4 v l.length (l.flatMap nodeRow)
theorem nodeRow_len (l : List SNode) : (l.flatMap nodeRow).length = l.length * 4 := by
  induction l with
  | nil => rfl
  | cons n t ih => rw [List.flatMap_cons, List.length_append, ih, List.length_cons]; show 4 + _ = _; omega
theorem ownRow_shape {w : World} {base size n : Nat} {e : TypeId} {v : Value} {xs : List Value} (h : w.ownsRow base e size v n xs) : ∃ o c, v = .slice o n c := by
  rcases h.2 with ⟨e, hn⟩ | ⟨g, cap, cur, hv, _⟩
  · exact ⟨_, 0, by rw [hn]; exact e⟩
  · exact ⟨_, _, hv⟩
theorem ownRow_down {w : World} {B B' size n : Nat} {e : TypeId} {v : Value} {xs : List Value} (h : w.ownsRow B e size v n xs) (hb : B' ≤ B) : w.ownsRow B' e size v n xs := by
  refine ⟨h.1, ?_⟩
  rcases h.2 with hn | ⟨g, cap, cur, hv, hg, rest⟩
  · exact .inl hn
  · exact .inr ⟨g, cap, cur, hv, by omega, rest⟩
theorem ownRow_nonnil {w : World} {B size n : Nat} {e : TypeId} {v : Value} {xs : List Value} (h : w.ownsRow B e size v n xs) (hn : 0 < n) : ∃ g c, v = .slice (some ⟨g, 0, none⟩) n c ∧ B ≤ g ∧ g < w.heap.size ∧ n ≤ c ∧ c ≤ maxLen := by
  rcases h.2 with ⟨_, h0⟩ | ⟨g, cap, cur, hv, hb, hg, h1, h2, _⟩
  · omega
  · exact ⟨g, cap, hv, hb, lt_of_block hg, h1, h2⟩
theorem nodesAt_of_own {w : World} {B : Nat} {v : Value} {l : List SNode} (h : NodesOwn w B v l) : ∃ o c, v = .slice o l.length c ∧ NodesAt w o c l := by
  obtain ⟨o, c, rfl⟩ := ownRow_shape h
  refine ⟨o, c, rfl, ?_⟩
  by_cases hz : l.length = 0
  · obtain rfl := List.eq_nil_of_length_eq_zero hz
    rcases h.2 with ⟨e, h0⟩ | ⟨g, cap, cur, hv, hbg, hg, h1, h2, h3, h4⟩
    · injection e with e1 e2 e3
      subst e1; subst e3
      exact ⟨rfl, Nat.le_refl _, Nat.zero_le _, fun h0 => absurd h0 (Nat.lt_irrefl 0)⟩
    · injection hv with e1 e2 e3
      subst e1; subst e3
      exact ⟨rfl, h1, h2, fun h0 => absurd h0 (Nat.lt_irrefl 0)⟩
  · obtain ⟨g, c', hv, hbg, hgl, hlc, hcm⟩ := ownRow_nonnil h (by omega)
    injection hv with e1 e2 e3
    subst e1; subst e3
    refine ⟨nodeRow_len l, hlc, hcm, fun _ => ⟨g, 0, rfl, hgl, fun j u hj => ?_⟩⟩
    have hj2 : j < l.length * 4 := by rw [← nodeRow_len]; exact (List.getElem?_eq_some_iff.1 hj).1
    rw [Nat.zero_add]
    exact (World.ownsRow.cellAt h j hj2).trans hj
theorem row_cells_new (w : World) (xs : List Value) (t n : Nat) (hn : n = w.heap.size) : ∀ j u, xs[j]? = some u → (w.alloc (.cells xs.toArray t)).cell? ((⟨n, 0, none⟩ : Addr).add j) = some u := by
  intro j u hj
  subst hn
  have h := cell_of_row (w.alloc (.cells xs.toArray t)) w.heap.size j _ _ _ (heap_alloc_new w _)
  have e1 : (⟨w.heap.size, 0, none⟩ : Addr).add j = ⟨w.heap.size, j, none⟩ := by
    by_cases h0 : j = 0
    · subst h0; simp [Addr.add]
    · simp [Addr.add, h0]
  rw [e1, h]
  simpa using hj
theorem nodeRow_one (n : SNode) : ∀ u ∈ nodeRow n, u.oneCell' = true := by
  intro u hu; unfold nodeRow at hu; simp at hu; rcases hu with rfl | rfl | rfl | rfl <;> rfl
theorem grown_of_alloc {w w' : World} {o : Obj} {row : Option Nat} (h : (w.alloc o).grownBy w' row) : w.grownBy w' row :=
  (World.grownBy_alloc w o row).trans h
/-- a row of one node, just laid -/
theorem nodesOwn_new (w : World) (n : SNode) (B : Nat) (hB : B ≤ w.heap.size) : NodesOwn (w.alloc (.cells (nodeRow n).toArray 70)) B (.slice (some ⟨w.heap.size, 0, none⟩) 1 1) [n] := by
  refine ⟨by simp [nodeRow], .inr ⟨w.heap.size, 1, _, rfl, hB, heap_alloc_new w _, Nat.le_refl _, by unfold maxLen; omega, by simp [nodeRow], by simp [nodeRow]⟩⟩
theorem nodesOwn_snoc {w : World} {B : Nat} {v : Value} {l : List SNode} {n : SNode} (h : w.ownsRow B 70 4 v (l.length + 1) (l.flatMap nodeRow ++ nodeRow n)) : NodesOwn w B v (l ++ [n]) := by
  unfold NodesOwn
  rw [List.length_append, List.flatMap_append]
  simpa using h
set_option maxHeartbeats 1000000 in
set_option maxRecDepth 100000 in
theorem many_any (B : Nat) (l : List SNode) (v : Value) (w : World) (h : NodesOwn w B v l) (hB : B ≤ w.heap.size) (hl : l.length ≤ 1048576) (hl0 : 1 ≤ l.length) :
    Calls Tryz.prog 161 #[v] w fun e w' => ∃ v', e = .returned v' ∧ NodesOwn w' B v' (manyS l) ∧ w.grownBy w' v.ownBlock := by
  obtain ⟨o, c, rfl⟩ := ownRow_shape h
  obtain ⟨i0, hi, hz0, hz1, hz2⟩ := info_parts info_node
  have hm : manyS l = l ++ [⟨5, [], (l.length : Int) - 1, 0⟩] := rfl
  rw [hm]
  have hrow : (nodeRow ⟨5, [], (l.length : Int) - 1, 0⟩) = [.int .i64 5, .string ⟨#[]⟩, .int .i64 ((l.length : Int) - 1), .int .i64 0] := rfl
  have Hrow := Lib.hid hrow
  clear hm hrow
  unfold NodesOwn at h
  go_enter Tryz.func161, Tryz.ntmps161
  go_wp2_with (first
    | (at_builtin; go_must (refine wpList_append_own _ rfl _ _ 43 rfl B 70 i0 (.agg #[.int .i64 0, .string ⟨#[]⟩, .int .i64 0, .int .i64 0]) 4 40 Tryz.underlying43 hi hz0 hz1 hz2 rfl (by decide) _ _ _ rfl (World.ownsRow.alloc h _) ⟨w.heap.size, 0, none⟩ 1 1 [.int .i64 5, .string ⟨#[]⟩, .int .i64 ((l.length : Int) - 1), .int .i64 0] rfl rfl (row_cells_new _ [.int .i64 5, .string ⟨#[]⟩, .int .i64 ((l.length : Int) - 1), .int .i64 0] _ _ rfl) (fun z hz => by simp at hz; rcases hz with rfl | rfl | rfl | rfl <;> rfl) (by unfold maxLen; omega) (by omega) (by simp; omega) ?_); intro v1 w3 hown2 hg1 hnil1)
    | go_in)
  go_ret
  refine ⟨v1, rfl, nodesOwn_snoc (by rw [Hrow.out]; exact hown2), grown_of_alloc hg1⟩
set_option maxHeartbeats 1000000 in
set_option maxRecDepth 100000 in
theorem clone_any (l : List SNode) (B : Nat) (v : Value) (w : World) (h : NodesOwn w B v l) (hl : l.length ≤ 1048576) (hl0 : 1 ≤ l.length) :
    Calls Tryz.prog 162 #[v] w fun e w' => ∃ v', e = .returned v' ∧ NodesOwn w' w.heap.size v' l ∧ Below w.heap.size w w' := by
  obtain ⟨g, c, rfl, hbg, hgl, hlc, hcm⟩ := ownRow_nonnil h (by omega)
  have hcells : ∀ j u, (l.flatMap nodeRow)[j]? = some u → (w.alloc (.cells #[] 70)).cell? ((⟨g, 0, none⟩ : Addr).add j) = some u := by
    intro j u hj
    have hj2 : j < l.length * 4 := by rw [← nodeRow_len]; exact (List.getElem?_eq_some_iff.1 hj).1
    have e1 : (⟨g, 0, none⟩ : Addr).add j = ⟨g, j, none⟩ := by
      by_cases h0 : j = 0
      · subst h0; simp [Addr.add]
      · simp [Addr.add, h0]
    rw [e1]
    exact Lib.cell?_alloc_some _ ((World.ownsRow.cellAt h j hj2).trans hj)
  have hone : ∀ u ∈ l.flatMap nodeRow, u.oneCell' = true := by
    intro u hu
    obtain ⟨n, _, hn⟩ := List.mem_flatMap.1 hu
    exact nodeRow_one n u hn
  obtain ⟨i0, hi, hz0, hz1, hz2⟩ := info_parts info_node
  have hlen := nodeRow_len l
  have q43 : ∀ (w : World) (a : Option Addr) (n c n' c' : Nat), (binOp .eql 43 (.slice a n c) (.slice none n' c')).run Tryz.prog w = .ok (.bool a.isNone) w := fun w a n c n' c' => Lib.run_eql_slice_nil w _ _ a n c n' c' Tryz.underlying43
  have A : Aside (NodesOwn w B (.slice (some ⟨g, 0, none⟩) l.length c) l) := h
  obtain ⟨xs, hxs⟩ : ∃ xs, xs = l.flatMap nodeRow := ⟨_, rfl⟩
  rw [← hxs] at hcells hone hlen
  have Hxs := Lib.hid hxs
  have Hlen := Lib.hid hlen
  have Hcells := Lib.hid hcells
  have Hone := Lib.hid hone
  clear h hxs hlen hcells hone
  go_enter Tryz.func162, Tryz.ntmps162
  go_wp2_with (first
    | (at_builtin; go_must (refine wpList_append_own _ rfl _ _ 43 rfl w.heap.size 70 i0 (.agg #[.int .i64 0, .string ⟨#[]⟩, .int .i64 0, .int .i64 0]) 4 40 Tryz.underlying43 hi hz0 hz1 hz2 rfl (by decide) _ _ _ rfl (World.ownsRow_made w #[] 0 (Nat.le_refl _) (Nat.zero_le _) rfl) ⟨g, 0, none⟩ l.length c xs rfl Hlen.out Hcells.out Hone.out (by unfold maxLen; omega) (by omega) (by simp) ?_); intro v1 w3 hown2 hg1 hnil1)
    | go_in)
  go_ret
  refine ⟨v1, rfl, ?_, ?_⟩
  · unfold NodesOwn; rw [← Hxs.out]; simpa using hown2
  · exact ((Below.refl _ w).alloc (Nat.le_refl _) _).grown hg1 (by simp) (by intro k hk; injection hk with hk; subst hk; exact Nat.le_refl _)
end Go.Proofs.YtnnbdlmilbcpjaaGreatDoor
