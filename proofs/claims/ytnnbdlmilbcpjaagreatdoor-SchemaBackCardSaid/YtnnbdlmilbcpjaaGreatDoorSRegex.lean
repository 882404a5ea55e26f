/-
  Layer 7 (regex): what is wrong with a regular expression: the walks of Check, formed and its closure.
-/
import Derived.Test.YtnnbdlmilbcpjaaGreatDoorSMem
import Derived.Test.YtnnbdlmilbcpjaaGreatDoorNamesIs
import Derived.Deep.OwnRows
import Derived.Deep.DeepMust
namespace Go.Proofs.YtnnbdlmilbcpjaaGreatDoor
open Go.RowKit
set_option linter.unusedVariables false
theorem part_no (x : Int) (i : Nat) (I UB : Nat) (w : World) (hi : w.cell? ⟨I, 0, none⟩ = some (.int .i64 (i : Int))) (hx : partOk i x = false) :
    Calls Tryz.prog 91 #[.int .i64 x, .pointer (some ⟨I, 0, none⟩), .pointer (some ⟨UB, 0, none⟩)] w fun e w' => e = .returned (.bool false) ∧ w = w' := by
  unfold partOk at hx
  rcases (by by_cases h : x < 0 <;> simp at hx <;> omega : x < 0 ∨ (0 ≤ x ∧ (i : Int) ≤ x)) with h | ⟨h, h'⟩
  all_goals
    clear hx
    go_enter Tryz.func91, Tryz.ntmps91
    go_wp2_with fail
    go_ret
    exact ⟨rfl, rfl⟩
theorem part_yes (x i n I UB U : Nat) (u : Int) (w : World) (hi : w.cell? ⟨I, 0, none⟩ = some (.int .i64 (i : Int))) (hx : x < i) (hin : i ≤ n) (hn : n ≤ 1024)
    (hub : w.cell? ⟨UB, 0, none⟩ = some (.slice (some ⟨U, 0, none⟩) n n)) (hu : w.cell? ⟨U, x, none⟩ = some (.int .i64 u)) (hu0 : 0 ≤ u) (hu1 : u ≤ 4096) (hf : w.frozen? ⟨U, x, none⟩ = false) :
    Calls Tryz.prog 91 #[.int .i64 (x : Int), .pointer (some ⟨I, 0, none⟩), .pointer (some ⟨UB, 0, none⟩)] w fun e w' => e = .returned (.bool true) ∧ w' = w.setCell ⟨U, x, none⟩ (.int .i64 (u + 1)) := by
  have h0 : (0 : Int) ≤ (x : Int) := by omega
  have h1 : (x : Int) < (i : Int) := by omega
  have h2 : (x : Int) < (n : Int) := by omega
  go_enter Tryz.func91, Tryz.ntmps91
  go_wp2_with fail
  go_ret
  exact ⟨rfl, rfl⟩
theorem info_int : (Tryz.prog.info? 3).map (fun i => (i.zero, i.size, i.bytes)) = some (some (.int .i64 0), 1, 8) := by kernel_rfl
/-- a block of numbers -/
def UsesAt (w : World) (U : Nat) (us : List Nat) : Prop := w.heap[U]? = some (.cells (us.map fun u => Value.int .i64 (u : Nat)).toArray 3 (0, 0))
def bump (us : List Nat) (x : Nat) : List Nat := us.set x (us.getD x 0 + 1)
theorem bump_len (us : List Nat) (x : Nat) : (bump us x).length = us.length := by simp [bump]
theorem bump_get (us : List Nat) (x j : Nat) (hj : j < us.length) : (bump us x).getD j 0 = us.getD j 0 + if x = j then 1 else 0 := by
  unfold bump
  simp only [List.getD_eq_getElem?_getD, List.getElem?_set]
  by_cases h : x = j
  · subst h; simp [hj]
  · simp [h]
theorem heap_set (w : World) (U x : Nat) (v : Value) {cs : Array Value} {t : Nat} {fz : Nat × Nat} (h : w.heap[U]? = some (.cells cs t fz)) : (w.setCell ⟨U, x, none⟩ v).heap[U]? = some (.cells (cs.setIfInBounds x v) t fz) := by
  have hlt := lt_of_block h
  have h' : w.heap[U] = .cells cs t fz := by simpa [Array.getElem?_eq_getElem hlt] using h
  show (w.heap.modify U _)[U]? = _
  rw [Array.getElem?_eq_getElem (by simpa using hlt), Array.getElem_modify_self, h']
  rfl
theorem heap_set_ne (w : World) (U x k : Nat) (v : Value) (h : k ≠ U) : (w.setCell ⟨U, x, none⟩ v).heap[k]? = w.heap[k]? := Below.heap_setCell _ _ _ _ (fun e => h (by rw [e]))
theorem UsesAt.bump {w : World} {U : Nat} {us : List Nat} (h : UsesAt w U us) {x : Nat} (hx : x < us.length) : UsesAt (w.setCell ⟨U, x, none⟩ (.int .i64 ((us.getD x 0 : Nat) + 1 : Int))) U (bump us x) := by
  unfold UsesAt at *
  rw [heap_set w U x _ h]
  congr 2
  unfold Go.Proofs.YtnnbdlmilbcpjaaGreatDoor.bump
  rw [List.setIfInBounds_toArray, List.map_set]
  rfl
theorem bump_le {us : List Nat} {m : Nat} (h : ∀ j, us.getD j 0 ≤ m) (x : Nat) : ∀ j, (bump us x).getD j 0 ≤ m + 1 := by
  intro j
  by_cases hj : j < us.length
  · rw [bump_get us x j hj]; have := h j; split <;> omega
  · rw [List.getD_eq_getElem?_getD, List.getElem?_eq_none (by rw [bump_len]; omega)]; simp
theorem bump_count {us : List Nat} {x : Nat} (hx : x < us.length) (j : Nat) : (bump us x).getD j 0 = us.getD j 0 + [x].count j := by
  by_cases hj : j < us.length
  · rw [bump_get us x j hj]
    by_cases h : x = j
    · subst h; simp
    · simp [h]
  · have hne : ¬ x = j := by omega
    rw [List.getD_eq_getElem?_getD, List.getD_eq_getElem?_getD, List.getElem?_eq_none (by rw [bump_len]; omega), List.getElem?_eq_none (by omega)]
    simp [hne]
theorem partOk_lt {i : Nat} {x : Int} (h : partOk i x = true) : x.toNat < i := by
  unfold partOk at h; simp at h; omega
/-- what holds while a node is looked at -/
structure FSt (U I : Nat) (n : SNode) (i : Nat) (us : List Nat) (w0 w : World) : Prop where
  uses : UsesAt w U us
  ub : w.heap[U + 1]? = some (.cells #[.slice (some ⟨U, 0, none⟩) us.length us.length] 35 (0, 0))
  ib : w.heap[I]? = some (.cells #[.int .i64 (i : Int)] 3 (0, 0))
  nb : w.heap[I + 1]? = some (.cells (nodeRow n).toArray 70 (0, 0))
  below : Below w0.heap.size w0 w
  U0 : w0.heap.size ≤ U
  UI : U + 1 < I
theorem FSt.bump {U I i : Nat} {n : SNode} {us : List Nat} {w0 w : World} (h : FSt U I n i us w0 w) {x : Nat} (hx : x < us.length) : FSt U I n i (bump us x) w0 (w.setCell ⟨U, x, none⟩ (.int .i64 ((us.getD x 0 : Nat) + 1 : Int))) := by
  have hUI := h.UI
  refine ⟨h.uses.bump hx, ?_, (heap_set_ne w U x I _ (by omega)).trans h.ib, (heap_set_ne w U x (I + 1) _ (by omega)).trans h.nb, h.below.setCell h.U0 _, h.U0, hUI⟩
  rw [bump_len]
  exact (heap_set_ne w U x (U + 1) _ (by omega)).trans h.ub
theorem part_step {U I i : Nat} {n : SNode} {us : List Nat} {w0 w : World} (h : FSt U I n i us w0 w) (x : Int) (hi : i ≤ us.length) (hn : us.length ≤ 1024) (hu : ∀ j, us.getD j 0 ≤ 4096) :
    Calls Tryz.prog 91 #[.int .i64 x, .pointer (some ⟨I, 0, none⟩), .pointer (some ⟨U + 1, 0, none⟩)] w fun e w' => e = .returned (.bool (partOk i x)) ∧ FSt U I n i (if partOk i x = true then bump us x.toNat else us) w0 w' := by
  cases hp : partOk i x with
  | false =>
    refine (part_no x i I (U + 1) w (cell_of_row w I 0 _ _ _ h.ib) hp).mono ?_
    rintro e w' ⟨rfl, rfl⟩
    exact ⟨rfl, by simpa using h⟩
  | true =>
    have hp' := hp
    unfold partOk at hp'
    simp at hp'
    obtain ⟨y, rfl⟩ : ∃ y : Nat, x = y := ⟨x.toNat, by omega⟩
    have hy : y < us.length := by omega
    have hcell : w.cell? ⟨U, y, none⟩ = some (.int .i64 ((us.getD y 0 : Nat) : Int)) := by
      rw [cell_of_row w U y _ _ _ h.uses]
      simp [List.getD_eq_getElem?_getD, List.getElem?_eq_getElem hy]
    refine (part_yes y i us.length I (U + 1) U (us.getD y 0 : Nat) w (cell_of_row w I 0 _ _ _ h.ib) (by omega) hi hn (cell_of_row w (U + 1) 0 _ _ _ h.ub) hcell (by omega) (by have := hu y; omega) (by have hh : w.heap[U]? = _ := h.uses; simp [World.frozen?, hh])).mono ?_
    rintro e w' ⟨rfl, rfl⟩
    exact ⟨rfl, by simpa using h.bump hy⟩
theorem used_le (l : List SNode) (j : Nat) : usedS l j ≤ 2 * l.length := by
  unfold usedS
  refine Nat.le_trans List.count_le_length ?_
  induction l with
  | nil => simp
  | cons n t ih =>
    rw [List.flatMap_cons, List.length_append, List.length_cons]
    have : (refsN n).length ≤ 2 := by unfold refsN; split <;> (try split) <;> simp
    omega
theorem made_uses (n : Nat) : madeCells #[Value.int .i64 0] n = ((List.replicate n 0).map fun u => Value.int .i64 ((u : Nat) : Int)).toArray := by
  unfold madeCells
  apply Array.ext
  · simp
  · intro i h1 h2
    simp [Nat.mod_one]
/-- what is held ahead of each node -/
structure GSt (U : Nat) (us : List Nat) (w0 w : World) : Prop where
  uses : UsesAt w U us
  ub : w.heap[U + 1]? = some (.cells #[.slice (some ⟨U, 0, none⟩) us.length us.length] 35 (0, 0))
  below : Below w0.heap.size w0 w
  U0 : w0.heap.size ≤ U
theorem GSt.node {U : Nat} {us : List Nat} {w0 w : World} (h : GSt U us w0 w) (n : SNode) (i : Nat) : FSt U w.heap.size n i us w0 ((w.alloc (.cells #[.int .i64 (i : Int)] 3)).alloc (.cells #[.int .i64 n.op, .string ⟨n.sym.toArray⟩, .int .i64 n.a, .int .i64 n.b] 70)) := by
  have hb : Below w.heap.size w ((w.alloc (.cells #[.int .i64 (i : Int)] 3)).alloc (.cells #[.int .i64 n.op, .string ⟨n.sym.toArray⟩, .int .i64 n.a, .int .i64 n.b] 70)) := ((Below.refl _ w).alloc (Nat.le_refl _) _).alloc (by rw [World.size_alloc]; omega) _
  have hlt := lt_of_block h.ub
  have h1 : (w.alloc (.cells #[.int .i64 (i : Int)] 3)).heap[w.heap.size]? = _ := heap_alloc_new w (.cells #[.int .i64 (i : Int)] 3)
  have h2 := heap_alloc_new (w.alloc (.cells #[.int .i64 (i : Int)] 3)) (.cells #[.int .i64 n.op, .string ⟨n.sym.toArray⟩, .int .i64 n.a, .int .i64 n.b] 70)
  rw [World.size_alloc] at h2
  refine ⟨(hb.block U (by omega)).trans h.uses, (hb.block (U + 1) hlt).trans h.ub, ?_, h2, h.below.trans (hb.mono h.below.size), h.U0, hlt⟩
  exact (((Below.refl (w.heap.size + 1) (w.alloc (.cells #[.int .i64 (i : Int)] 3))).alloc (by rw [World.size_alloc]; omega) _).block _ (by omega)).trans h1
theorem FSt.cells {U I i : Nat} {n : SNode} {us : List Nat} {w0 w : World} (h : FSt U I n i us w0 w) : w.cell? ⟨I + 1, 0, none⟩ = some (.int .i64 n.op) ∧ w.cell? ⟨I + 1, 1, none⟩ = some (.string ⟨n.sym.toArray⟩) ∧ w.cell? ⟨I + 1, 2, none⟩ = some (.int .i64 n.a) ∧ w.cell? ⟨I + 1, 3, none⟩ = some (.int .i64 n.b) :=
  ⟨cell_of_row w (I + 1) 0 _ _ _ h.nb, cell_of_row w (I + 1) 1 _ _ _ h.nb, cell_of_row w (I + 1) 2 _ _ _ h.nb, cell_of_row w (I + 1) 3 _ _ _ h.nb⟩
theorem FSt.back {U I i : Nat} {n : SNode} {us : List Nat} {w0 w : World} (h : FSt U I n i us w0 w) : GSt U us w0 w := ⟨h.uses, h.ub, h.below, h.U0⟩
set_option maxHeartbeats 4000000 in
set_option maxRecDepth 100000 in
theorem formed_any (l : List SNode) (o : Option Addr) (cap : Nat) (w : World) (h : NodesAt w o cap l) (hl : l.length ≤ 1024) :
    Calls Tryz.prog 62 #[.slice o l.length cap] w fun e w' => e = .returned (.bool (formedS l)) ∧ Below w.heap.size w w' := by
  obtain ⟨R, hR⟩ : ∃ R, R = formedS l := ⟨_, rfl⟩
  rw [← hR]
  have HR := Lib.hid hR
  clear hR
  obtain ⟨i0, hi, hz0, hz1, hz2⟩ := info_parts info_int
  have hmade := made_uses l.length
  have Hmade := Lib.hid hmade
  clear hmade
  go_enter Tryz.func62, Tryz.ntmps62
  go_wp2_with (first
    | (at_make; go_must (refine wpList_make_row _ rfl _ _ _ rfl 3 i0 (.int .i64 0) Tryz.underlying35 hi hz0 hz1 rfl _ _ l.length rfl rfl (by rw [hz2]; omega) (by omega) ?_)))
  rw [Hmade.out]
  have hG0 : GSt w.heap.size (List.replicate l.length 0) w ((w.alloc (.cells ((List.replicate l.length 0).map fun u => Value.int .i64 ((u : Nat) : Int)).toArray 3)).alloc (.cells #[.slice (some ⟨w.heap.size, 0, none⟩) l.length l.length] 35)) := by
    have h1 := heap_alloc_new w (.cells ((List.replicate l.length 0).map fun u => Value.int .i64 ((u : Nat) : Int)).toArray 3)
    have h2 := heap_alloc_new (w.alloc (.cells ((List.replicate l.length 0).map fun u => Value.int .i64 ((u : Nat) : Int)).toArray 3)) (.cells #[.slice (some ⟨w.heap.size, 0, none⟩) l.length l.length] 35)
    rw [World.size_alloc] at h2
    refine ⟨?_, by rw [List.length_replicate]; exact h2, ((Below.refl _ w).alloc (Nat.le_refl _) _).alloc (by rw [World.size_alloc]; omega) _, Nat.le_refl _⟩
    exact (((Below.refl (w.heap.size + 1) (w.alloc _)).alloc (by rw [World.size_alloc]; omega) _).block _ (by omega)).trans h1
  clear Hmade
  have hgetr : ∀ j, (List.replicate l.length 0).getD j 0 = usedS (l.take 0) j := by
    intro j
    have : usedS (l.take 0) j = 0 := by simp [usedS]
    rw [this, List.getD_eq_getElem?_getD, List.getElem?_replicate]
    split <;> rfl
  have Hgetr := Lib.hid hgetr
  clear hgetr
  go_loopw [14] (fun i wr => ∃ (k : Nat) (us : List Nat), i = .int .i64 k ∧ k ≤ l.length ∧ us.length = l.length ∧ GSt w.heap.size us w wr ∧ Hid (nodesOk 0 (l.take k) = true ∧ ∀ j, us.getD j 0 = usedS (l.take k) j)) (fun i _ => l.length - (intOf i).toNat)
  case atStart => exact ⟨0, List.replicate l.length 0, rfl, Nat.zero_le _, List.length_replicate, hG0, rfl, Hgetr.out⟩
  case round =>
    obtain ⟨k, us, rfl, hk, hus, hG, HU⟩ := hrel
    clear hG0 Hgetr
    by_cases hlt : k < l.length
    · have hdk : decide ((k : Int) < (l.length : Int)) = true := by rw [decide_eq_true_eq]; omega
      have hki : (k : Int) < (l.length : Int) := by omega
      obtain ⟨n, hx⟩ : ∃ n, l[k]? = some n := ⟨_, List.getElem?_eq_getElem hlt⟩
      obtain ⟨b, off, rfl, hbl, x0, x1, x2, x3⟩ := (h.below (hG.below)).at hx
      have hF := hG.node n k
      have hu : ∀ j, us.getD j 0 ≤ 2048 := fun j => by rw [HU.out.2]; have := used_le (l.take k) j; rw [List.length_take] at this; omega
      have Hu := Lib.hid hu
      clear hu
      obtain ⟨op, sym, a, b2⟩ := n
      simp only at x0 x1 x2 x3
      have hno : nodeOk k ⟨op, sym, a, b2⟩ = false → R = false := fun hn => by rw [HR.out]; exact nodesOk_no hx hn
      have hyes : ∀ us' : List Nat, nodeOk k ⟨op, sym, a, b2⟩ = true → (∀ j, us'.getD j 0 = us.getD j 0 + (refsN ⟨op, sym, a, b2⟩).count j) → nodesOk 0 (l.take (k + 1)) = true ∧ ∀ j, us'.getD j 0 = usedS (l.take (k + 1)) j := by
        intro us' hn hc
        refine ⟨by rw [nodesOk_snoc hx, HU.out.1, hn]; rfl, fun j => ?_⟩
        rw [hc, usedS_snoc hx, HU.out.2]
      have Hx := Lib.hid hx
      clear hx
      obtain ⟨y0, y1, y2, y3⟩ := hF.cells
      simp only at y0 y1 y2 y3
      rcases (by omega : op = 0 ∨ op = 1 ∨ op = 2 ∨ op = 3 ∨ op = 4 ∨ op = 5 ∨ (op < 0 ∨ 5 < op)) with rfl | rfl | rfl | rfl | rfl | rfl | hop
      · have hN0 : nodeOk k ⟨0, sym, a, b2⟩ = (sym.isEmpty && decide (a = 0) && decide (b2 = 0)) := rfl
        rw [hN0] at hno hyes
        have hr : ∀ j, (refsN ⟨0, sym, a, b2⟩).count j = 0 := fun j => rfl
        have Hno := Lib.hid hno
        have Hyes := Lib.hid hyes
        have Hr := Lib.hid hr
        clear hno hyes hr hN0
        rcases Classical.em (sym = []) with hs | hs <;> rcases Classical.em (a = 0) with ha | ha <;> rcases Classical.em (b2 = 0) with hb | hb
        all_goals
          first | subst hs | skip
          first | subst ha | (have ba : (a == 0) = false := by rw [beq_eq_false_iff_ne]; exact ha)
          first | subst hb | (have bb : (b2 == 0) = false := by rw [beq_eq_false_iff_ne]; exact hb)
          go_wp2_with fail
          first
            | (go_ret; exact ⟨ret_bool (Hno.out (by simp [*])).symm, hF.below⟩)
            | (go_roundw
               case rel => exact ⟨k + 1, us, by go_num, by omega, hus, hF.back, Hyes.out us (by simp [*]) (fun j => by rw [Hr.out]; rfl)⟩
               case measure => simp [intOf]; omega)
      · have hN0 : nodeOk k ⟨1, sym, a, b2⟩ = (sym.isEmpty && decide (a = 0) && decide (b2 = 0)) := rfl
        rw [hN0] at hno hyes
        have hr : ∀ j, (refsN ⟨1, sym, a, b2⟩).count j = 0 := fun j => rfl
        have Hno := Lib.hid hno
        have Hyes := Lib.hid hyes
        have Hr := Lib.hid hr
        clear hno hyes hr hN0
        rcases Classical.em (sym = []) with hs | hs <;> rcases Classical.em (a = 0) with ha | ha <;> rcases Classical.em (b2 = 0) with hb | hb
        all_goals
          first | subst hs | skip
          first | subst ha | (have ba : (a == 0) = false := by rw [beq_eq_false_iff_ne]; exact ha)
          first | subst hb | (have bb : (b2 == 0) = false := by rw [beq_eq_false_iff_ne]; exact hb)
          go_wp2_with fail
          first
            | (go_ret; exact ⟨ret_bool (Hno.out (by simp [*])).symm, hF.below⟩)
            | (go_roundw
               case rel => exact ⟨k + 1, us, by go_num, by omega, hus, hF.back, Hyes.out us (by simp [*]) (fun j => by rw [Hr.out]; rfl)⟩
               case measure => simp [intOf]; omega)
      · have hN0 : nodeOk k ⟨2, sym, a, b2⟩ = (decide (a = 0) && decide (b2 = 0)) := rfl
        rw [hN0] at hno hyes
        have hr : ∀ j, (refsN ⟨2, sym, a, b2⟩).count j = 0 := fun j => rfl
        have Hno := Lib.hid hno
        have Hyes := Lib.hid hyes
        have Hr := Lib.hid hr
        clear hno hyes hr hN0
        rcases Classical.em (sym = []) with hs | hs <;> rcases Classical.em (a = 0) with ha | ha <;> rcases Classical.em (b2 = 0) with hb | hb
        all_goals
          first | subst hs | skip
          first | subst ha | (have ba : (a == 0) = false := by rw [beq_eq_false_iff_ne]; exact ha)
          first | subst hb | (have bb : (b2 == 0) = false := by rw [beq_eq_false_iff_ne]; exact hb)
          go_wp2_with fail
          first
            | (go_ret; exact ⟨ret_bool (Hno.out (by simp [*])).symm, hF.below⟩)
            | (go_roundw
               case rel => exact ⟨k + 1, us, by go_num, by omega, hus, hF.back, Hyes.out us (by simp [*]) (fun j => by rw [Hr.out]; rfl)⟩
               case measure => simp [intOf]; omega)
      · have hN0 : nodeOk k ⟨3, sym, a, b2⟩ = (sym.isEmpty && partOk k a && partOk k b2) := rfl
        rw [hN0] at hno hyes
        have hr : ∀ j, (refsN ⟨3, sym, a, b2⟩).count j = [a.toNat, b2.toNat].count j := fun j => rfl
        have Hno := Lib.hid hno
        have Hyes := Lib.hid hyes
        have Hr := Lib.hid hr
        clear hno hyes hr hN0
        rcases Classical.em (sym = []) with hs | hs
        · subst hs
          have hpa := part_step hF a (by omega) (by omega) (fun j => by have := Hu.out j; omega)
          cases hp : partOk k a with
          | false =>
            rw [hp] at hpa
            have Hp := Lib.hid hp
            clear hp
            go_wp2_with fail
            refine hpa.mono ?_
            rintro e w1 ⟨rfl, hF2⟩
            clear hpa
            have hbw := hF2.below
            go_wp2_with fail
            go_ret
            exact ⟨ret_bool (Hno.out (by simp [Hp.out])).symm, hbw⟩
          | true =>
            rw [hp] at hpa
            simp only [if_true] at hpa
            have hax := partOk_lt hp
            have Hp := Lib.hid hp
            clear hp
            go_wp2_with fail
            refine hpa.mono ?_
            rintro e w1 ⟨rfl, hF2⟩
            clear hpa y0 y1 y2 y3
            obtain ⟨y0, y1, y2, y3⟩ := hF2.cells
            simp only at y0 y1 y2 y3
            have hpb := part_step hF2 b2 (by rw [bump_len]; omega) (by rw [bump_len]; omega) (fun j => by have := bump_le Hu.out a.toNat j; omega)
            cases hp2 : partOk k b2 with
            | false =>
              rw [hp2] at hpb
              have Hp2 := Lib.hid hp2
              clear hp2
              go_wp2_with fail
              refine hpb.mono ?_
              rintro e w2 ⟨rfl, hF3⟩
              clear hpb
              have hbw := hF3.below
              go_wp2_with fail
              go_ret
              exact ⟨ret_bool (Hno.out (by simp [Hp2.out])).symm, hbw⟩
            | true =>
              rw [hp2] at hpb
              simp only [if_true] at hpb
              have hbx := partOk_lt hp2
              have Hp2 := Lib.hid hp2
              clear hp2
              go_wp2_with fail
              refine hpb.mono ?_
              rintro e w2 ⟨rfl, hF3⟩
              clear hpb y0 y1 y2 y3
              go_wp2_with fail
              go_roundw
              case rel => exact ⟨k + 1, bump (bump us a.toNat) b2.toNat, by go_num, by omega, by rw [bump_len, bump_len]; exact hus, hF3.back, Hyes.out _ (by simp [Hp.out, Hp2.out]) (fun j => by rw [Hr.out, bump_count (by rw [bump_len]; omega), bump_count (by omega), show [a.toNat, b2.toNat] = [a.toNat] ++ [b2.toNat] from rfl, List.count_append]; omega)⟩
              case measure => simp [intOf]; omega
        · go_wp2_with fail
          go_ret
          exact ⟨ret_bool (Hno.out (by simp [hs])).symm, hF.below⟩
      · have hN0 : nodeOk k ⟨4, sym, a, b2⟩ = (sym.isEmpty && partOk k a && partOk k b2) := rfl
        rw [hN0] at hno hyes
        have hr : ∀ j, (refsN ⟨4, sym, a, b2⟩).count j = [a.toNat, b2.toNat].count j := fun j => rfl
        have Hno := Lib.hid hno
        have Hyes := Lib.hid hyes
        have Hr := Lib.hid hr
        clear hno hyes hr hN0
        rcases Classical.em (sym = []) with hs | hs
        · subst hs
          have hpa := part_step hF a (by omega) (by omega) (fun j => by have := Hu.out j; omega)
          cases hp : partOk k a with
          | false =>
            rw [hp] at hpa
            have Hp := Lib.hid hp
            clear hp
            go_wp2_with fail
            refine hpa.mono ?_
            rintro e w1 ⟨rfl, hF2⟩
            clear hpa
            have hbw := hF2.below
            go_wp2_with fail
            go_ret
            exact ⟨ret_bool (Hno.out (by simp [Hp.out])).symm, hbw⟩
          | true =>
            rw [hp] at hpa
            simp only [if_true] at hpa
            have hax := partOk_lt hp
            have Hp := Lib.hid hp
            clear hp
            go_wp2_with fail
            refine hpa.mono ?_
            rintro e w1 ⟨rfl, hF2⟩
            clear hpa y0 y1 y2 y3
            obtain ⟨y0, y1, y2, y3⟩ := hF2.cells
            simp only at y0 y1 y2 y3
            have hpb := part_step hF2 b2 (by rw [bump_len]; omega) (by rw [bump_len]; omega) (fun j => by have := bump_le Hu.out a.toNat j; omega)
            cases hp2 : partOk k b2 with
            | false =>
              rw [hp2] at hpb
              have Hp2 := Lib.hid hp2
              clear hp2
              go_wp2_with fail
              refine hpb.mono ?_
              rintro e w2 ⟨rfl, hF3⟩
              clear hpb
              have hbw := hF3.below
              go_wp2_with fail
              go_ret
              exact ⟨ret_bool (Hno.out (by simp [Hp2.out])).symm, hbw⟩
            | true =>
              rw [hp2] at hpb
              simp only [if_true] at hpb
              have hbx := partOk_lt hp2
              have Hp2 := Lib.hid hp2
              clear hp2
              go_wp2_with fail
              refine hpb.mono ?_
              rintro e w2 ⟨rfl, hF3⟩
              clear hpb y0 y1 y2 y3
              go_wp2_with fail
              go_roundw
              case rel => exact ⟨k + 1, bump (bump us a.toNat) b2.toNat, by go_num, by omega, by rw [bump_len, bump_len]; exact hus, hF3.back, Hyes.out _ (by simp [Hp.out, Hp2.out]) (fun j => by rw [Hr.out, bump_count (by rw [bump_len]; omega), bump_count (by omega), show [a.toNat, b2.toNat] = [a.toNat] ++ [b2.toNat] from rfl, List.count_append]; omega)⟩
              case measure => simp [intOf]; omega
        · go_wp2_with fail
          go_ret
          exact ⟨ret_bool (Hno.out (by simp [hs])).symm, hF.below⟩
      · have hN0 : nodeOk k ⟨5, sym, a, b2⟩ = (sym.isEmpty && partOk k a && decide (b2 = 0)) := rfl
        rw [hN0] at hno hyes
        have hr : ∀ j, (refsN ⟨5, sym, a, b2⟩).count j = [a.toNat].count j := fun j => rfl
        have Hno := Lib.hid hno
        have Hyes := Lib.hid hyes
        have Hr := Lib.hid hr
        clear hno hyes hr hN0
        rcases Classical.em (sym = []) with hs | hs
        · subst hs
          have hpa := part_step hF a (by omega) (by omega) (fun j => by have := Hu.out j; omega)
          cases hp : partOk k a with
          | false =>
            rw [hp] at hpa
            have Hp := Lib.hid hp
            clear hp
            go_wp2_with fail
            refine hpa.mono ?_
            rintro e w1 ⟨rfl, hF2⟩
            clear hpa
            have hbw := hF2.below
            go_wp2_with fail
            go_ret
            exact ⟨ret_bool (Hno.out (by simp [Hp.out])).symm, hbw⟩
          | true =>
            rw [hp] at hpa
            simp only [if_true] at hpa
            have hax := partOk_lt hp
            have Hp := Lib.hid hp
            clear hp
            rcases Classical.em (b2 = 0) with hb | hb
            · subst hb
              go_wp2_with fail
              refine hpa.mono ?_
              rintro e w1 ⟨rfl, hF2⟩
              clear hpa y0 y1 y2 y3
              obtain ⟨y0, y1, y2, y3⟩ := hF2.cells
              simp only at y0 y1 y2 y3
              go_wp2_with fail
              go_roundw
              case rel => exact ⟨k + 1, bump us a.toNat, by go_num, by omega, by rw [bump_len]; exact hus, hF2.back, Hyes.out _ (by simp [Hp.out]) (fun j => by rw [Hr.out, bump_count (by omega)])⟩
              case measure => simp [intOf]; omega
            · have bb : (b2 == 0) = false := by rw [beq_eq_false_iff_ne]; exact hb
              go_wp2_with fail
              refine hpa.mono ?_
              rintro e w1 ⟨rfl, hF2⟩
              clear hpa y0 y1 y2 y3
              obtain ⟨y0, y1, y2, y3⟩ := hF2.cells
              simp only at y0 y1 y2 y3
              have hbw := hF2.below
              go_wp2_with fail
              go_ret
              exact ⟨ret_bool (Hno.out (by simp [hb])).symm, hbw⟩
        · go_wp2_with fail
          go_ret
          exact ⟨ret_bool (Hno.out (by simp [hs])).symm, hF.below⟩
      · have hN0 : nodeOk k ⟨op, sym, a, b2⟩ = false := by
          unfold nodeOk
          rw [if_neg (by simp only; omega), if_neg (by simp only; omega), if_neg (by simp only; omega), if_neg (by simp only; omega)]
        have hR := hno hN0
        have Hr := Lib.hid hR
        clear hno hyes hN0 hR
        have c0 : (op == 0) = false := by rw [beq_eq_false_iff_ne]; omega
        have c1 : (op == 1) = false := by rw [beq_eq_false_iff_ne]; omega
        have c2 : (op == 2) = false := by rw [beq_eq_false_iff_ne]; omega
        have c3 : (op == 3) = false := by rw [beq_eq_false_iff_ne]; omega
        have c4 : (op == 4) = false := by rw [beq_eq_false_iff_ne]; omega
        have c5 : (op == 5) = false := by rw [beq_eq_false_iff_ne]; omega
        go_wp2_with fail
        go_ret
        exact ⟨ret_bool Hr.out.symm, hF.below⟩
    · have hdk : decide ((k : Int) < (l.length : Int)) = false := by rw [decide_eq_false_iff_not]; omega
      have hke : k = l.length := by omega
      subst hke
      obtain ⟨hU1, hU2⟩ := HU.out
      rw [List.take_length] at hU1
      simp only [List.take_length] at hU2
      have c1 := cell_of_row wr (w.heap.size + 1) 0 _ _ _ hG.ub
      have cu : ∀ j, j < l.length → wr.cell? ⟨w.heap.size, j, none⟩ = some (.int .i64 ((usedS l j : Nat) : Int)) := fun j hj => by
        rw [cell_of_row wr w.heap.size j _ _ _ hG.uses, ← hU2 j]
        simp [List.getD_eq_getElem?_getD, List.getElem?_eq_getElem (show j < us.length by omega)]
      have Hcu := Lib.hid cu
      have HU1 := Lib.hid hU1
      have hbw := hG.below
      simp only [List.getElem?_toArray, List.getElem?_cons_zero] at c1
      rw [hus] at c1
      clear hU1 hU2 HU cu hG
      go_wp2_with fail
      go_loop [80] (fun v => ∃ j : Nat, v = .int .i64 j ∧ (j = 0 ∨ j + 1 ≤ l.length) ∧ Hid (∀ i, i < j → usedS l i = 1)) (fun v => l.length - (intOf v).toNat)
      case atStart => exact ⟨0, rfl, .inl rfl, fun i hi => by omega⟩
      case round =>
        obtain ⟨j, rfl, hj, Hj⟩ := hrel
        by_cases hjl : j + 1 < l.length
        · have hdj : decide ((j : Int) < (l.length : Int) - 1) = true := by rw [decide_eq_true_eq]; omega
          have hcj := Hcu.out j (by omega)
          have hji : (j : Int) < (l.length : Int) := by omega
          by_cases hu1 : usedS l j = 1
          · have hb1 : (((usedS l j : Nat) : Int) != 1) = false := by rw [hu1]; rfl
            have Hj2 : Hid (∀ i, i < j + 1 → usedS l i = 1) := by
              intro i hi
              by_cases e : i = j
              · rw [e]; exact hu1
              · exact Hj.out i (by omega)
            clear hu1
            generalize usedS l j = u at hcj hb1
            go_wp2_with fail
            go_round
            case rel => exact ⟨j + 1, by go_num, .inr (by omega), Hj2⟩
            case measure => simp [intOf]; omega
          · have hb1 : (((usedS l j : Nat) : Int) != 1) = true := by rw [bne_iff_ne]; omega
            have hR : R = false := by
              rw [HR.out]
              unfold formedS
              rw [show (List.range (l.length - 1)).all (fun j => usedS l j == 1) = false from by
                rw [Bool.eq_false_iff, ne_eq, List.all_eq_true]
                intro hall
                have := hall j (List.mem_range.2 (by omega))
                simp at this
                exact hu1 this]
              simp
            have HR2 := Lib.hid hR
            clear hu1 hR
            generalize usedS l j = u at hcj hb1
            go_wp2_with fail
            go_ret
            exact ⟨ret_bool HR2.out.symm, hbw⟩
        · have hdj : decide ((j : Int) < (l.length : Int) - 1) = false := by rw [decide_eq_false_iff_not]; omega
          have hR : R = decide (0 < l.length) := by
            rw [HR.out]
            unfold formedS
            rw [HU1.out, show (List.range (l.length - 1)).all (fun j => usedS l j == 1) = true from by
              rw [List.all_eq_true]
              intro i hi
              have := Hj.out i (by have := List.mem_range.1 hi; omega)
              simpa using this]
            cases l with
            | nil => rfl
            | cons n t => simp
          have HR2 := Lib.hid hR
          clear hR
          by_cases hl0 : 0 < l.length
          · have hd0 : decide ((l.length : Int) > 0) = true := by rw [decide_eq_true_eq]; omega
            go_wp2_with fail
            go_ret
            exact ⟨ret_bool (by rw [HR2.out]; simpa using hl0), hbw⟩
          · have hd0 : decide ((l.length : Int) > 0) = false := by rw [decide_eq_false_iff_not]; omega
            go_wp2_with fail
            go_ret
            exact ⟨ret_bool (by rw [HR2.out]; simpa using hl0), hbw⟩
end Go.Proofs.YtnnbdlmilbcpjaaGreatDoor
