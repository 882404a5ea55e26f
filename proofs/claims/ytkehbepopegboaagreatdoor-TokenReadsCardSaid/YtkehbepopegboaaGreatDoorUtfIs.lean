/-
  utf.Is answers whether a number is a character: the walk of its loop over the table of spans. Condition: the table lies in memory as the program lays it.
-/
import Derived.Test.YtkehbepopegboaaGreatDoorBase
import Derived.Test.YtkehbepopegboaaGreatDoorPlain
namespace Go.Proofs.YtkehbepopegboaaGreatDoor
open Go.RowKit
theorem within_any (lo hi r : Int) (b : Nat) (w : World) (hb : b < w.heap.size) (hr : w.cell? ⟨b, 0, none⟩ = some (.int .i32 r)) :
    Calls Tryz.prog 58 #[.agg #[.int .i32 lo, .int .i32 hi], .pointer (some ⟨b, 0, none⟩)] w fun e w' => e = .returned (.bool (decide (lo ≤ r) && decide (r ≤ hi))) ∧ Below w.heap.size w w' := by
  have h1 : ∀ o, (w.alloc o).cell? ⟨b, 0, none⟩ = some (.int .i32 r) := fun o => by rw [World.cell?_alloc_past _ _ _ hb]; exact hr
  go_enter Tryz.func58, Tryz.ntmps58
  go_wp2
  all_goals
    go_ret
    exact ⟨ret_bool (by first | rfl | (simp; omega)), (Below.refl _ _).alloc (Nat.le_refl _) _⟩
def spanNums : List Int := [9, 10, 13, 13, 32, 55295, 57344, 65533, 65536, 1114111]
/-- the table of spans, in memory -/
def Spans (w : World) : Prop := ∀ i, i < 10 → w.cell? ⟨0, i, none⟩ = some (.int .i32 (spanNums.getD i 0))
theorem index_span (k : Nat) (hk : k < 5) (w : World) : (Instr.index 111 (.agg #[.int .i32 9, .int .i32 10, .int .i32 13, .int .i32 13, .int .i32 32, .int .i32 55295, .int .i32 57344, .int .i32 65533, .int .i32 65536, .int .i32 1114111]) (.int .i64 k)).run Tryz.prog w = .ok (.agg #[.int .i32 (los.getD k 0), .int .i32 (his.getD k 0)]) w := by
  rcases (by omega : k = 0 ∨ k = 1 ∨ k = 2 ∨ k = 3 ∨ k = 4) with rfl | rfl | rfl | rfl | rfl <;> kernel_rfl
def noSpan (r : Int) (k : Nat) : Prop := ∀ j, j < k → inSpan r j = false
theorem isCh_of {r : Int} {k : Nat} (hk : k < 5) (h : inSpan r k = true) : isCh r = true := by
  unfold isCh
  rcases (by omega : k = 0 ∨ k = 1 ∨ k = 2 ∨ k = 3 ∨ k = 4) with rfl | rfl | rfl | rfl | rfl <;> simp [h]
set_option maxRecDepth 100000 in
theorem is_any (r : Int) (w : World) (h0 : 0 < w.heap.size) (hs : Spans w) : Calls Tryz.prog 37 #[.int .i32 r] w fun e w' => e = .returned (.bool (isCh r)) ∧ Below w.heap.size w w' := by
  have c0 := hs 0 (by omega)
  have c1 := hs 1 (by omega)
  have c2 := hs 2 (by omega)
  have c3 := hs 3 (by omega)
  have c4 := hs 4 (by omega)
  have c5 := hs 5 (by omega)
  have c6 := hs 6 (by omega)
  have c7 := hs 7 (by omega)
  have c8 := hs 8 (by omega)
  have c9 := hs 9 (by omega)
  simp only [spanNums, List.getD_cons_zero, List.getD_cons_succ] at c0 c1 c2 c3 c4 c5 c6 c7 c8 c9
  clear hs
  go_enter Tryz.func37, Tryz.ntmps37
  go_wp2_with fail
  clear c0 c1 c2 c3 c4 c5 c6 c7 c8 c9
  go_loopw [8] (fun i wr => ∃ k : Nat, k ≤ 5 ∧ i = .int .i64 k ∧ noSpan r k ∧ wr.cell? ⟨w.heap.size, 0, none⟩ = some (.int .i32 r) ∧ Below w.heap.size w wr ∧ w.heap.size < wr.heap.size) (fun i _ => 5 - (intOf i).toNat)
  case atStart => exact ⟨0, by omega, rfl, by intro j hj; omega, by simp, (Below.refl _ _).alloc (Nat.le_refl _) _, by simp⟩
  case round =>
    obtain ⟨k, hk, rfl, hno, hc, hbel, hsz⟩ := hrel
    have hno' := Lib.hid hno
    clear hno
    by_cases hlt : k < 5
    · have hi := index_span k hlt
      generalize hlo : los.getD k 0 = lo at hi
      generalize hhi : his.getD k 0 = hiv at hi
      have Hlo := Lib.hid hlo
      have Hhi := Lib.hid hhi
      clear hlo hhi
      go_wp2_with fail
      refine (within_any lo hiv r w.heap.size _ (by simp; omega) (by rw [World.cell?_alloc_past _ _ _ hsz]; exact hc)).mono ?_
      rintro e w' ⟨rfl, hb⟩
      generalize hq : (decide (lo ≤ r) && decide (r ≤ hiv)) = q
      have Hq := Lib.hid hq
      clear hq
      have hb2 : Below w.heap.size w w' := (hbel.alloc (by omega) _).trans (hb.mono (by simp; omega))
      have hc2 : w'.cell? ⟨w.heap.size, 0, none⟩ = some (.int .i32 r) := by
        rw [hb.cell (by simp; omega), World.cell?_alloc_past _ _ _ hsz]; exact hc
      have hsz2 : w.heap.size < w'.heap.size := by have := hb.size; simp at this; omega
      cases q with
      | true =>
        go_wp2_with fail
        go_ret
        refine ⟨ret_bool ?_, hb2⟩
        have h1 : inSpan r k = true := by unfold inSpan; rw [Hlo.out, Hhi.out]; exact Hq.out
        exact (isCh_of (by omega) h1).symm
      | false =>
        go_wp2_with fail
        go_roundw
        case rel =>
          refine ⟨k + 1, by omega, by go_num, ?_, hc2, hb2, hsz2⟩
          intro j hj
          by_cases e : j = k
          · subst e; unfold inSpan; rw [Hlo.out, Hhi.out]; exact Hq.out
          · exact hno'.out j (by omega)
        case measure => simp [intOf]; omega
    · go_wp2_with fail
      go_ret
      obtain rfl : k = 5 := by omega
      have h := hno'.out
      refine ⟨ret_bool ?_, hbel⟩
      unfold isCh
      rw [h 0 (by omega), h 1 (by omega), h 2 (by omega), h 3 (by omega), h 4 (by omega)]; rfl
end Go.Proofs.YtkehbepopegboaaGreatDoor
