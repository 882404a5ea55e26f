/-
  Layer 7 (regex): what is wrong with a regular expression: the walk of Check.
-/
import Derived.Test.YtnnbdlmilbcpjaaGreatDoorSRegex
namespace Go.Proofs.YtnnbdlmilbcpjaaGreatDoor
open Go.RowKit
set_option linter.unusedVariables false
set_option maxHeartbeats 1000000 in
set_option maxRecDepth 100000 in
theorem regexCheck_any (l : List SNode) (o : Option Addr) (cap : Nat) (w : World) (h : NodesAt w o cap l) (hs : ∀ n ∈ l, n.sym.length ≤ 1048576) :
    Calls Tryz.prog 29 #[.agg #[.slice o l.length cap]] w fun e w' => e = .returned (.int .i64 (regexE l)) ∧ Below w.heap.size w w' := by
  obtain ⟨R, hR⟩ : ∃ R, R = regexE l := ⟨_, rfl⟩
  rw [← hR]
  unfold regexE at hR
  have hlm := h.2.1
  have hcm := h.2.2.1
  unfold maxLen at hcm
  by_cases h1 : 1024 < l.length
  · rw [if_pos h1] at hR
    have HR := Lib.hid hR
    have hd : decide ((l.length : Int) > 1024) = true := by rw [decide_eq_true_eq]; omega
    clear hR
    go_enter Tryz.func29, Tryz.ntmps29
    go_wp2_with fail
    go_ret
    exact ⟨ret_int HR.out.symm, (Below.refl _ w).alloc (Nat.le_refl _) _⟩
  · rw [if_neg h1] at hR
    have hd : decide ((l.length : Int) > 1024) = false := by rw [decide_eq_false_iff_not]; omega
    have hb0 : Below w.heap.size w (w.alloc (.cells #[.slice o l.length cap] 45)) := (Below.refl _ w).alloc (Nat.le_refl _) _
    have hbx := heap_alloc_new w (.cells #[.slice o l.length cap] 45)
    have hz0 : (w.alloc (.cells #[.slice o l.length cap] 45)).heap.size = w.heap.size + 1 := World.size_alloc w _
    have hfm := formed_any l o cap _ (h.below hb0) (by omega)
    cases hf : formedS l with
    | false =>
      rw [if_pos hf] at hR
      rw [hf] at hfm
      have HR := Lib.hid hR
      clear hR hf hz0
      go_enter Tryz.func29, Tryz.ntmps29
      go_wp2_with fail
      refine hfm.mono ?_
      rintro e w2 ⟨rfl, hb2⟩
      clear hfm
      have hbe := hb0.trans (hb2.mono hb0.size)
      go_wp2_with fail
      go_ret
      exact ⟨ret_int HR.out.symm, hbe⟩
    | true =>
      rw [if_neg (by rw [hf]; simp)] at hR
      rw [hf] at hfm
      have HR := Lib.hid hR
      clear hR hf
      go_enter Tryz.func29, Tryz.ntmps29
      go_wp2_with fail
      refine hfm.mono ?_
      rintro e w2 ⟨rfl, hb2⟩
      clear hfm
      have hbe := hb0.trans (hb2.mono hb0.size)
      have hbx2 := (hb2.block w.heap.size (by omega)).trans hbx
      have cx := cell_of_row w2 w.heap.size 0 _ _ _ hbx2
      clear hbx hbx2 hb0 hb2 hz0
      go_wp2_with fail
      go_loopw [16] (fun v wr => ∃ k : Nat, v = .int .i64 k ∧ k ≤ l.length ∧ Below w.heap.size w wr ∧ Hid ((l.take k).any (fun n => decide (n.op = 2) && !isName n.sym) = false)) (fun v _ => l.length - (intOf v).toNat)
      case atStart => exact ⟨0, rfl, Nat.zero_le _, hbe, rfl⟩
      case round =>
        obtain ⟨k, rfl, hk, hbr, Hno⟩ := hrel
        by_cases hlt : k < l.length
        · have hdk : decide ((k : Int) < (l.length : Int)) = true := by rw [decide_eq_true_eq]; omega
          have hki : (k : Int) < (l.length : Int) := by omega
          obtain ⟨n, hx⟩ : ∃ n, l[k]? = some n := ⟨_, List.getElem?_eq_getElem hlt⟩
          obtain ⟨b, off, rfl, hbl, x0, x1, x2, x3⟩ := (h.below hbr).at hx
          have htk : (l.take (k + 1)).any (fun n => decide (n.op = 2) && !isName n.sym) = (decide (n.op = 2) && !isName n.sym) := by
            rw [List.take_add_one, hx, Option.toList_some, List.any_append, Hno.out]; simp
          have hsn := hs n (List.mem_of_getElem? hx)
          have hnm := fun w => names_Is ⟨n.sym.toArray⟩ w (by rw [Lib.size_eq]; show n.sym.length ≤ _; omega)
          simp only at hnm
          have hall : (decide (n.op = 2) && !isName n.sym) = true → R = 11 := fun hh => by
            rw [HR.out, if_pos]
            rw [List.any_eq_true]
            exact ⟨n, List.mem_of_getElem? hx, hh⟩
          obtain ⟨op, sym, a, b2⟩ := n
          simp only at x0 x1 x2 x3 htk hnm hall hsn
          have hb3 := hbr.alloc hbr.size (.cells #[.int .i64 op, .string ⟨sym.toArray⟩, .int .i64 a, .int .i64 b2] 70)
          clear hx hsn
          by_cases ho : op = 2
          · subst ho
            cases hn : isName sym with
            | true =>
              rw [hn] at hnm htk
              have Htk := Lib.hid htk
              clear htk hall hn
              go_wp2_with fail
              refine (hnm _).mono ?_
              rintro e w3 ⟨rfl, hb4⟩
              clear hnm
              have hbe3 := hb3.trans (hb4.mono hb3.size)
              go_wp2_with fail
              go_roundw
              case rel => exact ⟨k + 1, by go_num, by omega, hbe3, Htk.out⟩
              case measure => simp [intOf]; omega
            | false =>
              rw [hn] at hnm hall
              have Hall := Lib.hid (hall rfl)
              clear htk hall hn
              go_wp2_with fail
              refine (hnm _).mono ?_
              rintro e w3 ⟨rfl, hb4⟩
              clear hnm
              have hbe3 := hb3.trans (hb4.mono hb3.size)
              go_wp2_with fail
              go_ret
              exact ⟨ret_int Hall.out.symm, hbe3⟩
          · have bo : (op == 2) = false := by rw [beq_eq_false_iff_ne]; exact ho
            rw [decide_eq_false ho] at htk
            have Htk := Lib.hid htk
            clear htk hall hnm
            go_wp2_with fail
            go_roundw
            case rel => exact ⟨k + 1, by go_num, by omega, hb3, Htk.out⟩
            case measure => simp [intOf]; omega
        · have hdk : decide ((k : Int) < (l.length : Int)) = false := by rw [decide_eq_false_iff_not]; omega
          have hR : R = 0 := by
            have := Hno.out
            rw [List.take_of_length_le (by omega)] at this
            rw [HR.out, if_neg (by rw [this]; simp)]
          have HR2 := Lib.hid hR
          clear hR
          go_wp2_with fail
          go_ret
          exact ⟨ret_int HR2.out.symm, hbr⟩
end Go.Proofs.YtnnbdlmilbcpjaaGreatDoor
