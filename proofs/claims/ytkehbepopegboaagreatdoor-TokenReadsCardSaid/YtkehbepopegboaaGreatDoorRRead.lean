/-
  The document's answer, layer 1: the character at the beginning of bytes, and all of them: walks, for every row of bytes in memory.
-/
import Derived.Test.YtkehbepopegboaaGreatDoorRIs
import Derived.Test.YtkehbepopegboaaGreatDoorRReadPlain
import Derived.Test.YtkehbepopegboaaGreatDoorCheck
import Derived.Deep.QuietTactic
namespace Go.Proofs.YtkehbepopegboaaGreatDoor
open Go.RowKit
set_option linter.unusedVariables false
/-- what Read answers -/
def rdV : Option (Int × Nat) → Value
  | none => .tuple #[.int .i64 0, .int .i64 0]
  | some (r, k) => .tuple #[.int .i64 r, .int .i64 k]
theorem numZ_bd (l : Bytes) (s k : Nat) (hk : k ≤ 3) : -63447168 ≤ numZ l s k ∧ numZ l s k ≤ 67375167 := by
  obtain ⟨h0, h1, h2, h3⟩ := numZ_le l s
  have : k = 0 ∨ k = 1 ∨ k = 2 ∨ k = 3 := by omega
  rcases this with rfl | rfl | rfl | rfl <;> omega
theorem step_eq {a l : Bytes} {j : Nat} (h : a.take j = l.take j) (ha : j < a.length) (hl : j < l.length) : decide (a.take (j + 1) = l.take (j + 1)) = (((a.getD j 0).toNat : Int) == ((l.getD j 0).toNat : Int)) := by
  rw [List.take_add_one, List.take_add_one, h, List.getElem?_eq_getElem ha, List.getElem?_eq_getElem hl, Bool.eq_iff_iff]
  simp only [List.getD_eq_getElem?_getD, List.getElem?_eq_getElem ha, List.getElem?_eq_getElem hl, Option.getD_some, Option.toList_some, List.append_cancel_left_eq, List.cons.injEq, and_true, decide_eq_true_eq, beq_iff_eq]
  constructor
  · intro h; rw [h]
  · intro h; exact UInt8.toNat_inj.1 (by omega)
set_option maxHeartbeats 4000000 in
set_option maxRecDepth 100000 in
theorem rRead_any (b off cap : Nat) (l : Bytes) (w : World) (hcap : l.length ≤ cap) (hm : cap ≤ 9223372036854775807) (hc : BytesAt w b off l) (hb : b < w.heap.size) :
    Calls Tryz.prog 15 #[.slice (some ⟨b, off, none⟩) l.length cap] w fun e w' => e = .returned (rdV (dec l)) ∧ Below w.heap.size w w' := by
  go_enter Tryz.func15, Tryz.ntmps15
  go_wp2_with fail
  go_loopw [4] (fun v wr => ∃ s : Nat, v = .int .i64 s ∧ 1 ≤ s ∧ s ≤ 5 ∧ Below w.heap.size w wr ∧ Hid (∀ j, j < s → ∀ r, dec l ≠ some (r, j))) (fun v _ => 5 - (intOf v).toNat)
  case atStart => exact ⟨1, rfl, by omega, by omega, Below.refl _ _, fun j hj r h => by have := dec_len h; omega⟩
  case round =>
    obtain ⟨s, rfl, h1, h5, hbe, Hno⟩ := hrel
    by_cases hlt : s ≤ 4 ∧ s ≤ l.length
    · obtain ⟨h4, hl⟩ := hlt
      have hcr := hc.below hb hbe
      have hc0 : wr.cell? ⟨b, off, none⟩ = some (.int .u8 ((l.getD 0 0).toNat : Nat)) := by simpa using hcr 0 (by omega)
      have hu0 := (l.getD 0 0).toNat_lt
      have hz0 : numZ l s 0 = ((l.getD 0 0).toNat : Nat) - offZ s := rfl
      have Hz0 := Lib.hid hz0
      clear hz0
      generalize hx0 : (l.getD 0 0).toNat = x0 at hc0 hu0 Hz0
      clear hx0
      obtain ⟨S, hS⟩ : ∃ S : Nat, S = s := ⟨_, rfl⟩
      have Hc : Hid (∀ i, i < l.length → wr.cell? ⟨b, off + i, none⟩ = some (.int .u8 ((l.getD i 0).toNat : Nat))) := hcr
      clear hcr
      rw [← hS] at Hz0
      have hSl : S ≤ l.length := by omega
      have hs4 : s = 1 ∨ s = 2 ∨ s = 3 ∨ s = 4 := by omega
      rcases hs4 with rfl | rfl | rfl | rfl
      all_goals
        have hS1 := Nat.le_of_eq hS
        have hS2 := Nat.le_of_eq hS.symm
        have HS := Lib.hid hS
        clear hS
        go_wp2_with fail
        go_loop [5, 6] (fun n i => ∃ k : Nat, i = .int .i64 ((k + 1 : Nat) : Int) ∧ k + 1 ≤ S ∧ n = .int .i64 (numZ l S k)) (fun _ i => 5 - (intOf i).toNat)
        case atStart => exact ⟨0, rfl, by omega, by rw [Hz0.out, HS.out]; rfl⟩
        case round =>
          obtain ⟨k, rfl, hk, rfl⟩ := hrel
          by_cases hks : k + 1 < S
          · have hck := Hc.out (k + 1) (by omega)
            have hbd := numZ_bd l S k (by omega)
            have hz : Hid (numZ l S (k + 1) = 64 * numZ l S k + ((l.getD (k + 1) 0).toNat : Nat) - 128) := rfl
            have huk := (l.getD (k + 1) 0).toNat_lt
            generalize (l.getD (k + 1) 0).toNat = xk at hck hz huk
            generalize numZ l S k = a at hbd hz ⊢
            go_wp2_with fail
            all_goals
              go_round
              case rel => exact ⟨k + 1, by go_num, by omega, by rw [hz.out]⟩
              case measure => simp [intOf]; omega
          · obtain ⟨n, hn⟩ : ∃ n, n = numZ l S k := ⟨_, rfl⟩
            have hnk : n = numZ l S (S - 1) := by rw [hn, show S - 1 = k by omega]
            rw [← hn]
            have hbd := numZ_bd l S k (by omega)
            rw [← hn] at hbd
            have Hn := Lib.hid hnk
            clear hn hnk Hz0 hc0
            have hno2 : ¬ (isCh n = true ∧ Lib.encodeRune n = l.take S) → ∀ j, j < S + 1 → ∀ r, dec l ≠ some (r, j) := by
              intro hh j hj r hd
              by_cases e : j = S
              · subst e
                obtain ⟨d1, d2, d3⟩ := dec_enc hd
                rw [← Hn.out] at d3
                subst d3
                exact hh ⟨d1, d2⟩
              · exact Hno.out j (by have := HS.out; omega) r hd
            have Hno2 := Lib.hid hno2
            clear hno2
            cases hch : isCh n with
            | false =>
              have hci := rIs_any n wr
              rw [hch] at hci
              have Hno3 : Hid (∀ j, j < S + 1 → ∀ r, dec l ≠ some (r, j)) := Hno2.out (by rw [hch]; simp)
              clear hch
              go_wp2_with fail
              refine hci.mono ?_
              rintro e w' ⟨rfl, rfl⟩
              clear hci
              go_wp2_with fail
              go_roundw
              case rel => exact ⟨S + 1, by rw [HS.out]; rfl, by omega, by omega, hbe, Hno3⟩
              case measure => simp [intOf]
            | true =>
              have hci := rIs_any n wr
              rw [hch] at hci
              have hby := rBytes_any n hch wr
              have hE : (Lib.runeCells n).length = (Lib.encodeRune n).length := by rw [← Lib.byteCells_encodeRune, Lib.byteCells_length]
              have hEc : ∀ j, j < (Lib.encodeRune n).length → (wr.alloc (.cells (Lib.runeCells n).toArray 5)).cell? ⟨wr.heap.size, j, none⟩ = some (.int .u8 (((Lib.encodeRune n).getD j 0).toNat : Nat)) := by
                intro j hj
                rw [cell_of_row _ wr.heap.size j _ _ _ (heap_alloc_new wr _), ← Lib.byteCells_encodeRune]
                simp [Lib.byteCells, List.getElem?_eq_getElem hj]
              have hE4 := encodeRune_le n
              rw [hE] at hby
              have Htry : Hid (Lib.encodeRune n = l.take S → dec l = some (n, S)) := fun he => dec_try hch he hSl
              have Hch := Lib.hid hch
              clear hch hE
              have hbw1 : Below wr.heap.size wr (wr.alloc (.cells (Lib.runeCells n).toArray 5)) := (Below.refl _ _).alloc (Nat.le_refl _) _
              have hbe1 := hbe.trans (hbw1.mono hbe.size)
              have hcb : ∀ j, j < l.length → (wr.alloc (.cells (Lib.runeCells n).toArray 5)).cell? ⟨b, off + j, none⟩ = some (.int .u8 ((l.getD j 0).toNat : Nat)) := by
                intro j hj
                rw [hbw1.cell (p := ⟨b, off + j, none⟩) (by have := hbe.size; show b < _; omega)]; exact Hc.out j hj
              have HEc := Lib.hid hEc
              have Hcb := Lib.hid hcb
              clear hEc hcb
              generalize hEn : Lib.encodeRune n = E at *
              clear hEn
              go_wp2_with fail
              refine hci.mono ?_
              rintro e w' ⟨rfl, rfl⟩
              clear hci
              go_wp2_with fail
              refine hby.mono ?_
              rintro e w' ⟨rfl, rfl⟩
              clear hby
              generalize wr.alloc (.cells (Lib.runeCells n).toArray 5) = w1 at *
              by_cases hme : E.length = S
              · have hmb : ∀ z : Int, z = ((S : Nat) : Int) → ((E.length : Int) == z) = true := fun z hz => by rw [beq_iff_eq]; omega
                have Hmb := Lib.hid hmb
                clear hmb
                first
                  | have hm1 := Hmb.out 1 (by omega)
                  | have hm1 := Hmb.out 2 (by omega)
                  | have hm1 := Hmb.out 3 (by omega)
                  | have hm1 := Hmb.out 4 (by omega)
                have hm2 := Nat.le_of_eq hme
                have hm3 := Nat.le_of_eq hme.symm
                have Hme := Lib.hid hme
                clear hme
                go_wp2_with fail
                go_loopw [8, 9] (fun v i wq => ∃ (j nq : Nat), i = .int .i64 j ∧ j ≤ E.length ∧ v = .bool (decide (E.take j = l.take j)) ∧ wq = w1.drewN nq) (fun _ i _ => 5 - (intOf i).toNat)
                case atStart => exact ⟨0, 0, rfl, by omega, by simp, rfl⟩
                case round =>
                  obtain ⟨j, nq, rfl, hj, rfl, rfl⟩ := hrel
                  by_cases htk : E.take j = l.take j
                  · rw [decide_eq_true htk]
                    by_cases hjE : j < E.length
                    · have e1 := HEc.out j hjE
                      have e2 := Hcb.out j (by omega)
                      have hst := step_eq htk hjE (by omega)
                      have Hst := Lib.hid hst
                      clear hst
                      have Htk := Lib.hid htk
                      clear htk
                      have hji : (j : Int) < (E.length : Int) := by omega
                      have hjl : (j : Int) < (l.length : Int) := by omega
                      generalize (E.getD j 0).toNat = x at e1 Hst
                      generalize (l.getD j 0).toNat = y at e2 Hst
                      go_wp2_with fail
                      go_quiet (fail)
                      go_wp2_with fail
                      go_roundw
                      case rel => exact ⟨j + 1, _, by go_num, by omega, by rw [Hst.out], rfl⟩
                      case measure => simp [intOf]; omega
                    · have hjd : decide ((j : Int) < (E.length : Int)) = false := by rw [decide_eq_false_iff_not]; omega
                      have hje : E.take j = E := List.take_of_length_le (by omega)
                      have hd := Htry.out (by rw [← hje, htk]; congr 1; have := Hme.out; omega)
                      have Hd := Lib.hid hd
                      clear hd hje htk
                      go_wp2_with fail
                      go_ret2
                      refine ⟨?_, below_drewN hbe1 _⟩
                      rw [Hd.out, HS.out]
                      rfl
                  · rw [decide_eq_false htk]
                    have Hno3 : Hid (∀ j, j < S + 1 → ∀ r, dec l ≠ some (r, j)) := Hno2.out (by
                      intro hh; apply htk; rw [hh.2, List.take_take]; congr 1; have := Hme.out; omega)
                    clear htk
                    go_wp2_with fail
                    all_goals
                      go_roundw
                      case rel => exact ⟨S + 1, by rw [HS.out]; rfl, by omega, by omega, below_drewN hbe1 _, Hno3⟩
                      case measure => simp [intOf]
              · have hmb : ∀ z : Int, z = ((S : Nat) : Int) → ((E.length : Int) == z) = false := fun z hz => by rw [beq_eq_false_iff_ne]; omega
                have Hmb := Lib.hid hmb
                clear hmb
                first
                  | have hm1 := Hmb.out 1 (by omega)
                  | have hm1 := Hmb.out 2 (by omega)
                  | have hm1 := Hmb.out 3 (by omega)
                  | have hm1 := Hmb.out 4 (by omega)
                have Hno3 : Hid (∀ j, j < S + 1 → ∀ r, dec l ≠ some (r, j)) := Hno2.out (by intro hh; apply hme; rw [hh.2, List.length_take]; omega)
                go_wp2_with fail
                go_loopw [8, 9] (fun v i wq => v = .bool false ∧ i = .int .i64 0 ∧ wq = w1) (fun _ i _ => 0)
                case atStart => exact ⟨rfl, rfl, rfl⟩
                case round =>
                  obtain ⟨rfl, rfl, rfl⟩ := hrel
                  go_wp2_with fail
                  all_goals
                    go_roundw
                    case rel => exact ⟨S + 1, by rw [HS.out]; rfl, by omega, by omega, hbe1, Hno3⟩
                    case measure => simp [intOf]
    · have hno : dec l = none := by
        cases hd : dec l with
        | none => rfl
        | some z =>
          obtain ⟨r, k⟩ := z
          have := dec_len hd
          exact absurd hd (Hno.out k (by omega) r)
      have Hn := Lib.hid hno
      clear hno
      by_cases h4 : s ≤ 4
      · have hl : l.length < s := by omega
        have hd1 : decide ((s : Int) ≤ 4) = true := by rw [decide_eq_true_eq]; omega
        have hd2 : decide ((s : Int) ≤ (l.length : Int)) = false := by rw [decide_eq_false_iff_not]; omega
        go_wp2_with fail
        go_ret2
        exact ⟨by rw [Hn.out]; rfl, hbe⟩
      · have hd1 : decide ((s : Int) ≤ 4) = false := by rw [decide_eq_false_iff_not]; omega
        go_wp2_with fail
        go_ret2
        exact ⟨by rw [Hn.out]; rfl, hbe⟩
end Go.Proofs.YtkehbepopegboaaGreatDoor
