/-
  TokenReads: its walk: true, whatever comes in.
-/
import Derived.Test.YtkehbepopegboaaGreatDoorRAll
namespace Go.Proofs.YtkehbepopegboaaGreatDoor
open Go.RowKit
set_option linter.unusedVariables false
set_option maxHeartbeats 8000000 in
set_option maxRecDepth 100000 in
theorem tokenReads_any (l : Bytes) (o : Option Addr) (cap : Nat) (w : World) (hv : BytesV w o cap l) (hg : Gl w) :
    Calls Tryz.prog 3 #[.slice o l.length cap] w fun e w' => e = .returned (.bool true) ∧ Below w.heap.size w w' := by
  by_cases h0 : 600 < l.length
  · have haw := awake_any w hg
    have hd : decide ((l.length : Int) > 600) = true := by rw [decide_eq_true_eq]; omega
    go_enter Tryz.func3, Tryz.ntmps3
    go_wp2_with fail
    refine haw.mono ?_
    rintro e w1 ⟨rfl, hb⟩
    go_wp2_with fail
    go_ret
    exact ⟨rfl, hb⟩
  · have hd : decide ((l.length : Int) > 600) = false := by rw [decide_eq_false_iff_not]; omega
    obtain ⟨hlaw1, hlaw2⟩ := reads_law (b := l) (by omega)
    have hA1 := pieces_any l o cap w hv (by omega) hg
    have hP := fun w1 (hb : Below w.heap.size w w1) => rPlace_any l o cap w1 (hv.below hb) (by omega)
    have hL := fun w1 (hb : Below w.heap.size w w1) => rLines_any l o cap w1 (hv.below hb) (by omega)
    have hll := lines_len l.length l (Nat.le_refl _)
    have hokl := okT_lines l.length l (Nat.le_refl _)
    have HP := Lib.hid hP
    have HL := Lib.hid hL
    have hchk := chk_le l
    clear hP hL
    by_cases hc : chk l < l.length
    · rw [hlaw1 hc] at hA1
      clear hlaw1 hlaw2 hokl
      have hcd : decide (((chk l : Nat) : Int) < (l.length : Int)) = true := by rw [decide_eq_true_eq]; omega
      generalize chk l = c at hA1 HP hcd hc hchk
      go_enter Tryz.func3, Tryz.ntmps3
      go_wp2_with fail
      refine hA1.mono ?_
      clear hA1
      rintro e w1 ⟨v1, rfl, hT1, hb1⟩
      obtain ⟨q1, k1, rfl⟩ := hT1.shape
      simp only [List.length_nil]
      have hP := HP.out _ hb1
      clear HP HL
      go_wp2_with fail
      refine hP.mono ?_
      clear hP
      intro e w2 hpost
      obtain ⟨⟨v2, rfl⟩, hb2⟩ := hpost
      have hbe := hb1.trans (hb2.mono hb1.size)
      have haw := awake_any w2 (hg.below hg.size hbe)
      go_wp2_with fail
      refine haw.mono ?_
      rintro e w3 ⟨rfl, hb3⟩
      go_wp2_with fail
      go_ret
      exact ⟨rfl, hbe.trans (hb3.mono hbe.size)⟩
    · have hlaw := hlaw2 hc
      have hok := hokl (by unfold okT; omega)
      have hcl : chk l = l.length := by omega
      have hcd : decide (((l.length : Nat) : Int) < (l.length : Int)) = false := by rw [decide_eq_false_iff_not]; omega
      rw [hcl] at HP
      clear hlaw1 hlaw2 hokl hchk hc hcl
      obtain ⟨s, hs⟩ : ∃ s : ByteArray, s = ⟨(lines l).toArray⟩ := ⟨_, rfl⟩
      have hsd : s.data.toList = lines l := by rw [hs]
      have hsz : s.size = (lines l).length := by rw [Lib.size_eq, hsd]
      have hR := fun w1 => rAll_any s w1 (by omega) (by rw [hsd]; exact hok)
      rw [hsd, hsz] at hR
      rw [← hs] at HL
      clear hs hsd hsz hok hll
      generalize allR ((lines l).length + 1) true 0 [] (lines l) = res at hR hlaw
      have HR := Lib.hid hR
      clear hR
      cases res with
      | inl p =>
        simp only at hlaw
        rw [hlaw] at hA1
        clear hlaw
        have hpd : decide ((p : Int) ≥ 0) = true := by rw [decide_eq_true_eq]; omega
        have hpd2 : decide (0 ≤ (p : Int)) = true := by rw [decide_eq_true_eq]; omega
        go_enter Tryz.func3, Tryz.ntmps3
        go_wp2_with fail
        refine hA1.mono ?_
        clear hA1
        rintro e w1 ⟨v1, rfl, hT1, hb1⟩
        obtain ⟨q1, k1, rfl⟩ := hT1.shape
        simp only [List.length_nil]
        have hP := HP.out _ hb1
        clear HP
        go_wp2_with fail
        refine hP.mono ?_
        clear hP
        intro e w2 hpost
        obtain ⟨⟨v2, rfl⟩, hb2⟩ := hpost
        have hbe := hb1.trans (hb2.mono hb1.size)
        have hL := HL.out _ hbe
        clear HL
        go_wp2_with fail
        refine hL.mono ?_
        clear hL
        rintro e w3 ⟨rfl, hb3⟩
        have hbe3 := hbe.trans (hb3.mono hbe.size)
        have hR := HR.out w3
        clear HR
        go_wp2_with fail
        refine hR.mono ?_
        clear hR
        intro e w4 hpost
        obtain ⟨rfl, hb4⟩ := hpost
        have hbe4 := hbe3.trans (hb4.mono hbe3.size)
        have haw := awake_any w4 (hg.below hg.size hbe4)
        go_wp2_with fail
        refine haw.mono ?_
        rintro e w5 ⟨rfl, hb5⟩
        go_wp2_with fail
        go_ret
        exact ⟨rfl, hbe4.trans (hb5.mono hbe4.size)⟩
      | inr ts =>
        simp only at hlaw
        rw [hlaw] at hA1
        clear hlaw
        go_enter Tryz.func3, Tryz.ntmps3
        go_wp2_with fail
        refine hA1.mono ?_
        clear hA1
        rintro e w1 ⟨v1, rfl, hT1, hb1⟩
        obtain ⟨q1, k1, rfl⟩ := hT1.shape
        have hP := HP.out _ hb1
        clear HP
        go_wp2_with fail
        refine hP.mono ?_
        clear hP
        intro e w2 hpost
        obtain ⟨⟨v2, rfl⟩, hb2⟩ := hpost
        have hbe := hb1.trans (hb2.mono hb1.size)
        have hT2 := hT1.below hb2
        have hL := HL.out _ hbe
        clear HL hT1
        go_wp2_with fail
        refine hL.mono ?_
        clear hL
        rintro e w3 ⟨rfl, hb3⟩
        have hbe3 := hbe.trans (hb3.mono hbe.size)
        have hT3 := hT2.below hb3
        have hR := HR.out w3
        clear HR hT2
        go_wp2_with fail
        refine hR.mono ?_
        clear hR
        intro e w4 hpost
        obtain ⟨⟨v4, rfl, hU4⟩, hb4⟩ := hpost
        have hbe4 := hbe3.trans (hb4.mono hbe3.size)
        have hT4 := hT3.below hb4
        obtain ⟨q4, k4, rfl⟩ := hU4.shape
        have htl : ts.length ≤ 9223372036854775807 := by obtain ⟨_, _, h2, _⟩ := hT3; exact ownsRow_len h2
        have hnn : ((ts.length : Int) != (ts.length : Int)) = false := by simp
        have hgw := hg.below hg.size hbe4
        clear hT3
        have HT4 := Lib.hid hT4
        have HU4 := Lib.hid hU4
        clear hT4 hU4
        go_wp2_with fail
        go_loopw [10] (fun i wq => ∃ k : Nat, i = .int .i64 k ∧ k ≤ ts.length ∧ Below w4.heap.size w4 wq) (fun i _ => ts.length - (intOf i).toNat)
        case atStart => exact ⟨0, rfl, Nat.zero_le _, Below.refl _ _⟩
        case round =>
          obtain ⟨k, rfl, hk, hbq⟩ := hrel
          by_cases hlt : k < ts.length
          · obtain ⟨t, ht⟩ : ∃ t, ts[k]? = some t := ⟨_, List.getElem?_eq_getElem hlt⟩
            have hdk : decide ((k : Int) < (ts.length : Int)) = true := by rw [decide_eq_true_eq]; omega
            have hki : (k : Int) < (ts.length : Int) := by omega
            obtain ⟨g1, a1, n1, rfl, hA1, x0, x1, x2, x3, x4⟩ := HT4.out.at ht
            obtain ⟨g2, a2, n2, rfl, hA2, y0, y1, y2, y3, y4⟩ := HU4.out.at ht
            have hX : Five w4 g1 k t a1 n1 := ⟨x0, x1, x2, x3, x4⟩
            have hY : Five w4 g2 k t a2 n2 := ⟨y0, y1, y2, y3, y4⟩
            clear x0 x1 x2 x3 x4 y0 y1 y2 y3 y4
            have hA1a := fun w' (hb : Below w4.heap.size w4 w') => hA1.below hb
            have hA2a := fun w' (hb : Below w4.heap.size w4 w') => hA2.below hb
            have Ht := Lib.hid ht
            clear ht
            go_wp2_with fail
            have hbd := hbq.drew
            go_region_held3 (fun w' => Below w4.heap.size w4 w' ∧ w'.cell? ⟨g1, k * 5, none⟩ = some (.int .i64 t.kind) ∧ w'.cell? ⟨g1, k * 5 + 1, none⟩ = some (.string ⟨t.name.toArray⟩) ∧ w'.cell? ⟨g1, k * 5 + 2, none⟩ = some (.string ⟨t.text.toArray⟩) ∧ w'.cell? ⟨g1, k * 5 + 3, none⟩ = some (.slice a1 t.attrs.length n1) ∧ w'.cell? ⟨g1, k * 5 + 4, none⟩ = some (.bool t.empty) ∧ w'.cell? ⟨g2, k * 5, none⟩ = some (.int .i64 t.kind) ∧ w'.cell? ⟨g2, k * 5 + 1, none⟩ = some (.string ⟨t.name.toArray⟩) ∧ w'.cell? ⟨g2, k * 5 + 2, none⟩ = some (.string ⟨t.text.toArray⟩) ∧ w'.cell? ⟨g2, k * 5 + 3, none⟩ = some (.slice a2 t.attrs.length n2) ∧ w'.cell? ⟨g2, k * 5 + 4, none⟩ = some (.bool t.empty)) (exact held_start hX hY (by assumption))
              (first
                | (go_at_call 10; refine (plain_any t _ _ _ _).mono ?_; rintro e w'' ⟨rfl, hbn⟩; have hbw := bel_next (w0 := w4) (by assumption) hbn)
                | (go_at_call 9; refine (same_eq t _ _ _ _ _ _ _ (hA1a _ (by assumption)) (hA2a _ (by assumption))).mono ?_; rintro e w'' ⟨rfl, hbn⟩; have hbw := bel_next (w0 := w4) (by assumption) hbn))
            go_wp2_with fail
            go_roundw
            case rel => exact ⟨k + 1, by go_num, by omega, by assumption⟩
            case measure => simp [intOf]; omega
          · have hdk : decide ((k : Int) < (ts.length : Int)) = false := by rw [decide_eq_false_iff_not]; omega
            have haw := awake_any _ (hgw.below hgw.size hbq)
            go_wp2_with fail
            refine haw.mono ?_
            rintro e w9 ⟨rfl, hb9⟩
            go_wp2_with fail
            go_ret
            exact ⟨rfl, hbe4.trans ((hbq.mono hbe4.size).trans (hb9.mono (by have := hbe4.size; have := hbq.size; omega)))⟩
end Go.Proofs.YtkehbepopegboaaGreatDoor
