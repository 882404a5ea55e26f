/-
  Layer 9 (schema): what is wrong with a schema: the walk of Check. Conditions: what comes in is bounded.
-/
import Derived.Test.YtnnbdlmilbcpjaaGreatDoorSAsk7
namespace Go.Proofs.YtnnbdlmilbcpjaaGreatDoor
open Go.RowKit
set_option linter.unusedVariables false
theorem chkS_none {l : List SType} (h : ∀ k, k < 10 → askE l k = 0) : chkS l = 0 := by
  have h0 := h 0 (by omega)
  have h1 := h 1 (by omega)
  have h2 := h 2 (by omega)
  have h3 := h 3 (by omega)
  have h4 := h 4 (by omega)
  have h5 := h 5 (by omega)
  have h6 := h 6 (by omega)
  have h7 := h 7 (by omega)
  have h8 := h 8 (by omega)
  have h9 := h 9 (by omega)
  simp only [askE] at h0 h1 h2 h3 h4 h5 h6 h7 h8 h9
  unfold chkS
  rw [show (fun t : SType => t.text && (!t.nodes.isEmpty || !t.key.isEmpty)) = formB from rfl]
  split at h0
  · cases h0
  rename_i g0
  rw [if_neg g0]
  split at h1
  · cases h1
  rename_i g1
  rw [if_neg g1]
  split at h2
  · cases h2
  rename_i g2
  rw [if_neg g2]
  split at h3
  · cases h3
  rename_i g3
  rw [if_neg g3]
  split at h4
  · cases h4
  rename_i g4
  rw [if_neg g4]
  split at h5
  · cases h5
  rename_i g5
  rw [if_neg g5, if_neg (by simpa using h6)]
  split at h7
  · cases h7
  rename_i g7
  rw [if_neg g7]
  split at h8
  · cases h8
  rename_i g8
  rw [if_neg g8]
  split at h9
  · cases h9
  rename_i g9
  rw [if_neg g9]
theorem chkS_some {l : List SType} {k : Nat} (hk : k < 10) (h : ∀ j, j < k → askE l j = 0) (hn : askE l k ≠ 0) : chkS l = askE l k := by
  have cond : ∀ j, j < k → askE l j = 0 := h
  unfold chkS
  rw [show (fun t : SType => t.text && (!t.nodes.isEmpty || !t.key.isEmpty)) = formB from rfl]
  have step : ∀ (p : Prop) [Decidable p] (a : Int), (if p then a else 0) = 0 → a ≠ 0 → ¬ p := fun p _ a h ha hp => by rw [if_pos hp] at h; exact ha h
  have stepn : ∀ (p : Prop) [Decidable p] (a : Int), (if p then a else 0) ≠ 0 → p := fun p _ a h => by by_cases hp : p; exact hp; rw [if_neg hp] at h; exact absurd rfl h
  obtain rfl | rfl | rfl | rfl | rfl | rfl | rfl | rfl | rfl | rfl : k = 0 ∨ k = 1 ∨ k = 2 ∨ k = 3 ∨ k = 4 ∨ k = 5 ∨ k = 6 ∨ k = 7 ∨ k = 8 ∨ k = 9 := by omega
  · have g := stepn _ _ hn
    rw [if_pos g]; exact (if_pos g).symm
  all_goals rw [if_neg (step _ _ (h 0 (by omega)) (by decide))]
  · have g := stepn _ _ hn
    rw [if_pos g]; exact (if_pos g).symm
  all_goals rw [if_neg (step _ _ (h 1 (by omega)) (by decide))]
  · have g := stepn _ _ hn
    rw [if_pos g]; exact (if_pos g).symm
  all_goals rw [if_neg (step _ _ (h 2 (by omega)) (by decide))]
  · have g := stepn _ _ hn
    rw [if_pos g]; exact (if_pos g).symm
  all_goals rw [if_neg (step _ _ (h 3 (by omega)) (by decide))]
  · have g := stepn _ _ hn
    rw [if_pos g]; exact (if_pos g).symm
  all_goals rw [if_neg (step _ _ (h 4 (by omega)) (by decide))]
  · have g := stepn _ _ hn
    rw [if_pos g]; exact (if_pos g).symm
  all_goals rw [if_neg (step _ _ (h 5 (by omega)) (by decide))]
  · rw [if_pos (show contentE l ≠ 0 from hn)]; rfl
  all_goals rw [if_neg (show ¬ contentE l ≠ 0 from fun h6 => h6 (h 6 (by omega)))]
  · have g := stepn _ _ hn
    rw [if_pos g]; exact (if_pos g).symm
  all_goals rw [if_neg (step _ _ (h 7 (by omega)) (by decide))]
  · have g := stepn _ _ hn
    rw [if_pos g]; exact (if_pos g).symm
  all_goals rw [if_neg (step _ _ (h 8 (by omega)) (by decide))]
  · have g := stepn _ _ hn
    rw [if_pos g]; exact (if_pos g).symm
set_option maxRecDepth 100000 in
theorem enter_askF (k : Nat) (hk : k < 10) : ∀ args wz, (callFunc (askF k) args).run Tryz.prog wz = .ok (.enter (askF k) args) wz := by
  obtain rfl | rfl | rfl | rfl | rfl | rfl | rfl | rfl | rfl | rfl : k = 0 ∨ k = 1 ∨ k = 2 ∨ k = 3 ∨ k = 4 ∨ k = 5 ∨ k = 6 ∨ k = 7 ∨ k = 8 ∨ k = 9 := by omega
  all_goals exact fun _ _ => rfl
set_option maxHeartbeats 2000000 in
set_option maxRecDepth 100000 in
theorem check_any (l : List TyV) (o : Option Addr) (cap : Nat) (w : World) (h : TypesAt w o cap l) (hL : Lim l) :
    Calls Tryz.prog 14 #[.agg #[.slice o l.length cap]] w fun e w' => e = .returned (.int .i64 (chkS (l.map TyV.t))) ∧ Below w.heap.size w w' := by
  have hb0 : Below w.heap.size w (w.alloc (.cells #[.slice o l.length cap] 24)) := (Below.refl _ w).alloc (Nat.le_refl _) _
  have ha := asks_any l o cap _ (h.below hb0) hL
  obtain ⟨R, hR⟩ : ∃ R, R = chkS (l.map TyV.t) := ⟨_, rfl⟩
  rw [← hR]
  obtain ⟨ts, hts⟩ : ∃ ts, ts = l.map TyV.t := ⟨_, rfl⟩
  rw [← hts] at ha hR
  have HR := Lib.hid hR
  clear hR hts h hL
  go_enter Tryz.func14, Tryz.ntmps14
  go_wp2_with fail
  refine ha.mono ?_
  rintro e w2 ⟨⟨G, S, Q, rfl, hG, hfn⟩, hb2⟩
  have hbe := bel_next hb0 hb2
  clear ha hb0 hb2
  go_wp2_with fail
  go_loopw [9] (fun v wr => ∃ k : Nat, v = .int .i64 k ∧ k ≤ 10 ∧ Below w2.heap.size w2 wr ∧ Hid (∀ j, j < k → askE ts j = 0)) (fun v _ => 10 - (intOf v).toNat)
  case atStart => exact ⟨0, rfl, by omega, Below.refl _ _, fun j hj => absurd hj (by omega)⟩
  case round =>
    obtain ⟨k, rfl, hk, hbr, Hno⟩ := hrel
    by_cases hlt : k < 10
    · have hdk : decide ((k : Int) < 10) = true := by rw [decide_eq_true_eq]; omega
      have b1 : (0 : Int) ≤ (k : Int) := by omega
      have b2 : (k : Int) < 10 := by omega
      obtain ⟨hc, hcall⟩ := hfn k hlt
      have hc2 := (hbr.cell (p := ⟨G, k, none⟩) hG).trans hc
      have hcl := hcall wr hbr
      have hen := enter_askF k hlt
      have hch := fun hn => chkS_some (l := ts) (k := k) hlt Hno.out hn
      obtain ⟨E, hE⟩ : ∃ E, E = askE ts k := ⟨_, rfl⟩
      rw [← hE] at hch hcl
      generalize askF k = F at hc2 hcl hen
      generalize askC S Q k = C at hc2 hcl
      have hf2 := hfn
      clear hfn hc hcall
      by_cases h0 : E = 0
      · subst h0
        have Hno2 : Hid (∀ j, j < k + 1 → askE ts j = 0) := fun j hj => by
          by_cases e : j = k
          · subst e; exact hE.symm
          · exact Hno.out j (by omega)
        have Hf2 := Lib.hid hf2
        clear hch hE Hno hf2
        go_wp2_with fail
        refine hcl.mono ?_
        rintro e w3 ⟨rfl, hb3⟩
        clear hcl
        have hbe3 := bel_next hbr hb3
        go_wp2_with fail
        go_roundw
        case rel => exact ⟨k + 1, by go_num, by omega, hbe3, Hno2⟩
        case measure => simp [intOf]; omega
      · have hR : R = E := by rw [HR.out]; exact hch h0
        have HRE := Lib.hid hR
        have hne : (E != 0) = true := by rw [bne_iff_ne]; exact h0
        have hne2 : (E == 0) = false := by rw [beq_eq_false_iff_ne]; exact h0
        clear hch hE hR h0 hf2
        go_wp2_with fail
        refine hcl.mono ?_
        rintro e w3 ⟨rfl, hb3⟩
        clear hcl
        have hbe3 := bel_next hbr hb3
        go_wp2_with fail
        go_ret
        exact ⟨ret_int HRE.out.symm, bel_next hbe hbe3⟩
    · have hdk : decide ((k : Int) < 10) = false := by rw [decide_eq_false_iff_not]; omega
      have hR : R = 0 := by rw [HR.out]; exact chkS_none fun j hj => Hno.out j (by omega)
      have HRE := Lib.hid hR
      clear hR hfn
      go_wp2_with fail
      go_ret
      exact ⟨ret_int HRE.out.symm, bel_next hbe hbr⟩
end Go.Proofs.YtnnbdlmilbcpjaaGreatDoor
