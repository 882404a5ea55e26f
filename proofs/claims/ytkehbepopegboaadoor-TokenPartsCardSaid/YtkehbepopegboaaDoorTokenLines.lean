/-
  TokenLines: its walk: true, whatever comes in.
-/
import Derived.Test.YtkehbepopegboaaDoorAwake
import Derived.Test.YtkehbepopegboaaDoorLinesPlain
import Derived.Deep.RegionHeld3
namespace Go.Proofs.YtkehbepopegboaaDoor
open Go.RowKit
set_option linter.unusedVariables false
theorem info_u8 : (Tryd.prog.info? 5).map (fun i => (i.zero, i.size, i.bytes)) = some (some (.int .u8 0), 1, 1) := by kernel_rfl
def u8s (l : Bytes) : List Value := l.map fun b => Value.int .u8 (b.toNat : Nat)
theorem BytesV.of_row {w : World} {base n : Nat} {v : Value} {l : Bytes} (h : w.ownsRow base 5 1 v n (u8s l)) : n = l.length ∧ ∃ o c, v = .slice o l.length c ∧ BytesV w o c l := by
  have hn : n = l.length := by have := h.1; simp [u8s] at this; omega
  subst hn
  rcases h.2 with ⟨rfl, hz⟩ | ⟨g, cap, cur, rfl, hb, hg, hnc, hcm, hcs, htake⟩
  · have : l = [] := List.length_eq_zero_iff.1 hz
    subst this
    exact ⟨rfl, _, _, rfl, .inl ⟨rfl, by unfold maxLen; omega, fun _ => rfl⟩⟩
  · refine ⟨rfl, _, _, rfl, .inr ⟨g, 0, rfl, hnc, hcm, fun i hi => ?_, lt_of_block hg⟩⟩
    rw [Nat.zero_add]
    refine (h.cellAt i (by omega)).trans ?_
    simp [u8s, List.getElem?_eq_getElem hi]
/-- a token's cells in a row -/
def Five (w : World) (g k : Nat) (t : Tok) (a : Option Addr) (n : Nat) : Prop :=
  w.cell? ⟨g, k * 5, none⟩ = some (.int .i64 t.kind) ∧ w.cell? ⟨g, k * 5 + 1, none⟩ = some (.string ⟨t.name.toArray⟩) ∧ w.cell? ⟨g, k * 5 + 2, none⟩ = some (.string ⟨t.text.toArray⟩) ∧ w.cell? ⟨g, k * 5 + 3, none⟩ = some (.slice a t.attrs.length n) ∧ w.cell? ⟨g, k * 5 + 4, none⟩ = some (.bool t.empty)
theorem cell_keep {w w' : World} {a : Addr} {v : Value} (h : w.cell? a = some v) (hb : Below w.heap.size w w') : w'.cell? a = some v := by
  refine (hb.cell ?_).trans h
  rcases Nat.lt_or_ge a.block w.heap.size with h' | h'
  · exact h'
  · simp [World.cell?, Array.getElem?_eq_none h'] at h
theorem Five.keep {w w' : World} {g k : Nat} {t : Tok} {a : Option Addr} {n : Nat} (h : Five w g k t a n) (hb : Below w.heap.size w w') : Five w' g k t a n :=
  ⟨cell_keep h.1 hb, cell_keep h.2.1 hb, cell_keep h.2.2.1 hb, cell_keep h.2.2.2.1 hb, cell_keep h.2.2.2.2 hb⟩
theorem held_start {w4 w' : World} {g1 g2 k : Nat} {t : Tok} {a1 a2 : Option Addr} {n1 n2 : Nat} (hX : Five w4 g1 k t a1 n1) (hY : Five w4 g2 k t a2 n2) (hb : Below w4.heap.size w4 w') : Below w4.heap.size w4 w' ∧ w'.cell? ⟨g1, k * 5, none⟩ = some (.int .i64 t.kind) ∧ w'.cell? ⟨g1, k * 5 + 1, none⟩ = some (.string ⟨t.name.toArray⟩) ∧ w'.cell? ⟨g1, k * 5 + 2, none⟩ = some (.string ⟨t.text.toArray⟩) ∧ w'.cell? ⟨g1, k * 5 + 3, none⟩ = some (.slice a1 t.attrs.length n1) ∧ w'.cell? ⟨g1, k * 5 + 4, none⟩ = some (.bool t.empty) ∧ w'.cell? ⟨g2, k * 5, none⟩ = some (.int .i64 t.kind) ∧ w'.cell? ⟨g2, k * 5 + 1, none⟩ = some (.string ⟨t.name.toArray⟩) ∧ w'.cell? ⟨g2, k * 5 + 2, none⟩ = some (.string ⟨t.text.toArray⟩) ∧ w'.cell? ⟨g2, k * 5 + 3, none⟩ = some (.slice a2 t.attrs.length n2) ∧ w'.cell? ⟨g2, k * 5 + 4, none⟩ = some (.bool t.empty) := by
  have h1 := hX.keep hb
  have h2 := hY.keep hb
  exact ⟨hb, h1.1, h1.2.1, h1.2.2.1, h1.2.2.2.1, h1.2.2.2.2, h2⟩
theorem bel_next {w0 w' w'' : World} (h : Below w0.heap.size w0 w') (hb : Below w'.heap.size w' w'') : Below w0.heap.size w0 w'' := h.trans (hb.mono h.size)
set_option maxHeartbeats 8000000 in
set_option maxRecDepth 100000 in
theorem tokenLines_any (l : Bytes) (o : Option Addr) (cap : Nat) (how : Int) (w : World) (hv : BytesV w o cap l) (hg : Gl w) :
    Calls Tryd.prog 4 #[.slice o l.length cap, .int .i64 how] w fun e w' => e = .returned (.bool true) ∧ Below w.heap.size w w' := by
  have haw := awake_any w hg
  by_cases h0 : 600 < l.length
  · have hd : decide ((l.length : Int) > 600) = true := by rw [decide_eq_true_eq]; omega
    go_enter Tryd.func4, Tryd.ntmps4
    go_wp2_with fail
    refine haw.mono ?_
    rintro e w1 ⟨rfl, hb⟩
    go_wp2_with fail
    go_ret
    exact ⟨rfl, hb⟩
  · have hd : decide ((l.length : Int) > 600) = false := by rw [decide_eq_false_iff_not]; omega
    by_cases h1 : how < 0
    · have hd1 : decide (how < 0) = true := by rw [decide_eq_true_eq]; omega
      go_enter Tryd.func4, Tryd.ntmps4
      go_wp2_with fail
      refine haw.mono ?_
      rintro e w1 ⟨rfl, hb⟩
      go_wp2_with fail
      go_ret
      exact ⟨rfl, hb⟩
    · have hd1 : decide (how < 0) = false := by rw [decide_eq_false_iff_not]; omega
      by_cases h2 : 1 < how
      · have hd2 : decide (how > 1) = true := by rw [decide_eq_true_eq]; omega
        go_enter Tryd.func4, Tryd.ntmps4
        go_wp2_with fail
        refine haw.mono ?_
        rintro e w1 ⟨rfl, hb⟩
        go_wp2_with fail
        go_ret
        exact ⟨rfl, hb⟩
      · have hd2 : decide (how > 1) = false := by rw [decide_eq_false_iff_not]; omega
        have hh : how = 0 ∨ how = 1 := by omega
        obtain ⟨hw, hhw⟩ : ∃ hw : Bool, hw = decide (how = 1) := ⟨_, rfl⟩
        have hhe : (how == 1) = hw := by rw [hhw]; rcases hh with rfl | rfl <;> rfl
        clear hhw
        clear haw
        go_enter Tryd.func4, Tryd.ntmps4
        go_wp2_with fail
        obtain ⟨i0, hi, hz0, hz1, hz2⟩ := info_parts info_u8
        go_loopg [5, 6] l.length (fun g s5 s6 wr => ∃ (k n : Nat), s6 = .int .i64 k ∧ k ≤ l.length ∧ g = l.length - k ∧ n ≤ 2 * k ∧ Hid (∀ x ∈ l.take k, x ≠ 13) ∧ wr.ownsRow w.heap.size 5 1 s5 n (u8s (crs hw (l.take k))) ∧ Below w.heap.size w wr)
        case atStart => exact ⟨0, 0, rfl, Nat.zero_le _, rfl, by omega, by intro x hx; simp at hx, World.ownsRow_nil w _ _ _, Below.refl _ _⟩
        case round =>
          obtain ⟨k, n, rfl, hk, rfl, hn, Hno, hown, hbe⟩ := hrel
          by_cases hlt : k < l.length
          · obtain ⟨x, hx⟩ : ∃ x, l[k]? = some x := ⟨_, List.getElem?_eq_getElem hlt⟩
            have htk : l.take (k + 1) = l.take k ++ [x] := by rw [List.take_add_one, hx]; rfl
            have hstep : crs hw (l.take (k + 1)) = crs hw (l.take k) ++ crs hw [x] := by rw [htk, crs_append]
            obtain ⟨b, off, rfl, hlc, hcm, hba, hbs⟩ : ∃ b off, o = some ⟨b, off, none⟩ ∧ l.length ≤ cap ∧ cap ≤ maxLen ∧ BytesAt w b off l ∧ b < w.heap.size := by
              rcases hv with ⟨h, _⟩ | h
              · subst h; simp at hlt
              · exact h
            have hcx : wr.cell? ⟨b, off + k, none⟩ = some (.int .u8 (x.toNat : Nat)) := by
              have := (hba.below hbs hbe) k hlt
              rw [List.getD_eq_getElem?_getD, hx] at this
              exact this
            have hdl : decide ((k : Int) < (l.length : Int)) = true := by rw [decide_eq_true_eq]; omega
            by_cases hx13 : x = 13
            · subst hx13
              have haw := awake_any wr (hg.below hg.size hbe)
              go_wp2_with fail
              refine haw.mono ?_
              rintro e w1 ⟨rfl, hb⟩
              go_wp2_with fail
              go_ret
              exact ⟨rfl, hbe.trans (hb.mono hbe.size)⟩
            · have Hno2 : Hid (∀ y ∈ l.take (k + 1), y ≠ 13) := by
                intro y hy
                rw [htk, List.mem_append] at hy
                rcases hy with hy | hy
                · exact Hno.out y hy
                · simp at hy; subst hy; exact hx13
              have hne13 : (((x.toNat : Nat) : Int) == 13) = false := by
                rw [beq_eq_false_iff_ne]; intro e; apply hx13; apply UInt8.toNat_inj.1; show x.toNat = 13; omega
              by_cases hx10 : x = 10
              · subst hx10
                clear Hno hne13 hx13 htk hx
                cases hw with
                | true =>
                  have hst : crs true (l.take (k + 1)) = crs true (l.take k) ++ [13] ++ [10] := by rw [hstep]; simp [crs]
                  clear hstep
                  go_wp2_with (first
                    | (at_builtin; refine wpList_append_own _ rfl (.tmp 50) (.tmp 51) 22 rfl w.heap.size 5 i0 (.int .u8 0) 1 1 Tryd.underlying22 hi hz0 hz1 hz2 rfl (by decide) _ _ _ rfl (hown.alloc _) ⟨wr.heap.size, 0, none⟩ 1 1 [.int .u8 13] rfl rfl (cells_new _ [.int .u8 13] _ _ rfl) (fun z hz => by simp at hz; subst hz; rfl) (by unfold maxLen; omega) (by omega) (by have := hbe.size; simp; omega) ?_; intro v1 w1 hown1 hg1 hnil1; have hsz1 := hg1.size; rw [World.size_alloc] at hsz1)
                    | (at_builtin; refine wpList_append_own _ rfl (.tmp 55) (.tmp 56) 22 rfl w.heap.size 5 i0 (.int .u8 0) 1 1 Tryd.underlying22 hi hz0 hz1 hz2 rfl (by decide) _ _ _ rfl (hown1.alloc _) ⟨w1.heap.size, 0, none⟩ 1 1 [.int .u8 10] rfl rfl (cells_new _ [.int .u8 10] _ _ rfl) (fun z hz => by simp at hz; subst hz; rfl) (by unfold maxLen; omega) (by omega) (by have := hbe.size; simp; omega) ?_; intro v2 w2 hown2 hg2 hnil2)
                    | go_in)
                  go_roundg (l.length - (k + 1))
                  case rel =>
                    refine ⟨k + 1, n + 1 + 1, by go_num, by omega, rfl, by omega, Hno2, ?_, ((((hbe.alloc hbe.size _).grown hg1 (by have := hbe.size; simp; omega) (fun k e => (hown.lt k e).1)).alloc (by have := hbe.size; omega) _).grown hg2 (by have := hbe.size; simp; omega) (fun k e => (hown1.lt k e).1))⟩
                    rw [hst]
                    simpa [u8s] using hown2
                  case measure => omega
                | false =>
                  have hst : crs false (l.take (k + 1)) = crs false (l.take k) ++ [13] := by rw [hstep]; simp [crs]
                  clear hstep
                  go_wp2_with (first
                    | (at_builtin; refine wpList_append_own _ rfl (.tmp 50) (.tmp 51) 22 rfl w.heap.size 5 i0 (.int .u8 0) 1 1 Tryd.underlying22 hi hz0 hz1 hz2 rfl (by decide) _ _ _ rfl (hown.alloc _) ⟨wr.heap.size, 0, none⟩ 1 1 [.int .u8 13] rfl rfl (cells_new _ [.int .u8 13] _ _ rfl) (fun z hz => by simp at hz; subst hz; rfl) (by unfold maxLen; omega) (by omega) (by have := hbe.size; simp; omega) ?_; intro v1 w1 hown1 hg1 hnil1; have hsz1 := hg1.size; rw [World.size_alloc] at hsz1)
                    | go_in)
                  go_roundg (l.length - (k + 1))
                  case rel =>
                    refine ⟨k + 1, n + 1, by go_num, by omega, rfl, by omega, Hno2, ?_, ((hbe.alloc hbe.size _).grown hg1 (by have := hbe.size; simp; omega) (fun k e => (hown.lt k e).1))⟩
                    rw [hst]
                    simpa [u8s] using hown1
                  case measure => omega
              · have hst : crs hw (l.take (k + 1)) = crs hw (l.take k) ++ [x] := by rw [hstep]; simp [crs, hx10]
                have hne10 : (((x.toNat : Nat) : Int) != 10) = true := by
                  rw [bne_iff_ne]; intro e; apply hx10; apply UInt8.toNat_inj.1; show x.toNat = 10; omega
                clear hstep Hno htk hx
                go_wp2_with (first
                  | (at_builtin; refine wpList_append_own _ rfl (.tmp 43) (.tmp 48) 22 rfl w.heap.size 5 i0 (.int .u8 0) 1 1 Tryd.underlying22 hi hz0 hz1 hz2 rfl (by decide) _ _ _ rfl (hown.alloc _) ⟨wr.heap.size, 0, none⟩ 1 1 [.int .u8 (x.toNat : Nat)] rfl rfl (cells_new _ [.int .u8 (x.toNat : Nat)] _ _ rfl) (fun z hz => by simp at hz; subst hz; rfl) (by unfold maxLen; omega) (by omega) (by have := hbe.size; simp; omega) ?_; intro v1 w1 hown1 hg1 hnil1)
                  | go_in)
                go_roundg (l.length - (k + 1))
                case rel =>
                  refine ⟨k + 1, n + 1, by go_num, by omega, rfl, by omega, Hno2, ?_, ((hbe.alloc hbe.size _).grown hg1 (by have := hbe.size; simp; omega) (fun k e => (hown.lt k e).1))⟩
                  rw [hst]
                  simpa [u8s] using hown1
                case measure => omega
          · have hdl : decide ((k : Int) < (l.length : Int)) = false := by rw [decide_eq_false_iff_not]; omega
            have hke : k = l.length := by omega
            subst hke
            rw [List.take_length] at hown
            have hno := Hno.out
            rw [List.take_length] at hno
            obtain ⟨hn1, o2, cap2, rfl, hv2⟩ := BytesV.of_row hown
            have hlaw := lines_law hw hno (by omega)
            have hcl := (crs_length hw l).1
            have ha1 := pieces_any l o cap _ (hv.below hbe) (by omega) (hg.below hg.size hbe)
            have ha2 := fun w1 (hb : Below wr.heap.size wr w1) => pieces_any (crs hw l) o2 cap2 w1 (hv2.below hb) (by omega) ((hg.below hg.size hbe).below (hg.below hg.size hbe).size hb)
            generalize crs hw l = lc at hlaw ha2
            have HL := Lib.hid hlaw
            have HA1 := Lib.hid ha1
            have HA2 := Lib.hid ha2
            clear hlaw ha1 ha2 hown hv2
            have ha1 := HA1.out
            go_wp2_with fail
            refine ha1.mono ?_
            clear ha1 HA1
            rintro e w3 ⟨v1, rfl, hT1, hb1⟩
            have ha2 := HA2.out _ hb1
            clear HA2
            go_wp2_with fail
            refine ha2.mono ?_
            clear ha2
            rintro e w4 ⟨v2, rfl, hT2, hb2⟩
            obtain ⟨g1, g2, g3⟩ := HL.out
            clear HL
            generalize allP lc = rc at hT2 g1 g2 g3 ⊢
            generalize allP l = ra at hT1 g1 g2 g3 ⊢
            obtain ⟨ta, pa, ea⟩ := ra
            obtain ⟨tc, pc, ec⟩ := rc
            simp only at g1 g2 g3 hT1 hT2 ⊢
            subst g1 g2
            have hT1' := hT1.below hb2
            have hbel := hbe.trans ((hb1.mono hbe.size).trans (hb2.mono (by have := hbe.size; have := hb1.size; omega)))
            obtain ⟨o1, c1, rfl⟩ := hT1'.shape
            obtain ⟨o3, c3, rfl⟩ := hT2.shape
            have hee : (ec != ec) = false := by simp
            have hnn : ((tc.length : Int) != (tc.length : Int)) = false := by simp
            have hmid : (ec != 10) = false ∨ ((ec != 10) = true ∧ ((pa : Int) != (pc : Int)) = false) := by
              by_cases e : ec = 10
              · exact .inl (by rw [e]; rfl)
              · exact .inr ⟨by simpa using e, by rcases g3 with h | h; exact absurd h e; simp [h]⟩
            have htl : tc.length ≤ 9223372036854775807 := by obtain ⟨_, _, h2, _⟩ := hT1; exact ownsRow_len h2
            have hgw := hg.below hg.size hbel
            rcases hmid with hmid | ⟨hmid, hmid2⟩
            all_goals
              go_wp2_with fail
              go_loopw [13] (fun i wq => ∃ k : Nat, i = .int .i64 k ∧ k ≤ tc.length ∧ Below w4.heap.size w4 wq) (fun i _ => tc.length - (intOf i).toNat)
              case atStart => exact ⟨0, rfl, Nat.zero_le _, Below.refl _ _⟩
              case round =>
                obtain ⟨k, rfl, hk, hbq⟩ := hrel
                by_cases hlt : k < tc.length
                · obtain ⟨t, ht⟩ : ∃ t, tc[k]? = some t := ⟨_, List.getElem?_eq_getElem hlt⟩
                  have hdk : decide ((k : Int) < (tc.length : Int)) = true := by rw [decide_eq_true_eq]; omega
                  obtain ⟨g1, a1, n1, rfl, hA1, x0, x1, x2, x3, x4⟩ := hT1'.at ht
                  obtain ⟨g2, a2, n2, rfl, hA2, y0, y1, y2, y3, y4⟩ := hT2.at ht
                  have hX : Five w4 g1 k t a1 n1 := ⟨x0, x1, x2, x3, x4⟩
                  have hY : Five w4 g2 k t a2 n2 := ⟨y0, y1, y2, y3, y4⟩
                  clear x0 x1 x2 x3 x4 y0 y1 y2 y3 y4
                  have hA1a := fun w' (hb : Below w4.heap.size w4 w') => hA1.below hb
                  have hA2a := fun w' (hb : Below w4.heap.size w4 w') => hA2.below hb
                  go_wp2_with fail
                  have hbd := hbq.drew
                  go_region_held3 (fun w' => Below w4.heap.size w4 w' ∧ w'.cell? ⟨g1, k * 5, none⟩ = some (.int .i64 t.kind) ∧ w'.cell? ⟨g1, k * 5 + 1, none⟩ = some (.string ⟨t.name.toArray⟩) ∧ w'.cell? ⟨g1, k * 5 + 2, none⟩ = some (.string ⟨t.text.toArray⟩) ∧ w'.cell? ⟨g1, k * 5 + 3, none⟩ = some (.slice a1 t.attrs.length n1) ∧ w'.cell? ⟨g1, k * 5 + 4, none⟩ = some (.bool t.empty) ∧ w'.cell? ⟨g2, k * 5, none⟩ = some (.int .i64 t.kind) ∧ w'.cell? ⟨g2, k * 5 + 1, none⟩ = some (.string ⟨t.name.toArray⟩) ∧ w'.cell? ⟨g2, k * 5 + 2, none⟩ = some (.string ⟨t.text.toArray⟩) ∧ w'.cell? ⟨g2, k * 5 + 3, none⟩ = some (.slice a2 t.attrs.length n2) ∧ w'.cell? ⟨g2, k * 5 + 4, none⟩ = some (.bool t.empty)) (exact held_start hX hY (by assumption))
                    (first
                      | (go_at_call 8; refine (plain_any t _ _ _ _).mono ?_; rintro e w'' ⟨rfl, hbn⟩; have hbw := bel_next (w0 := w4) (by assumption) hbn)
                      | (go_at_call 7; refine (same_eq t _ _ _ _ _ _ _ (hA1a _ (by assumption)) (hA2a _ (by assumption))).mono ?_; rintro e w'' ⟨rfl, hbn⟩; have hbw := bel_next (w0 := w4) (by assumption) hbn))
                  go_wp2_with fail
                  go_roundw
                  case rel => exact ⟨k + 1, by go_num, by omega, by assumption⟩
                  case measure => simp [intOf]; omega
                · have hdk : decide ((k : Int) < (tc.length : Int)) = false := by rw [decide_eq_false_iff_not]; omega
                  have haw := awake_any _ (hgw.below hgw.size hbq)
                  go_wp2_with fail
                  refine haw.mono ?_
                  rintro e w9 ⟨rfl, hb9⟩
                  go_wp2_with fail
                  go_ret
                  exact ⟨rfl, hbel.trans ((hbq.mono hbel.size).trans (hb9.mono (by have := hbel.size; have := hbq.size; omega)))⟩
end Go.Proofs.YtkehbepopegboaaDoor
