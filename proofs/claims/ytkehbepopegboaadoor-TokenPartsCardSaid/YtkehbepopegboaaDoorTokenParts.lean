/-
  TokenParts: its walk: true, whatever comes in.
-/
import Derived.Test.YtkehbepopegboaaDoorTokenLines
import Derived.Test.YtkehbepopegboaaDoorPartsPlain
import Derived.Laws.AppendOwnNone
import Derived.Deep.DeepMust
namespace Go.Proofs.YtkehbepopegboaaDoor
open Go.RowKit
set_option linter.unusedVariables false
/-- 'append(s, x...)', s the call's own, x a slice of bytes that came in -/
theorem wpList_append_bytes {ops : Array Oper} {rest : List Oper} {oo : Oper} {ac : Act} {Q : Exit → Act → World → Prop} (w : World) (hgd : oo.guard = none) (s x : Operand)
    (ho : oo.op = .call { callee := .builtin .append, args := #[s, x], argTypes := #[22, 22] }) (base : Nat) (v : Value) (n : Nat) (xs : List Value) (hs : ac.eval s = v) (hown : w.ownsRow base 5 1 v n xs)
    (o : Option Addr) (c : Nat) (l : Bytes) (hv : BytesV w o c l) (hx : ac.eval x = .slice o l.length c) (hn : n + l.length ≤ 1048576) (hbase : base ≤ w.heap.size)
    (h : ∀ v' w', w'.ownsRow base 5 1 v' (n + l.length) (xs ++ u8s l) → w.grownBy w' v.ownBlock → wpList Tryd.prog ops Q rest (ac.put oo.dst v') w') : wpList Tryd.prog ops Q (oo :: rest) ac w := by
  obtain ⟨i0, hi, hz0, hz1, hz2⟩ := info_parts info_u8
  cases o with
  | none =>
    rcases hv with ⟨rfl, hc, hz⟩ | ⟨b, off, e, _⟩
    · have hz := hz rfl
      subst hz
      refine wpList_append_own_none hgd s x _ ho base _ i0 1 Tryd.underlying22 hi v n xs hs hown hx ?_
      refine h v w ?_ ⟨rfl, rfl, rfl, Nat.le_refl _, fun _ _ _ => rfl⟩
      simpa [u8s] using hown
    · cases e
  | some a =>
    have hcell : ∀ j u, (u8s l)[j]? = some u → w.cell? (a.add j) = some u := by
      intro j u hj
      rcases hv with ⟨rfl, _⟩ | ⟨b, off, e, _, _, hb, _⟩
      · simp [u8s] at hj
      · cases e
        have hjl : j < l.length := by have := (List.getElem?_eq_some_iff.1 hj).1; simpa [u8s] using this
        have e1 : (⟨b, off, none⟩ : Addr).add j = ⟨b, off + j, none⟩ := by
          by_cases h0 : j = 0
          · subst h0; simp [Addr.add]
          · simp [Addr.add, h0]
        rw [e1, hb j hjl, ← hj]
        simp [u8s, List.getElem?_eq_getElem hjl]
    refine wpList_append_own w hgd s x _ ho base _ i0 (.int .u8 0) 1 1 Tryd.underlying22 hi hz0 hz1 hz2 rfl (by decide) v n xs hs hown a l.length c (u8s l) hx (by simp [u8s]) hcell (fun z hz => ?_) (by unfold maxLen; omega) (by omega) hbase ?_
    · simp only [u8s, List.mem_map] at hz
      obtain ⟨y, _, rfl⟩ := hz
      rfl
    · intro v' w' h1 h2 _
      exact h v' w' h1 h2
/-- the end of each way on which nothing is asked: the chapter's example -/
theorem toks_head {w : World} {B : Nat} {o : Option Addr} {c : Nat} {l : List Tok} (h : ToksAt w B (.slice o l.length c) l) {t : Tok} (ht : l.head? = some t) : ∃ g, o = some ⟨g, 0, none⟩ ∧ w.cell? ⟨g, 0, none⟩ = some (.int .i64 t.kind) := by
  obtain ⟨g, ao, ac, e, _, c0, _⟩ := h.at (k := 0) (t := t) (by rw [← List.head?_eq_getElem?]; exact ht)
  exact ⟨g, e, by simpa using c0⟩
theorem toks_last {w : World} {B n : Nat} {o : Option Addr} {c : Nat} {l : List Tok} (h : ToksAt w B (.slice o l.length c) l) (hn : l.length = n + 1) {t : Tok} (ht : l.getLast? = some t) : ∃ g, o = some ⟨g, 0, none⟩ ∧ w.cell? ⟨g, n * 5, none⟩ = some (.int .i64 t.kind) := by
  obtain ⟨g, ao, ac, e, _, c0, _⟩ := h.at (k := n) (t := t) (by rw [List.getLast?_eq_getElem?, hn] at ht; exact ht)
  exact ⟨g, e, c0⟩
theorem kind_ne {a b : Nat} (h : a ≠ b) : (((a : Nat) : Int) == ((b : Nat) : Int)) = false := by
  rw [beq_eq_false_iff_ne]; omega
theorem held_two {w5 w' : World} {g3 g i j : Nat} {t : Tok} {a3 a : Option Addr} {n3 n : Nat} (hX : Five w5 g3 i t a3 n3) (hY : Five w5 g j t a n) (hb : Below w5.heap.size w5 w') : Below w5.heap.size w5 w' ∧ w'.cell? ⟨g3, i * 5, none⟩ = some (.int .i64 t.kind) ∧ w'.cell? ⟨g3, i * 5 + 1, none⟩ = some (.string ⟨t.name.toArray⟩) ∧ w'.cell? ⟨g3, i * 5 + 2, none⟩ = some (.string ⟨t.text.toArray⟩) ∧ w'.cell? ⟨g3, i * 5 + 3, none⟩ = some (.slice a3 t.attrs.length n3) ∧ w'.cell? ⟨g3, i * 5 + 4, none⟩ = some (.bool t.empty) ∧ w'.cell? ⟨g, j * 5, none⟩ = some (.int .i64 t.kind) ∧ w'.cell? ⟨g, j * 5 + 1, none⟩ = some (.string ⟨t.name.toArray⟩) ∧ w'.cell? ⟨g, j * 5 + 2, none⟩ = some (.string ⟨t.text.toArray⟩) ∧ w'.cell? ⟨g, j * 5 + 3, none⟩ = some (.slice a t.attrs.length n) ∧ w'.cell? ⟨g, j * 5 + 4, none⟩ = some (.bool t.empty) := by
  have h1 := hX.keep hb
  have h2 := hY.keep hb
  exact ⟨hb, h1.1, h1.2.1, h1.2.2.1, h1.2.2.2.1, h1.2.2.2.2, h2⟩
set_option maxHeartbeats 8000000 in
set_option maxRecDepth 100000 in
theorem tokenParts_any (la lb : Bytes) (o1 o2 : Option Addr) (c1 c2 : Nat) (w : World) (hv1 : BytesV w o1 c1 la) (hv2 : BytesV w o2 c2 lb) (hg : Gl w) :
    Calls Tryd.prog 3 #[.slice o1 la.length c1, .slice o2 lb.length c2] w fun e w' => e = .returned (.bool true) ∧ Below w.heap.size w w' := by
  have haw := awake_any w hg
  by_cases h1 : 300 < la.length
  · have hd1 : decide ((la.length : Int) > 300) = true := by rw [decide_eq_true_eq]; omega
    go_enter Tryd.func3, Tryd.ntmps3
    go_wp2_with fail
    refine haw.mono ?_
    rintro e w1 ⟨rfl, hb⟩
    go_wp2_with fail
    go_ret
    exact ⟨rfl, hb⟩
  have hd1 : decide ((la.length : Int) > 300) = false := by rw [decide_eq_false_iff_not]; omega
  by_cases h2 : 300 < lb.length
  · have hd2 : decide ((lb.length : Int) > 300) = true := by rw [decide_eq_true_eq]; omega
    go_enter Tryd.func3, Tryd.ntmps3
    go_wp2_with fail
    refine haw.mono ?_
    rintro e w1 ⟨rfl, hb⟩
    go_wp2_with fail
    go_ret
    exact ⟨rfl, hb⟩
  have hd2 : decide ((lb.length : Int) > 300) = false := by rw [decide_eq_false_iff_not]; omega
  clear haw
  have hA1 := pieces_any la o1 c1 w hv1 (by omega) hg
  have hA2 := fun w1 (hb : Below w.heap.size w w1) => pieces_any lb o2 c2 w1 (hv2.below hb) (by omega) (hg.below hg.size hb)
  have hlaw := fun (p : (allP la).2.2 = 0) (q : (allP lb).2.2 = 0) => parts_law (a := la) (b := lb) (by rw [List.length_append]; omega) p q
  have HA2 := Lib.hid hA2
  have HL := Lib.hid hlaw
  clear hA2 hlaw
  go_enter Tryd.func3, Tryd.ntmps3
  go_wp2_with fail
  refine hA1.mono ?_
  clear hA1
  rintro e w1 ⟨v1, rfl, hT1, hb1⟩
  have hA2 := HA2.out _ hb1
  clear HA2
  go_wp2_with fail
  refine hA2.mono ?_
  clear hA2
  rintro e w2 ⟨v2, rfl, hT2, hb2⟩
  have hL := HL.out
  clear HL
  generalize allP la = ra at hT1 hL ⊢
  generalize allP lb = rb at hT2 hL ⊢
  obtain ⟨ta, pa, ea⟩ := ra
  obtain ⟨tb, pb, eb⟩ := rb
  simp only at hL hT1 hT2 ⊢
  have HL := Lib.hid hL
  clear hL
  have hT1 := hT1.below hb2
  have hbe := hb1.trans (hb2.mono hb1.size)
  have hg2 := hg.below hg.size hbe
  obtain ⟨q1, k1, rfl⟩ := hT1.shape
  obtain ⟨q2, k2, rfl⟩ := hT2.shape
  have haw := awake_any w2 hg2
  by_cases e1 : ea = 0
  case neg =>
    have hd3 : (ea != 0) = true := by simpa using e1
    go_wp2_with fail
    refine haw.mono ?_
    rintro e w9 ⟨rfl, hb⟩
    go_wp2_with fail
    go_ret
    exact ⟨rfl, hbe.trans (hb.mono hbe.size)⟩
  subst e1
  by_cases e2 : eb = 0
  case neg =>
    have hd3 : (eb != 0) = true := by simpa using e2
    go_wp2_with fail
    refine haw.mono ?_
    rintro e w9 ⟨rfl, hb⟩
    go_wp2_with fail
    go_ret
    exact ⟨rfl, hbe.trans (hb.mono hbe.size)⟩
  subst e2
  cases hta : ta.getLast? with
  | none =>
    have hz : ta = [] := by simpa using hta
    subst hz
    go_wp2_with fail
    refine haw.mono ?_
    rintro e w9 ⟨rfl, hb⟩
    go_wp2_with fail
    go_ret
    exact ⟨rfl, hbe.trans (hb.mono hbe.size)⟩
  | some tl =>
  obtain ⟨na, hna⟩ : ∃ na, ta.length = na + 1 := ⟨ta.length - 1, by have : ta ≠ [] := fun e => (by subst e; cases hta); have := List.length_pos_iff.2 this; omega⟩
  have hne1 : (((na + 1 : Nat) : Int) == 0) = false := by rw [beq_eq_false_iff_ne]; omega
  have hne1' : ((na : Int) + 1 == 0) = false := by rw [beq_eq_false_iff_ne]; omega
  have hwr : wrap64 (na : Int) = (na : Int) := by
    obtain ⟨_, _, hrow, _⟩ := hT1
    have hlen := ownsRow_len hrow
    unfold maxLen at hlen
    exact IntWalk.wrap64_in _ (by omega)
  obtain ⟨g1, rfl, cl⟩ := toks_last hT1 hna hta
  cases htb : tb.head? with
  | none =>
    have hz : tb = [] := by simpa using htb
    subst hz
    rw [hna] at *
    go_wp2_with fail
    refine haw.mono ?_
    rintro e w9 ⟨rfl, hb⟩
    go_wp2_with fail
    go_ret
    exact ⟨rfl, hbe.trans (hb.mono hbe.size)⟩
  | some th =>
  obtain ⟨nb, hnb⟩ : ∃ nb, tb.length = nb + 1 := ⟨tb.length - 1, by have : tb ≠ [] := fun e => (by subst e; cases htb); have := List.length_pos_iff.2 this; omega⟩
  have hne2 : (((nb + 1 : Nat) : Int) == 0) = false := by rw [beq_eq_false_iff_ne]; omega
  have hne2' : ((nb : Int) + 1 == 0) = false := by rw [beq_eq_false_iff_ne]; omega
  obtain ⟨g2, rfl, ch⟩ := toks_head hT2 htb
  rw [hna] at hT1
  rw [hnb] at hT2
  by_cases h5 : th.kind = 1
  case pos =>
    have hd5 : ((th.kind : Int) == 1) = true := by rw [h5]; rfl
    rw [hna, hnb]
    go_wp2_with fail
    refine haw.mono ?_
    rintro e w9 ⟨rfl, hb⟩
    go_wp2_with fail
    go_ret
    exact ⟨rfl, hbe.trans (hb.mono hbe.size)⟩
  have hd5 : ((th.kind : Int) == 1) = false := kind_ne (b := 1) h5
  by_cases h6 : tl.kind = 4
  case pos =>
    have hd6 : ((tl.kind : Int) == 4) = true := by rw [h6]; rfl
    rw [hna, hnb]
    go_wp2_with fail
    refine haw.mono ?_
    rintro e w9 ⟨rfl, hb⟩
    go_wp2_with fail
    go_ret
    exact ⟨rfl, hbe.trans (hb.mono hbe.size)⟩
  have hd6 : ((tl.kind : Int) == 4) = false := kind_ne (b := 4) h6
  by_cases h7 : th.kind = 4
  case pos =>
    have hd7 : ((th.kind : Int) == 4) = true := by rw [h7]; rfl
    rw [hna, hnb]
    go_wp2_with fail
    refine haw.mono ?_
    rintro e w9 ⟨rfl, hb⟩
    go_wp2_with fail
    go_ret
    exact ⟨rfl, hbe.trans (hb.mono hbe.size)⟩
  have hd7 : ((th.kind : Int) == 4) = false := kind_ne (b := 4) h7
  clear haw
  have hlaw : allP (la ++ lb) = (ta ++ tb, 0, 0) := HL.out rfl rfl (fun e => by subst e; cases hta) (fun t h => by rw [htb] at h; cases h; exact h5) (fun t h => by rw [hta] at h; cases h; exact h6)
  clear HL
  have hlen5 : (la ++ lb).length ≤ 65536 := by rw [List.length_append]; omega
  have hu : u8s la ++ u8s lb = u8s (la ++ lb) := by simp [u8s]
  obtain ⟨lab, hlab⟩ : ∃ lab, lab = la ++ lb := ⟨_, rfl⟩
  rw [← hlab] at hlaw hlen5 hu
  clear hlab
  have hown0 := World.ownsRow_nil w2 w2.heap.size 5 1
  rw [hna, hnb]
  go_wp2_with (first
    | (at_builtin; refine wpList_append_bytes _ rfl (.tmp 78) (.tmp 79) rfl w2.heap.size (.slice none 0 0) 0 [] rfl hown0 o1 c1 la (hv1.below hbe) rfl (by omega) (Nat.le_refl _) ?_; intro v3 w3 hown3 hg3; have hbe3 := (Below.refl w2.heap.size w2).grown hg3 (Nat.le_refl _) (fun k e => by simp [Value.ownBlock] at e); have hv2b := hv2.below (hbe.trans (hbe3.mono hbe.size)))
    | (at_builtin; go_must (refine wpList_append_bytes _ rfl (.tmp 81) (.tmp 82) rfl w2.heap.size v3 _ _ rfl hown3 o2 c2 lb hv2b rfl (by omega) hbe3.size ?_; intro v4 w4 hown4 hg4; have hbe4 := hbe3.grown hg4 hbe3.size (fun k e => (hown3.lt k e).1); have hbx := hbe.trans (hbe4.mono hbe.size); rw [List.nil_append, hu] at hown4; obtain ⟨hn4, o4, c4, rfl, hv4⟩ := BytesV.of_row hown4)))
  have hA5 := pieces_any lab o4 c4 w4 hv4 (by omega) (hg.below hg.size hbx)
  rw [hlaw] at hA5
  refine hA5.mono ?_
  clear hA5
  rintro e w5 ⟨v5, rfl, hT5, hb5⟩
  have hbe5 : Below w2.heap.size w2 w5 := hbe4.trans (hb5.mono hbe4.size)
  have hby := hbe.trans (hbe5.mono hbe.size)
  have hU1 := hT1.below hbe5
  have hU2 := hT2.below hbe5
  simp only at hT5
  have hl5 : (ta ++ tb).length = na + 1 + (nb + 1) := by rw [List.length_append, hna, hnb]
  obtain ⟨q5, k5, rfl⟩ := hT5.shape
  have HT5 := Lib.hid hT5
  have HU1 : Hid (ToksAt w5 w.heap.size (.slice (some ⟨g1, 0, none⟩) ta.length k1) ta) := by rw [hna]; exact hU1
  have HU2 : Hid (ToksAt w5 w1.heap.size (.slice (some ⟨g2, 0, none⟩) tb.length k2) tb) := by rw [hnb]; exact hU2
  have hlb5 : na + 1 + (nb + 1) ≤ 9223372036854775807 := by
    obtain ⟨_, _, hrow, _⟩ := hT5
    have := ownsRow_len hrow
    rw [hl5] at this
    exact this
  have hwr2 : wrap64 ((na : Int) + 1 + ((nb : Int) + 1)) = (na : Int) + 1 + ((nb : Int) + 1) := IntWalk.wrap64_in _ (by omega)
  have hgw := hg.below hg.size hby
  have hne5 : ((na : Int) + 1 + ((nb : Int) + 1) != (na : Int) + 1 + ((nb : Int) + 1)) = false := by simp
  rw [hl5]
  clear hown3 hown4 hg3 hg4 hv4 hv2b hown0 hu cl ch hlaw htb hne1 hne2 hne1' hne2' hd5 hd6 hd7 hwr hT5 hU1 hU2 hT1 hT2
  have Hna := Lib.hid hna
  have Hl5 := Lib.hid hl5
  clear hna hnb hl5 hta
  dsimp only
  go_wp2_with fail
  go_loopw [15] (fun i wq => ∃ k : Nat, i = .int .i64 k ∧ k ≤ na + 1 + (nb + 1) ∧ Below w5.heap.size w5 wq) (fun i _ => na + 1 + (nb + 1) - (intOf i).toNat)
  case atStart => exact ⟨0, rfl, Nat.zero_le _, Below.refl _ _⟩
  case round =>
    obtain ⟨k, rfl, hk, hbq⟩ := hrel
    by_cases hlt : k < na + 1 + (nb + 1)
    · have hdk : decide ((k : Int) < (na : Int) + 1 + ((nb : Int) + 1)) = true := by rw [decide_eq_true_eq]; omega
      obtain ⟨t, ht⟩ : ∃ t, (ta ++ tb)[k]? = some t := ⟨_, List.getElem?_eq_getElem (by rw [Hl5.out]; exact hlt)⟩
      obtain ⟨g3, a3, n3, rfl, hA3, x0, x1, x2, x3, x4⟩ := HT5.out.at ht
      have hX : Five w5 g3 k t a3 n3 := ⟨x0, x1, x2, x3, x4⟩
      clear x0 x1 x2 x3 x4
      have hA3a := fun w' (hb : Below w5.heap.size w5 w') => hA3.below hb
      have hbd := hbq.drew
      have hki : (k : Int) < (na : Int) + 1 + ((nb : Int) + 1) := by omega
      by_cases hk1 : k < na + 1
      · have hk1i : (k : Int) < (na : Int) + 1 := by omega
        have hd1 : decide ((k : Int) < (na : Int) + 1) = true := by rw [decide_eq_true_eq]; omega
        have hd2 : decide ((k : Int) ≥ (na : Int) + 1) = false := by rw [decide_eq_false_iff_not]; omega
        have hd2a : decide ((na : Int) + 1 ≤ (k : Int)) = false := by rw [decide_eq_false_iff_not]; omega
        have hd2b : decide ((na : Int) < (k : Int)) = false := by rw [decide_eq_false_iff_not]; omega
        have hd2c : decide (na < k) = false := by rw [decide_eq_false_iff_not]; omega
        have hd2d : decide (na + 1 ≤ k) = false := by rw [decide_eq_false_iff_not]; omega
        rw [List.getElem?_append_left (by rw [Hna.out]; exact hk1)] at ht
        obtain ⟨g, a, n, eg, hA, y0, y1, y2, y3, y4⟩ := HU1.out.at ht
        cases eg
        have hY : Five w5 g1 k t a n := ⟨y0, y1, y2, y3, y4⟩
        clear y0 y1 y2 y3 y4
        have hAa := fun w' (hb : Below w5.heap.size w5 w') => hA.below hb
        have Ht := Lib.hid ht
        clear ht
        go_wp2_with fail
        refine wp_region_held_drew (S := fun w' => Below w5.heap.size w5 w' ∧ w'.cell? ⟨g3, k * 5, none⟩ = some (.int .i64 t.kind) ∧ w'.cell? ⟨g3, k * 5 + 1, none⟩ = some (.string ⟨t.name.toArray⟩) ∧ w'.cell? ⟨g3, k * 5 + 2, none⟩ = some (.string ⟨t.text.toArray⟩) ∧ w'.cell? ⟨g3, k * 5 + 3, none⟩ = some (.slice a3 t.attrs.length n3) ∧ w'.cell? ⟨g3, k * 5 + 4, none⟩ = some (.bool t.empty) ∧ w'.cell? ⟨g1, k * 5, none⟩ = some (.int .i64 t.kind) ∧ w'.cell? ⟨g1, k * 5 + 1, none⟩ = some (.string ⟨t.name.toArray⟩) ∧ w'.cell? ⟨g1, k * 5 + 2, none⟩ = some (.string ⟨t.text.toArray⟩) ∧ w'.cell? ⟨g1, k * 5 + 3, none⟩ = some (.slice a t.attrs.length n) ∧ w'.cell? ⟨g1, k * 5 + 4, none⟩ = some (.bool t.empty)) (by kernel_rfl) (held_two hX hY hbd) (fun hHeld => ?_)
        refine wpAnyH_take (i := 0) (oi := { dst := some 108, op := Go.Op.move (Go.Operand.tmp 15), type := 3, pos := _, after := #[], guard := none }) (v := ?_) rfl (by kernel_rfl) (by kernel_rfl) (by kernel_rfl) (fun _ _ _ h => h) (Or.inl ⟨by rfl, ?_⟩) hHeld ?_
        rotate_left
        · intro wy hSw; (try dsimp only at hSw); go_simp; try with_reducible rfl
        simp only [Act.put, List.setIfInBounds_toArray, List.set_cons_zero, List.set_cons_succ]
        refine wpAnyH_take (i := 1) (oi := { dst := some 109, op := Go.Op.move (Go.Operand.tmp 5), type := 24, pos := _, after := #[], guard := none }) (v := ?_) rfl (by kernel_rfl) (by kernel_rfl) (by kernel_rfl) (fun _ _ _ h => h) (Or.inl ⟨by rfl, ?_⟩) hHeld ?_
        rotate_left
        · intro wy hSw; (try dsimp only at hSw); go_simp; try with_reducible rfl
        simp only [Act.put, List.setIfInBounds_toArray, List.set_cons_zero, List.set_cons_succ]
        refine wpAnyH_take (i := 2) (oi := { dst := some 110, op := Go.Op.call { callee := Go.Callee.builtin Go.Builtin.len, args := #[Go.Operand.tmp 109], argTypes := #[24] }, type := 3, pos := _, after := #[{ on := 1, ground := Go.Ground.data }], guard := none }) (v := ?_) rfl (by kernel_rfl) (by kernel_rfl) (by kernel_rfl) (fun _ _ _ h => h) (Or.inl ⟨by rfl, ?_⟩) hHeld ?_
        rotate_left
        · intro wy hSw; (try dsimp only at hSw); go_simp; try with_reducible rfl
        simp only [Act.put, List.setIfInBounds_toArray, List.set_cons_zero, List.set_cons_succ]
        refine wpAnyH_take (i := 3) (oi := { dst := some 111, op := Go.Op.binOp Go.BinOp.lss 3 (Go.Operand.tmp 108) (Go.Operand.tmp 110) 3, type := 4, pos := _, after := #[{ on := 0, ground := Go.Ground.data }, { on := 2, ground := Go.Ground.data }], guard := none }) (v := ?_) rfl (by kernel_rfl) (by kernel_rfl) (by kernel_rfl) (fun _ _ _ h => h) (Or.inl ⟨by rfl, ?_⟩) hHeld ?_
        rotate_left
        · intro wy hSw; (try dsimp only at hSw); go_simp; try with_reducible rfl
        simp only [Act.put, List.setIfInBounds_toArray, List.set_cons_zero, List.set_cons_succ]
        refine wpAnyH_take (i := 4) (oi := { dst := some 112, op := Go.Op.move (Go.Operand.tmp 111), type := 4, pos := _, after := #[{ on := 3, ground := Go.Ground.data }], guard := none }) (v := ?_) rfl (by kernel_rfl) (by kernel_rfl) (by kernel_rfl) (fun _ _ _ h => h) (Or.inl ⟨by rfl, ?_⟩) hHeld ?_
        rotate_left
        · intro wy hSw; (try dsimp only at hSw); go_simp; try with_reducible rfl
        simp only [Act.put, List.setIfInBounds_toArray, List.set_cons_zero, List.set_cons_succ]
        refine wpAnyH_take (i := 5) (oi := { dst := some 113, op := Go.Op.move (Go.Operand.tmp 12), type := 24, pos := _, after := #[{ on := 4, ground := Go.Ground.guard }], guard := some (4, true) }) (v := ?_) rfl (by kernel_rfl) (by kernel_rfl) (by kernel_rfl) (fun _ _ _ h => h) (Or.inl ⟨by rfl, ?_⟩) hHeld ?_
        rotate_left
        · intro wy hSw; (try dsimp only at hSw); go_simp; try with_reducible rfl
        simp only [Act.put, List.setIfInBounds_toArray, List.set_cons_zero, List.set_cons_succ]
        refine wpAnyH_take (i := 6) (oi := { dst := some 114, op := Go.Op.move (Go.Operand.tmp 15), type := 3, pos := _, after := #[{ on := 4, ground := Go.Ground.guard }], guard := some (4, true) }) (v := ?_) rfl (by kernel_rfl) (by kernel_rfl) (by kernel_rfl) (fun _ _ _ h => h) (Or.inl ⟨by rfl, ?_⟩) hHeld ?_
        rotate_left
        · intro wy hSw; (try dsimp only at hSw); go_simp; try with_reducible rfl
        simp only [Act.put, List.setIfInBounds_toArray, List.set_cons_zero, List.set_cons_succ]
        refine wpAnyH_take (i := 7) (oi := { dst := some 115, op := Go.Op.indexAddr 24 (Go.Operand.tmp 113) (Go.Operand.tmp 114), type := 0, pos := _, after := #[{ on := 5, ground := Go.Ground.data }, { on := 6, ground := Go.Ground.data }, { on := 4, ground := Go.Ground.guard }], guard := some (4, true) }) (v := ?_) rfl (by kernel_rfl) (by kernel_rfl) (by kernel_rfl) (fun _ _ _ h => h) (Or.inl ⟨by rfl, ?_⟩) hHeld ?_
        rotate_left
        · intro wy hSw; (try dsimp only at hSw); go_simp; try with_reducible rfl
        simp only [Act.put, List.setIfInBounds_toArray, List.set_cons_zero, List.set_cons_succ]
        refine wpAnyH_take (i := 8) (oi := { dst := some 116, op := Go.Op.load 30 (Go.Operand.tmp 115), type := 30, pos := _, after := #[{ on := 7, ground := Go.Ground.data }, { on := 4, ground := Go.Ground.guard }], guard := some (4, true) }) (v := ?_) rfl (by kernel_rfl) (by kernel_rfl) (by kernel_rfl) (fun _ _ _ h => h) (Or.inl ⟨by rfl, ?_⟩) hHeld ?_
        rotate_left
        · intro wy hSw; (try dsimp only at hSw); go_simp; try with_reducible rfl
        simp only [Act.put, List.setIfInBounds_toArray, List.set_cons_zero, List.set_cons_succ]
        refine wpAnyH_take (i := 10) (oi := { dst := some 118, op := Go.Op.move (Go.Operand.tmp 5), type := 24, pos := _, after := #[{ on := 4, ground := Go.Ground.guard }], guard := some (4, true) }) (v := ?_) rfl (by kernel_rfl) (by kernel_rfl) (by kernel_rfl) (fun _ _ _ h => h) (Or.inl ⟨by rfl, ?_⟩) hHeld ?_
        rotate_left
        · intro wy hSw; (try dsimp only at hSw); go_simp; try with_reducible rfl
        simp only [Act.put, List.setIfInBounds_toArray, List.set_cons_zero, List.set_cons_succ]
        refine wpAnyH_take (i := 11) (oi := { dst := some 119, op := Go.Op.move (Go.Operand.tmp 15), type := 3, pos := _, after := #[{ on := 4, ground := Go.Ground.guard }], guard := some (4, true) }) (v := ?_) rfl (by kernel_rfl) (by kernel_rfl) (by kernel_rfl) (fun _ _ _ h => h) (Or.inl ⟨by rfl, ?_⟩) hHeld ?_
        rotate_left
        · intro wy hSw; (try dsimp only at hSw); go_simp; try with_reducible rfl
        simp only [Act.put, List.setIfInBounds_toArray, List.set_cons_zero, List.set_cons_succ]
        refine wpAnyH_take (i := 12) (oi := { dst := some 120, op := Go.Op.indexAddr 24 (Go.Operand.tmp 118) (Go.Operand.tmp 119), type := 0, pos := _, after := #[{ on := 10, ground := Go.Ground.data }, { on := 11, ground := Go.Ground.data }, { on := 4, ground := Go.Ground.guard }], guard := some (4, true) }) (v := ?_) rfl (by kernel_rfl) (by kernel_rfl) (by kernel_rfl) (fun _ _ _ h => h) (Or.inl ⟨by rfl, ?_⟩) hHeld ?_
        rotate_left
        · intro wy hSw; (try dsimp only at hSw); go_simp; try with_reducible rfl
        simp only [Act.put, List.setIfInBounds_toArray, List.set_cons_zero, List.set_cons_succ]
        refine wpAnyH_take (i := 13) (oi := { dst := some 121, op := Go.Op.load 30 (Go.Operand.tmp 120), type := 30, pos := _, after := #[{ on := 12, ground := Go.Ground.data }, { on := 4, ground := Go.Ground.guard }], guard := some (4, true) }) (v := ?_) rfl (by kernel_rfl) (by kernel_rfl) (by kernel_rfl) (fun _ _ _ h => h) (Or.inl ⟨by rfl, ?_⟩) hHeld ?_
        rotate_left
        · intro wy hSw; (try dsimp only at hSw); go_simp; try with_reducible rfl
        simp only [Act.put, List.setIfInBounds_toArray, List.set_cons_zero, List.set_cons_succ]
        refine wpAnyH_ready (rs := [9]) (by kernel_rfl) (by simp) ?_
        refine AllReadyH.cons (o := { dst := some 117, op := Go.Op.call { callee := Go.Callee.value (Go.Operand.func 8), args := #[Go.Operand.tmp 116], argTypes := #[30] }, type := 32, pos := _, after := #[{ on := 8, ground := Go.Ground.data }, { on := 4, ground := Go.Ground.chain }, { on := 4, ground := Go.Ground.guard }], guard := some (4, true) }) rfl (fun K hK => ?_) AllReadyH.nil
        go_simp
        go_at_call 8
        refine (plain_any t _ _ _ _).mono ?_
        rintro e w'' ⟨rfl, hbn⟩
        have hbw := bel_next hHeld.1 hbn
        try go_wp2_with fail
        refine hK.out _ _ (held_two hX hY hbw) ?_
        clear hHeld hK K
        intro hHeld
        try simp only [Act.put, List.setIfInBounds_toArray, List.set_cons_zero, List.set_cons_succ]
        refine wpAnyH_ready (rs := [14]) (by kernel_rfl) (by simp) ?_
        refine AllReadyH.cons (o := { dst := some 122, op := Go.Op.call { callee := Go.Callee.value (Go.Operand.func 8), args := #[Go.Operand.tmp 121], argTypes := #[30] }, type := 32, pos := _, after := #[{ on := 13, ground := Go.Ground.data }, { on := 9, ground := Go.Ground.chain }, { on := 4, ground := Go.Ground.guard }], guard := some (4, true) }) rfl (fun K hK => ?_) AllReadyH.nil
        go_simp
        go_at_call 8
        refine (plain_any t _ _ _ _).mono ?_
        rintro e w'' ⟨rfl, hbn⟩
        have hbw := bel_next hHeld.1 hbn
        try go_wp2_with fail
        refine hK.out _ _ (held_two hX hY hbw) ?_
        clear hHeld hK K
        intro hHeld
        try simp only [Act.put, List.setIfInBounds_toArray, List.set_cons_zero, List.set_cons_succ]
        refine wpAnyH_ready (rs := [15]) (by kernel_rfl) (by simp) ?_
        refine AllReadyH.cons (o := { dst := some 123, op := Go.Op.call { callee := Go.Callee.value (Go.Operand.func 7), args := #[Go.Operand.tmp 117, Go.Operand.tmp 122], argTypes := #[32, 32] }, type := 4, pos := _, after := #[{ on := 9, ground := Go.Ground.data }, { on := 14, ground := Go.Ground.data }, { on := 14, ground := Go.Ground.chain }, { on := 4, ground := Go.Ground.guard }], guard := some (4, true) }) rfl (fun K hK => ?_) AllReadyH.nil
        go_simp
        go_at_call 7
        refine (same_eq t _ _ _ _ _ _ _ (hA3a _ hHeld.1) (hAa _ hHeld.1)).mono ?_
        rintro e w'' ⟨rfl, hbn⟩
        have hbw := bel_next hHeld.1 hbn
        try go_wp2_with fail
        refine hK.out _ _ (held_two hX hY hbw) ?_
        clear hHeld hK K
        intro hHeld
        try simp only [Act.put, List.setIfInBounds_toArray, List.set_cons_zero, List.set_cons_succ]
        refine wpAnyH_take (i := 16) (oi := { dst := some 124, op := Go.Op.unOp Go.UnOp.not 4 (Go.Operand.tmp 123), type := 4, pos := _, after := #[{ on := 15, ground := Go.Ground.data }, { on := 4, ground := Go.Ground.guard }], guard := some (4, true) }) (v := ?_) rfl (by kernel_rfl) (by kernel_rfl) (by kernel_rfl) (fun _ _ _ h => h) (Or.inl ⟨by rfl, ?_⟩) hHeld ?_
        rotate_left
        · intro wy hSw; (try dsimp only at hSw); go_simp; try with_reducible rfl
        simp only [Act.put, List.setIfInBounds_toArray, List.set_cons_zero, List.set_cons_succ]
        refine wpAnyH_take (i := 17) (oi := { dst := some 125, op := Go.Op.pick (Go.Operand.tmp 112) (Go.Operand.tmp 124) (Go.Operand.const (Go.Value.bool false)), type := 4, pos := _, after := #[{ on := 4, ground := Go.Ground.data }, { on := 16, ground := Go.Ground.data }], guard := none }) (v := ?_) rfl (by kernel_rfl) (by kernel_rfl) (by kernel_rfl) (fun _ _ _ h => h) (Or.inl ⟨by rfl, ?_⟩) hHeld ?_
        rotate_left
        · intro wy hSw; (try dsimp only at hSw); go_simp; try with_reducible rfl
        simp only [Act.put, List.setIfInBounds_toArray, List.set_cons_zero, List.set_cons_succ]
        refine wpAnyH_take (i := 18) (oi := { dst := some 126, op := Go.Op.move (Go.Operand.tmp 125), type := 4, pos := _, after := #[{ on := 17, ground := Go.Ground.data }, { on := 15, ground := Go.Ground.chain }], guard := none }) (v := ?_) rfl (by kernel_rfl) (by kernel_rfl) (by kernel_rfl) (fun _ _ _ h => h) (Or.inl ⟨by rfl, ?_⟩) hHeld ?_
        rotate_left
        · intro wy hSw; (try dsimp only at hSw); go_simp; try with_reducible rfl
        simp only [Act.put, List.setIfInBounds_toArray, List.set_cons_zero, List.set_cons_succ]
        refine wpAnyH_take (i := 19) (oi := { dst := some 127, op := Go.Op.move (Go.Operand.tmp 15), type := 3, pos := _, after := #[{ on := 18, ground := Go.Ground.guard }], guard := some (18, false) }) (v := ?_) rfl (by kernel_rfl) (by kernel_rfl) (by kernel_rfl) (fun _ _ _ h => h) (Or.inl ⟨by rfl, ?_⟩) hHeld ?_
        rotate_left
        · intro wy hSw; (try dsimp only at hSw); go_simp; try with_reducible rfl
        simp only [Act.put, List.setIfInBounds_toArray, List.set_cons_zero, List.set_cons_succ]
        refine wpAnyH_take (i := 20) (oi := { dst := some 128, op := Go.Op.move (Go.Operand.tmp 5), type := 24, pos := _, after := #[{ on := 18, ground := Go.Ground.guard }], guard := some (18, false) }) (v := ?_) rfl (by kernel_rfl) (by kernel_rfl) (by kernel_rfl) (fun _ _ _ h => h) (Or.inl ⟨by rfl, ?_⟩) hHeld ?_
        rotate_left
        · intro wy hSw; (try dsimp only at hSw); go_simp; try with_reducible rfl
        simp only [Act.put, List.setIfInBounds_toArray, List.set_cons_zero, List.set_cons_succ]
        refine wpAnyH_take (i := 21) (oi := { dst := some 129, op := Go.Op.call { callee := Go.Callee.builtin Go.Builtin.len, args := #[Go.Operand.tmp 128], argTypes := #[24] }, type := 3, pos := _, after := #[{ on := 20, ground := Go.Ground.data }, { on := 18, ground := Go.Ground.guard }], guard := some (18, false) }) (v := ?_) rfl (by kernel_rfl) (by kernel_rfl) (by kernel_rfl) (fun _ _ _ h => h) (Or.inl ⟨by rfl, ?_⟩) hHeld ?_
        rotate_left
        · intro wy hSw; (try dsimp only at hSw); go_simp; try with_reducible rfl
        simp only [Act.put, List.setIfInBounds_toArray, List.set_cons_zero, List.set_cons_succ]
        refine wpAnyH_take (i := 22) (oi := { dst := some 130, op := Go.Op.binOp Go.BinOp.geq 3 (Go.Operand.tmp 127) (Go.Operand.tmp 129) 3, type := 4, pos := _, after := #[{ on := 19, ground := Go.Ground.data }, { on := 21, ground := Go.Ground.data }, { on := 18, ground := Go.Ground.guard }], guard := some (18, false) }) (v := ?_) rfl (by kernel_rfl) (by kernel_rfl) (by kernel_rfl) (fun _ _ _ h => h) (Or.inl ⟨by rfl, ?_⟩) hHeld ?_
        rotate_left
        · intro wy hSw; (try dsimp only at hSw); go_simp; try with_reducible rfl
        simp only [Act.put, List.setIfInBounds_toArray, List.set_cons_zero, List.set_cons_succ]
        refine wpAnyH_take (i := 23) (oi := { dst := some 131, op := Go.Op.move (Go.Operand.tmp 130), type := 4, pos := _, after := #[{ on := 22, ground := Go.Ground.data }, { on := 18, ground := Go.Ground.chain }, { on := 18, ground := Go.Ground.guard }], guard := some (18, false) }) (v := ?_) rfl (by kernel_rfl) (by kernel_rfl) (by kernel_rfl) (fun _ _ _ h => h) (Or.inl ⟨by rfl, ?_⟩) hHeld ?_
        rotate_left
        · intro wy hSw; (try dsimp only at hSw); go_simp; try with_reducible rfl
        simp only [Act.put, List.setIfInBounds_toArray, List.set_cons_zero, List.set_cons_succ]
        refine wpAnyH_take (i := 24) (oi := { dst := some 132, op := Go.Op.move (Go.Operand.tmp 12), type := 24, pos := _, after := #[{ on := 23, ground := Go.Ground.guard }], guard := some (23, true) }) (v := undef) rfl (by kernel_rfl) (by kernel_rfl) (by kernel_rfl) (fun _ _ _ h => h) (Or.inr ⟨by rfl, rfl⟩) hHeld ?_
        simp only [Act.put, List.setIfInBounds_toArray, List.set_cons_zero, List.set_cons_succ]
        refine wpAnyH_take (i := 25) (oi := { dst := some 133, op := Go.Op.move (Go.Operand.tmp 15), type := 3, pos := _, after := #[{ on := 23, ground := Go.Ground.guard }], guard := some (23, true) }) (v := undef) rfl (by kernel_rfl) (by kernel_rfl) (by kernel_rfl) (fun _ _ _ h => h) (Or.inr ⟨by rfl, rfl⟩) hHeld ?_
        simp only [Act.put, List.setIfInBounds_toArray, List.set_cons_zero, List.set_cons_succ]
        refine wpAnyH_take (i := 26) (oi := { dst := some 134, op := Go.Op.indexAddr 24 (Go.Operand.tmp 132) (Go.Operand.tmp 133), type := 0, pos := _, after := #[{ on := 24, ground := Go.Ground.data }, { on := 25, ground := Go.Ground.data }, { on := 23, ground := Go.Ground.guard }], guard := some (23, true) }) (v := undef) rfl (by kernel_rfl) (by kernel_rfl) (by kernel_rfl) (fun _ _ _ h => h) (Or.inr ⟨by rfl, rfl⟩) hHeld ?_
        simp only [Act.put, List.setIfInBounds_toArray, List.set_cons_zero, List.set_cons_succ]
        refine wpAnyH_take (i := 27) (oi := { dst := some 135, op := Go.Op.load 30 (Go.Operand.tmp 134), type := 30, pos := _, after := #[{ on := 26, ground := Go.Ground.data }, { on := 23, ground := Go.Ground.guard }], guard := some (23, true) }) (v := undef) rfl (by kernel_rfl) (by kernel_rfl) (by kernel_rfl) (fun _ _ _ h => h) (Or.inr ⟨by rfl, rfl⟩) hHeld ?_
        simp only [Act.put, List.setIfInBounds_toArray, List.set_cons_zero, List.set_cons_succ]
        refine wpAnyH_take (i := 28) (oi := { dst := some 136, op := Go.Op.call { callee := Go.Callee.value (Go.Operand.func 8), args := #[Go.Operand.tmp 135], argTypes := #[30] }, type := 32, pos := _, after := #[{ on := 27, ground := Go.Ground.data }, { on := 23, ground := Go.Ground.chain }, { on := 23, ground := Go.Ground.guard }], guard := some (23, true) }) (v := undef) rfl (by kernel_rfl) (by kernel_rfl) (by kernel_rfl) (fun _ _ _ h => h) (Or.inr ⟨by rfl, rfl⟩) hHeld ?_
        simp only [Act.put, List.setIfInBounds_toArray, List.set_cons_zero, List.set_cons_succ]
        refine wpAnyH_take (i := 29) (oi := { dst := some 137, op := Go.Op.move (Go.Operand.tmp 8), type := 24, pos := _, after := #[{ on := 23, ground := Go.Ground.guard }], guard := some (23, true) }) (v := undef) rfl (by kernel_rfl) (by kernel_rfl) (by kernel_rfl) (fun _ _ _ h => h) (Or.inr ⟨by rfl, rfl⟩) hHeld ?_
        simp only [Act.put, List.setIfInBounds_toArray, List.set_cons_zero, List.set_cons_succ]
        refine wpAnyH_take (i := 30) (oi := { dst := some 138, op := Go.Op.move (Go.Operand.tmp 15), type := 3, pos := _, after := #[{ on := 23, ground := Go.Ground.guard }], guard := some (23, true) }) (v := undef) rfl (by kernel_rfl) (by kernel_rfl) (by kernel_rfl) (fun _ _ _ h => h) (Or.inr ⟨by rfl, rfl⟩) hHeld ?_
        simp only [Act.put, List.setIfInBounds_toArray, List.set_cons_zero, List.set_cons_succ]
        refine wpAnyH_take (i := 31) (oi := { dst := some 139, op := Go.Op.move (Go.Operand.tmp 5), type := 24, pos := _, after := #[{ on := 23, ground := Go.Ground.guard }], guard := some (23, true) }) (v := undef) rfl (by kernel_rfl) (by kernel_rfl) (by kernel_rfl) (fun _ _ _ h => h) (Or.inr ⟨by rfl, rfl⟩) hHeld ?_
        simp only [Act.put, List.setIfInBounds_toArray, List.set_cons_zero, List.set_cons_succ]
        refine wpAnyH_take (i := 32) (oi := { dst := some 140, op := Go.Op.call { callee := Go.Callee.builtin Go.Builtin.len, args := #[Go.Operand.tmp 139], argTypes := #[24] }, type := 3, pos := _, after := #[{ on := 31, ground := Go.Ground.data }, { on := 23, ground := Go.Ground.guard }], guard := some (23, true) }) (v := undef) rfl (by kernel_rfl) (by kernel_rfl) (by kernel_rfl) (fun _ _ _ h => h) (Or.inr ⟨by rfl, rfl⟩) hHeld ?_
        simp only [Act.put, List.setIfInBounds_toArray, List.set_cons_zero, List.set_cons_succ]
        refine wpAnyH_take (i := 33) (oi := { dst := some 141, op := Go.Op.binOp Go.BinOp.sub 3 (Go.Operand.tmp 138) (Go.Operand.tmp 140) 3, type := 3, pos := _, after := #[{ on := 30, ground := Go.Ground.data }, { on := 32, ground := Go.Ground.data }, { on := 23, ground := Go.Ground.guard }], guard := some (23, true) }) (v := undef) rfl (by kernel_rfl) (by kernel_rfl) (by kernel_rfl) (fun _ _ _ h => h) (Or.inr ⟨by rfl, rfl⟩) hHeld ?_
        simp only [Act.put, List.setIfInBounds_toArray, List.set_cons_zero, List.set_cons_succ]
        refine wpAnyH_take (i := 34) (oi := { dst := some 142, op := Go.Op.indexAddr 24 (Go.Operand.tmp 137) (Go.Operand.tmp 141), type := 0, pos := _, after := #[{ on := 29, ground := Go.Ground.data }, { on := 33, ground := Go.Ground.data }, { on := 23, ground := Go.Ground.guard }], guard := some (23, true) }) (v := undef) rfl (by kernel_rfl) (by kernel_rfl) (by kernel_rfl) (fun _ _ _ h => h) (Or.inr ⟨by rfl, rfl⟩) hHeld ?_
        simp only [Act.put, List.setIfInBounds_toArray, List.set_cons_zero, List.set_cons_succ]
        refine wpAnyH_take (i := 35) (oi := { dst := some 143, op := Go.Op.load 30 (Go.Operand.tmp 142), type := 30, pos := _, after := #[{ on := 34, ground := Go.Ground.data }, { on := 23, ground := Go.Ground.guard }], guard := some (23, true) }) (v := undef) rfl (by kernel_rfl) (by kernel_rfl) (by kernel_rfl) (fun _ _ _ h => h) (Or.inr ⟨by rfl, rfl⟩) hHeld ?_
        simp only [Act.put, List.setIfInBounds_toArray, List.set_cons_zero, List.set_cons_succ]
        refine wpAnyH_take (i := 36) (oi := { dst := some 144, op := Go.Op.call { callee := Go.Callee.value (Go.Operand.func 8), args := #[Go.Operand.tmp 143], argTypes := #[30] }, type := 32, pos := _, after := #[{ on := 35, ground := Go.Ground.data }, { on := 28, ground := Go.Ground.chain }, { on := 23, ground := Go.Ground.guard }], guard := some (23, true) }) (v := undef) rfl (by kernel_rfl) (by kernel_rfl) (by kernel_rfl) (fun _ _ _ h => h) (Or.inr ⟨by rfl, rfl⟩) hHeld ?_
        simp only [Act.put, List.setIfInBounds_toArray, List.set_cons_zero, List.set_cons_succ]
        refine wpAnyH_take (i := 37) (oi := { dst := some 145, op := Go.Op.call { callee := Go.Callee.value (Go.Operand.func 7), args := #[Go.Operand.tmp 136, Go.Operand.tmp 144], argTypes := #[32, 32] }, type := 4, pos := _, after := #[{ on := 28, ground := Go.Ground.data }, { on := 36, ground := Go.Ground.data }, { on := 36, ground := Go.Ground.chain }, { on := 23, ground := Go.Ground.guard }], guard := some (23, true) }) (v := undef) rfl (by kernel_rfl) (by kernel_rfl) (by kernel_rfl) (fun _ _ _ h => h) (Or.inr ⟨by rfl, rfl⟩) hHeld ?_
        simp only [Act.put, List.setIfInBounds_toArray, List.set_cons_zero, List.set_cons_succ]
        refine wpAnyH_take (i := 38) (oi := { dst := some 146, op := Go.Op.unOp Go.UnOp.not 4 (Go.Operand.tmp 145), type := 4, pos := _, after := #[{ on := 37, ground := Go.Ground.data }, { on := 23, ground := Go.Ground.guard }], guard := some (23, true) }) (v := undef) rfl (by kernel_rfl) (by kernel_rfl) (by kernel_rfl) (fun _ _ _ h => h) (Or.inr ⟨by rfl, rfl⟩) hHeld ?_
        simp only [Act.put, List.setIfInBounds_toArray, List.set_cons_zero, List.set_cons_succ]
        refine wpAnyH_take (i := 39) (oi := { dst := some 147, op := Go.Op.pick (Go.Operand.tmp 131) (Go.Operand.tmp 146) (Go.Operand.const (Go.Value.bool false)), type := 4, pos := _, after := #[{ on := 23, ground := Go.Ground.data }, { on := 38, ground := Go.Ground.data }, { on := 18, ground := Go.Ground.guard }], guard := some (18, false) }) (v := ?_) rfl (by kernel_rfl) (by kernel_rfl) (by kernel_rfl) (fun _ _ _ h => h) (Or.inl ⟨by rfl, ?_⟩) hHeld ?_
        rotate_left
        · intro wy hSw; (try dsimp only at hSw); go_simp; try with_reducible rfl
        simp only [Act.put, List.setIfInBounds_toArray, List.set_cons_zero, List.set_cons_succ]
        refine wpAnyH_take (i := 40) (oi := { dst := some 148, op := Go.Op.pick (Go.Operand.tmp 126) (Go.Operand.const (Go.Value.bool true)) (Go.Operand.tmp 147), type := 4, pos := _, after := #[{ on := 18, ground := Go.Ground.data }, { on := 39, ground := Go.Ground.data }], guard := none }) (v := ?_) rfl (by kernel_rfl) (by kernel_rfl) (by kernel_rfl) (fun _ _ _ h => h) (Or.inl ⟨by rfl, ?_⟩) hHeld ?_
        rotate_left
        · intro wy hSw; (try dsimp only at hSw); go_simp; try with_reducible rfl
        simp only [Act.put, List.setIfInBounds_toArray, List.set_cons_zero, List.set_cons_succ]
        refine wpAnyH_done (by kernel_rfl) ?_ _
        go_wp2_with fail
        go_roundw
        case rel => first | exact ⟨k + 1, by go_num, by omega, hHeld.1⟩ | ((repeat apply Exists.intro); exact ⟨⟨k + 1, by go_num, by omega, hHeld.1⟩, rfl⟩)
        case measure => simp [intOf]; omega
      · obtain ⟨j, rfl⟩ : ∃ j, k = j + (na + 1) := ⟨k - (na + 1), by omega⟩
        have hd1 : decide (((j + (na + 1) : Nat) : Int) < (na : Int) + 1) = false := by rw [decide_eq_false_iff_not]; omega
        have hd2 : decide (((j + (na + 1) : Nat) : Int) ≥ (na : Int) + 1) = true := by rw [decide_eq_true_eq]; omega
        have hd1' : decide ((j : Int) + ((na : Int) + 1) < (na : Int) + 1) = false := by rw [decide_eq_false_iff_not]; omega
        have hd2' : decide ((j : Int) + ((na : Int) + 1) ≥ (na : Int) + 1) = true := by rw [decide_eq_true_eq]; omega
        rw [List.getElem?_append_right (by rw [Hna.out]; omega), Hna.out, Nat.add_sub_cancel] at ht
        obtain ⟨g, a, n, eg, hA, y0, y1, y2, y3, y4⟩ := HU2.out.at ht
        cases eg
        have hY : Five w5 g2 j t a n := ⟨y0, y1, y2, y3, y4⟩
        clear y0 y1 y2 y3 y4
        have hAa := fun w' (hb : Below w5.heap.size w5 w') => hA.below hb
        have Ht := Lib.hid ht
        have hki' : (j : Int) + ((na : Int) + 1) < (na : Int) + 1 + ((nb : Int) + 1) := by omega
        have hji : (j : Int) < (nb : Int) + 1 := by omega
        have hwj : IntKind.i64.wrap (j : Int) = (j : Int) := IntWalk.i64_in _ (by omega)
        have h0i : (0 : Int) ≤ (j : Int) + ((na : Int) + 1) := by omega
        have hti : ((j : Int) + ((na : Int) + 1)).toNat = j + (na + 1) := by omega
        clear ht
        go_wp2_with fail
        refine wp_region_held_drew (S := fun w' => Below w5.heap.size w5 w' ∧ w'.cell? ⟨g3, (j + (na + 1)) * 5, none⟩ = some (.int .i64 t.kind) ∧ w'.cell? ⟨g3, (j + (na + 1)) * 5 + 1, none⟩ = some (.string ⟨t.name.toArray⟩) ∧ w'.cell? ⟨g3, (j + (na + 1)) * 5 + 2, none⟩ = some (.string ⟨t.text.toArray⟩) ∧ w'.cell? ⟨g3, (j + (na + 1)) * 5 + 3, none⟩ = some (.slice a3 t.attrs.length n3) ∧ w'.cell? ⟨g3, (j + (na + 1)) * 5 + 4, none⟩ = some (.bool t.empty) ∧ w'.cell? ⟨g2, j * 5, none⟩ = some (.int .i64 t.kind) ∧ w'.cell? ⟨g2, j * 5 + 1, none⟩ = some (.string ⟨t.name.toArray⟩) ∧ w'.cell? ⟨g2, j * 5 + 2, none⟩ = some (.string ⟨t.text.toArray⟩) ∧ w'.cell? ⟨g2, j * 5 + 3, none⟩ = some (.slice a t.attrs.length n) ∧ w'.cell? ⟨g2, j * 5 + 4, none⟩ = some (.bool t.empty)) (by kernel_rfl) (held_two hX hY hbd) (fun hHeld => ?_)
        refine wpAnyH_take (i := 0) (oi := { dst := some 108, op := Go.Op.move (Go.Operand.tmp 15), type := 3, pos := _, after := #[], guard := none }) (v := ?_) rfl (by kernel_rfl) (by kernel_rfl) (by kernel_rfl) (fun _ _ _ h => h) (Or.inl ⟨by rfl, ?_⟩) hHeld ?_
        rotate_left
        · intro wy hSw; (try dsimp only at hSw); go_simp; try with_reducible rfl
        simp only [Act.put, List.setIfInBounds_toArray, List.set_cons_zero, List.set_cons_succ]
        refine wpAnyH_take (i := 1) (oi := { dst := some 109, op := Go.Op.move (Go.Operand.tmp 5), type := 24, pos := _, after := #[], guard := none }) (v := ?_) rfl (by kernel_rfl) (by kernel_rfl) (by kernel_rfl) (fun _ _ _ h => h) (Or.inl ⟨by rfl, ?_⟩) hHeld ?_
        rotate_left
        · intro wy hSw; (try dsimp only at hSw); go_simp; try with_reducible rfl
        simp only [Act.put, List.setIfInBounds_toArray, List.set_cons_zero, List.set_cons_succ]
        refine wpAnyH_take (i := 2) (oi := { dst := some 110, op := Go.Op.call { callee := Go.Callee.builtin Go.Builtin.len, args := #[Go.Operand.tmp 109], argTypes := #[24] }, type := 3, pos := _, after := #[{ on := 1, ground := Go.Ground.data }], guard := none }) (v := ?_) rfl (by kernel_rfl) (by kernel_rfl) (by kernel_rfl) (fun _ _ _ h => h) (Or.inl ⟨by rfl, ?_⟩) hHeld ?_
        rotate_left
        · intro wy hSw; (try dsimp only at hSw); go_simp; try with_reducible rfl
        simp only [Act.put, List.setIfInBounds_toArray, List.set_cons_zero, List.set_cons_succ]
        refine wpAnyH_take (i := 3) (oi := { dst := some 111, op := Go.Op.binOp Go.BinOp.lss 3 (Go.Operand.tmp 108) (Go.Operand.tmp 110) 3, type := 4, pos := _, after := #[{ on := 0, ground := Go.Ground.data }, { on := 2, ground := Go.Ground.data }], guard := none }) (v := ?_) rfl (by kernel_rfl) (by kernel_rfl) (by kernel_rfl) (fun _ _ _ h => h) (Or.inl ⟨by rfl, ?_⟩) hHeld ?_
        rotate_left
        · intro wy hSw; (try dsimp only at hSw); go_simp; try with_reducible rfl
        simp only [Act.put, List.setIfInBounds_toArray, List.set_cons_zero, List.set_cons_succ]
        refine wpAnyH_take (i := 4) (oi := { dst := some 112, op := Go.Op.move (Go.Operand.tmp 111), type := 4, pos := _, after := #[{ on := 3, ground := Go.Ground.data }], guard := none }) (v := ?_) rfl (by kernel_rfl) (by kernel_rfl) (by kernel_rfl) (fun _ _ _ h => h) (Or.inl ⟨by rfl, ?_⟩) hHeld ?_
        rotate_left
        · intro wy hSw; (try dsimp only at hSw); go_simp; try with_reducible rfl
        simp only [Act.put, List.setIfInBounds_toArray, List.set_cons_zero, List.set_cons_succ]
        refine wpAnyH_take (i := 5) (oi := { dst := some 113, op := Go.Op.move (Go.Operand.tmp 12), type := 24, pos := _, after := #[{ on := 4, ground := Go.Ground.guard }], guard := some (4, true) }) (v := undef) rfl (by kernel_rfl) (by kernel_rfl) (by kernel_rfl) (fun _ _ _ h => h) (Or.inr ⟨by rfl, rfl⟩) hHeld ?_
        simp only [Act.put, List.setIfInBounds_toArray, List.set_cons_zero, List.set_cons_succ]
        refine wpAnyH_take (i := 6) (oi := { dst := some 114, op := Go.Op.move (Go.Operand.tmp 15), type := 3, pos := _, after := #[{ on := 4, ground := Go.Ground.guard }], guard := some (4, true) }) (v := undef) rfl (by kernel_rfl) (by kernel_rfl) (by kernel_rfl) (fun _ _ _ h => h) (Or.inr ⟨by rfl, rfl⟩) hHeld ?_
        simp only [Act.put, List.setIfInBounds_toArray, List.set_cons_zero, List.set_cons_succ]
        refine wpAnyH_take (i := 7) (oi := { dst := some 115, op := Go.Op.indexAddr 24 (Go.Operand.tmp 113) (Go.Operand.tmp 114), type := 0, pos := _, after := #[{ on := 5, ground := Go.Ground.data }, { on := 6, ground := Go.Ground.data }, { on := 4, ground := Go.Ground.guard }], guard := some (4, true) }) (v := undef) rfl (by kernel_rfl) (by kernel_rfl) (by kernel_rfl) (fun _ _ _ h => h) (Or.inr ⟨by rfl, rfl⟩) hHeld ?_
        simp only [Act.put, List.setIfInBounds_toArray, List.set_cons_zero, List.set_cons_succ]
        refine wpAnyH_take (i := 8) (oi := { dst := some 116, op := Go.Op.load 30 (Go.Operand.tmp 115), type := 30, pos := _, after := #[{ on := 7, ground := Go.Ground.data }, { on := 4, ground := Go.Ground.guard }], guard := some (4, true) }) (v := undef) rfl (by kernel_rfl) (by kernel_rfl) (by kernel_rfl) (fun _ _ _ h => h) (Or.inr ⟨by rfl, rfl⟩) hHeld ?_
        simp only [Act.put, List.setIfInBounds_toArray, List.set_cons_zero, List.set_cons_succ]
        refine wpAnyH_take (i := 9) (oi := { dst := some 117, op := Go.Op.call { callee := Go.Callee.value (Go.Operand.func 8), args := #[Go.Operand.tmp 116], argTypes := #[30] }, type := 32, pos := _, after := #[{ on := 8, ground := Go.Ground.data }, { on := 4, ground := Go.Ground.chain }, { on := 4, ground := Go.Ground.guard }], guard := some (4, true) }) (v := undef) rfl (by kernel_rfl) (by kernel_rfl) (by kernel_rfl) (fun _ _ _ h => h) (Or.inr ⟨by rfl, rfl⟩) hHeld ?_
        simp only [Act.put, List.setIfInBounds_toArray, List.set_cons_zero, List.set_cons_succ]
        refine wpAnyH_take (i := 10) (oi := { dst := some 118, op := Go.Op.move (Go.Operand.tmp 5), type := 24, pos := _, after := #[{ on := 4, ground := Go.Ground.guard }], guard := some (4, true) }) (v := undef) rfl (by kernel_rfl) (by kernel_rfl) (by kernel_rfl) (fun _ _ _ h => h) (Or.inr ⟨by rfl, rfl⟩) hHeld ?_
        simp only [Act.put, List.setIfInBounds_toArray, List.set_cons_zero, List.set_cons_succ]
        refine wpAnyH_take (i := 11) (oi := { dst := some 119, op := Go.Op.move (Go.Operand.tmp 15), type := 3, pos := _, after := #[{ on := 4, ground := Go.Ground.guard }], guard := some (4, true) }) (v := undef) rfl (by kernel_rfl) (by kernel_rfl) (by kernel_rfl) (fun _ _ _ h => h) (Or.inr ⟨by rfl, rfl⟩) hHeld ?_
        simp only [Act.put, List.setIfInBounds_toArray, List.set_cons_zero, List.set_cons_succ]
        refine wpAnyH_take (i := 12) (oi := { dst := some 120, op := Go.Op.indexAddr 24 (Go.Operand.tmp 118) (Go.Operand.tmp 119), type := 0, pos := _, after := #[{ on := 10, ground := Go.Ground.data }, { on := 11, ground := Go.Ground.data }, { on := 4, ground := Go.Ground.guard }], guard := some (4, true) }) (v := undef) rfl (by kernel_rfl) (by kernel_rfl) (by kernel_rfl) (fun _ _ _ h => h) (Or.inr ⟨by rfl, rfl⟩) hHeld ?_
        simp only [Act.put, List.setIfInBounds_toArray, List.set_cons_zero, List.set_cons_succ]
        refine wpAnyH_take (i := 13) (oi := { dst := some 121, op := Go.Op.load 30 (Go.Operand.tmp 120), type := 30, pos := _, after := #[{ on := 12, ground := Go.Ground.data }, { on := 4, ground := Go.Ground.guard }], guard := some (4, true) }) (v := undef) rfl (by kernel_rfl) (by kernel_rfl) (by kernel_rfl) (fun _ _ _ h => h) (Or.inr ⟨by rfl, rfl⟩) hHeld ?_
        simp only [Act.put, List.setIfInBounds_toArray, List.set_cons_zero, List.set_cons_succ]
        refine wpAnyH_take (i := 14) (oi := { dst := some 122, op := Go.Op.call { callee := Go.Callee.value (Go.Operand.func 8), args := #[Go.Operand.tmp 121], argTypes := #[30] }, type := 32, pos := _, after := #[{ on := 13, ground := Go.Ground.data }, { on := 9, ground := Go.Ground.chain }, { on := 4, ground := Go.Ground.guard }], guard := some (4, true) }) (v := undef) rfl (by kernel_rfl) (by kernel_rfl) (by kernel_rfl) (fun _ _ _ h => h) (Or.inr ⟨by rfl, rfl⟩) hHeld ?_
        simp only [Act.put, List.setIfInBounds_toArray, List.set_cons_zero, List.set_cons_succ]
        refine wpAnyH_take (i := 15) (oi := { dst := some 123, op := Go.Op.call { callee := Go.Callee.value (Go.Operand.func 7), args := #[Go.Operand.tmp 117, Go.Operand.tmp 122], argTypes := #[32, 32] }, type := 4, pos := _, after := #[{ on := 9, ground := Go.Ground.data }, { on := 14, ground := Go.Ground.data }, { on := 14, ground := Go.Ground.chain }, { on := 4, ground := Go.Ground.guard }], guard := some (4, true) }) (v := undef) rfl (by kernel_rfl) (by kernel_rfl) (by kernel_rfl) (fun _ _ _ h => h) (Or.inr ⟨by rfl, rfl⟩) hHeld ?_
        simp only [Act.put, List.setIfInBounds_toArray, List.set_cons_zero, List.set_cons_succ]
        refine wpAnyH_take (i := 16) (oi := { dst := some 124, op := Go.Op.unOp Go.UnOp.not 4 (Go.Operand.tmp 123), type := 4, pos := _, after := #[{ on := 15, ground := Go.Ground.data }, { on := 4, ground := Go.Ground.guard }], guard := some (4, true) }) (v := undef) rfl (by kernel_rfl) (by kernel_rfl) (by kernel_rfl) (fun _ _ _ h => h) (Or.inr ⟨by rfl, rfl⟩) hHeld ?_
        simp only [Act.put, List.setIfInBounds_toArray, List.set_cons_zero, List.set_cons_succ]
        refine wpAnyH_take (i := 17) (oi := { dst := some 125, op := Go.Op.pick (Go.Operand.tmp 112) (Go.Operand.tmp 124) (Go.Operand.const (Go.Value.bool false)), type := 4, pos := _, after := #[{ on := 4, ground := Go.Ground.data }, { on := 16, ground := Go.Ground.data }], guard := none }) (v := ?_) rfl (by kernel_rfl) (by kernel_rfl) (by kernel_rfl) (fun _ _ _ h => h) (Or.inl ⟨by rfl, ?_⟩) hHeld ?_
        rotate_left
        · intro wy hSw; (try dsimp only at hSw); go_simp; try with_reducible rfl
        simp only [Act.put, List.setIfInBounds_toArray, List.set_cons_zero, List.set_cons_succ]
        refine wpAnyH_take (i := 18) (oi := { dst := some 126, op := Go.Op.move (Go.Operand.tmp 125), type := 4, pos := _, after := #[{ on := 17, ground := Go.Ground.data }, { on := 15, ground := Go.Ground.chain }], guard := none }) (v := ?_) rfl (by kernel_rfl) (by kernel_rfl) (by kernel_rfl) (fun _ _ _ h => h) (Or.inl ⟨by rfl, ?_⟩) hHeld ?_
        rotate_left
        · intro wy hSw; (try dsimp only at hSw); go_simp; try with_reducible rfl
        simp only [Act.put, List.setIfInBounds_toArray, List.set_cons_zero, List.set_cons_succ]
        refine wpAnyH_take (i := 19) (oi := { dst := some 127, op := Go.Op.move (Go.Operand.tmp 15), type := 3, pos := _, after := #[{ on := 18, ground := Go.Ground.guard }], guard := some (18, false) }) (v := ?_) rfl (by kernel_rfl) (by kernel_rfl) (by kernel_rfl) (fun _ _ _ h => h) (Or.inl ⟨by rfl, ?_⟩) hHeld ?_
        rotate_left
        · intro wy hSw; (try dsimp only at hSw); go_simp; try with_reducible rfl
        simp only [Act.put, List.setIfInBounds_toArray, List.set_cons_zero, List.set_cons_succ]
        refine wpAnyH_take (i := 20) (oi := { dst := some 128, op := Go.Op.move (Go.Operand.tmp 5), type := 24, pos := _, after := #[{ on := 18, ground := Go.Ground.guard }], guard := some (18, false) }) (v := ?_) rfl (by kernel_rfl) (by kernel_rfl) (by kernel_rfl) (fun _ _ _ h => h) (Or.inl ⟨by rfl, ?_⟩) hHeld ?_
        rotate_left
        · intro wy hSw; (try dsimp only at hSw); go_simp; try with_reducible rfl
        simp only [Act.put, List.setIfInBounds_toArray, List.set_cons_zero, List.set_cons_succ]
        refine wpAnyH_take (i := 21) (oi := { dst := some 129, op := Go.Op.call { callee := Go.Callee.builtin Go.Builtin.len, args := #[Go.Operand.tmp 128], argTypes := #[24] }, type := 3, pos := _, after := #[{ on := 20, ground := Go.Ground.data }, { on := 18, ground := Go.Ground.guard }], guard := some (18, false) }) (v := ?_) rfl (by kernel_rfl) (by kernel_rfl) (by kernel_rfl) (fun _ _ _ h => h) (Or.inl ⟨by rfl, ?_⟩) hHeld ?_
        rotate_left
        · intro wy hSw; (try dsimp only at hSw); go_simp; try with_reducible rfl
        simp only [Act.put, List.setIfInBounds_toArray, List.set_cons_zero, List.set_cons_succ]
        refine wpAnyH_take (i := 22) (oi := { dst := some 130, op := Go.Op.binOp Go.BinOp.geq 3 (Go.Operand.tmp 127) (Go.Operand.tmp 129) 3, type := 4, pos := _, after := #[{ on := 19, ground := Go.Ground.data }, { on := 21, ground := Go.Ground.data }, { on := 18, ground := Go.Ground.guard }], guard := some (18, false) }) (v := ?_) rfl (by kernel_rfl) (by kernel_rfl) (by kernel_rfl) (fun _ _ _ h => h) (Or.inl ⟨by rfl, ?_⟩) hHeld ?_
        rotate_left
        · intro wy hSw; (try dsimp only at hSw); go_simp; try with_reducible rfl
        simp only [Act.put, List.setIfInBounds_toArray, List.set_cons_zero, List.set_cons_succ]
        refine wpAnyH_take (i := 23) (oi := { dst := some 131, op := Go.Op.move (Go.Operand.tmp 130), type := 4, pos := _, after := #[{ on := 22, ground := Go.Ground.data }, { on := 18, ground := Go.Ground.chain }, { on := 18, ground := Go.Ground.guard }], guard := some (18, false) }) (v := ?_) rfl (by kernel_rfl) (by kernel_rfl) (by kernel_rfl) (fun _ _ _ h => h) (Or.inl ⟨by rfl, ?_⟩) hHeld ?_
        rotate_left
        · intro wy hSw; (try dsimp only at hSw); go_simp; try with_reducible rfl
        simp only [Act.put, List.setIfInBounds_toArray, List.set_cons_zero, List.set_cons_succ]
        refine wpAnyH_take (i := 24) (oi := { dst := some 132, op := Go.Op.move (Go.Operand.tmp 12), type := 24, pos := _, after := #[{ on := 23, ground := Go.Ground.guard }], guard := some (23, true) }) (v := ?_) rfl (by kernel_rfl) (by kernel_rfl) (by kernel_rfl) (fun _ _ _ h => h) (Or.inl ⟨by rfl, ?_⟩) hHeld ?_
        rotate_left
        · intro wy hSw; (try dsimp only at hSw); go_simp; try with_reducible rfl
        simp only [Act.put, List.setIfInBounds_toArray, List.set_cons_zero, List.set_cons_succ]
        refine wpAnyH_take (i := 25) (oi := { dst := some 133, op := Go.Op.move (Go.Operand.tmp 15), type := 3, pos := _, after := #[{ on := 23, ground := Go.Ground.guard }], guard := some (23, true) }) (v := ?_) rfl (by kernel_rfl) (by kernel_rfl) (by kernel_rfl) (fun _ _ _ h => h) (Or.inl ⟨by rfl, ?_⟩) hHeld ?_
        rotate_left
        · intro wy hSw; (try dsimp only at hSw); go_simp; try with_reducible rfl
        simp only [Act.put, List.setIfInBounds_toArray, List.set_cons_zero, List.set_cons_succ]
        refine wpAnyH_take (i := 26) (oi := { dst := some 134, op := Go.Op.indexAddr 24 (Go.Operand.tmp 132) (Go.Operand.tmp 133), type := 0, pos := _, after := #[{ on := 24, ground := Go.Ground.data }, { on := 25, ground := Go.Ground.data }, { on := 23, ground := Go.Ground.guard }], guard := some (23, true) }) (v := ?_) rfl (by kernel_rfl) (by kernel_rfl) (by kernel_rfl) (fun _ _ _ h => h) (Or.inl ⟨by rfl, ?_⟩) hHeld ?_
        rotate_left
        · intro wy hSw; (try dsimp only at hSw); go_simp; try with_reducible rfl
        simp only [Act.put, List.setIfInBounds_toArray, List.set_cons_zero, List.set_cons_succ]
        refine wpAnyH_take (i := 27) (oi := { dst := some 135, op := Go.Op.load 30 (Go.Operand.tmp 134), type := 30, pos := _, after := #[{ on := 26, ground := Go.Ground.data }, { on := 23, ground := Go.Ground.guard }], guard := some (23, true) }) (v := ?_) rfl (by kernel_rfl) (by kernel_rfl) (by kernel_rfl) (fun _ _ _ h => h) (Or.inl ⟨by rfl, ?_⟩) hHeld ?_
        rotate_left
        · intro wy hSw; (try dsimp only at hSw); go_simp; try with_reducible rfl
        simp only [Act.put, List.setIfInBounds_toArray, List.set_cons_zero, List.set_cons_succ]
        refine wpAnyH_take (i := 29) (oi := { dst := some 137, op := Go.Op.move (Go.Operand.tmp 8), type := 24, pos := _, after := #[{ on := 23, ground := Go.Ground.guard }], guard := some (23, true) }) (v := ?_) rfl (by kernel_rfl) (by kernel_rfl) (by kernel_rfl) (fun _ _ _ h => h) (Or.inl ⟨by rfl, ?_⟩) hHeld ?_
        rotate_left
        · intro wy hSw; (try dsimp only at hSw); go_simp; try with_reducible rfl
        simp only [Act.put, List.setIfInBounds_toArray, List.set_cons_zero, List.set_cons_succ]
        refine wpAnyH_take (i := 30) (oi := { dst := some 138, op := Go.Op.move (Go.Operand.tmp 15), type := 3, pos := _, after := #[{ on := 23, ground := Go.Ground.guard }], guard := some (23, true) }) (v := ?_) rfl (by kernel_rfl) (by kernel_rfl) (by kernel_rfl) (fun _ _ _ h => h) (Or.inl ⟨by rfl, ?_⟩) hHeld ?_
        rotate_left
        · intro wy hSw; (try dsimp only at hSw); go_simp; try with_reducible rfl
        simp only [Act.put, List.setIfInBounds_toArray, List.set_cons_zero, List.set_cons_succ]
        refine wpAnyH_take (i := 31) (oi := { dst := some 139, op := Go.Op.move (Go.Operand.tmp 5), type := 24, pos := _, after := #[{ on := 23, ground := Go.Ground.guard }], guard := some (23, true) }) (v := ?_) rfl (by kernel_rfl) (by kernel_rfl) (by kernel_rfl) (fun _ _ _ h => h) (Or.inl ⟨by rfl, ?_⟩) hHeld ?_
        rotate_left
        · intro wy hSw; (try dsimp only at hSw); go_simp; try with_reducible rfl
        simp only [Act.put, List.setIfInBounds_toArray, List.set_cons_zero, List.set_cons_succ]
        refine wpAnyH_take (i := 32) (oi := { dst := some 140, op := Go.Op.call { callee := Go.Callee.builtin Go.Builtin.len, args := #[Go.Operand.tmp 139], argTypes := #[24] }, type := 3, pos := _, after := #[{ on := 31, ground := Go.Ground.data }, { on := 23, ground := Go.Ground.guard }], guard := some (23, true) }) (v := ?_) rfl (by kernel_rfl) (by kernel_rfl) (by kernel_rfl) (fun _ _ _ h => h) (Or.inl ⟨by rfl, ?_⟩) hHeld ?_
        rotate_left
        · intro wy hSw; (try dsimp only at hSw); go_simp; try with_reducible rfl
        simp only [Act.put, List.setIfInBounds_toArray, List.set_cons_zero, List.set_cons_succ]
        refine wpAnyH_take (i := 33) (oi := { dst := some 141, op := Go.Op.binOp Go.BinOp.sub 3 (Go.Operand.tmp 138) (Go.Operand.tmp 140) 3, type := 3, pos := _, after := #[{ on := 30, ground := Go.Ground.data }, { on := 32, ground := Go.Ground.data }, { on := 23, ground := Go.Ground.guard }], guard := some (23, true) }) (v := ?_) rfl (by kernel_rfl) (by kernel_rfl) (by kernel_rfl) (fun _ _ _ h => h) (Or.inl ⟨by rfl, ?_⟩) hHeld ?_
        rotate_left
        · intro wy hSw; (try dsimp only at hSw); go_simp; try with_reducible rfl
        simp only [Act.put, List.setIfInBounds_toArray, List.set_cons_zero, List.set_cons_succ]
        refine wpAnyH_take (i := 34) (oi := { dst := some 142, op := Go.Op.indexAddr 24 (Go.Operand.tmp 137) (Go.Operand.tmp 141), type := 0, pos := _, after := #[{ on := 29, ground := Go.Ground.data }, { on := 33, ground := Go.Ground.data }, { on := 23, ground := Go.Ground.guard }], guard := some (23, true) }) (v := ?_) rfl (by kernel_rfl) (by kernel_rfl) (by kernel_rfl) (fun _ _ _ h => h) (Or.inl ⟨by rfl, ?_⟩) hHeld ?_
        rotate_left
        · intro wy hSw; (try dsimp only at hSw); go_simp; try with_reducible rfl
        simp only [Act.put, List.setIfInBounds_toArray, List.set_cons_zero, List.set_cons_succ]
        refine wpAnyH_take (i := 35) (oi := { dst := some 143, op := Go.Op.load 30 (Go.Operand.tmp 142), type := 30, pos := _, after := #[{ on := 34, ground := Go.Ground.data }, { on := 23, ground := Go.Ground.guard }], guard := some (23, true) }) (v := ?_) rfl (by kernel_rfl) (by kernel_rfl) (by kernel_rfl) (fun _ _ _ h => h) (Or.inl ⟨by rfl, ?_⟩) hHeld ?_
        rotate_left
        · intro wy hSw; (try dsimp only at hSw); go_simp; try with_reducible rfl
        simp only [Act.put, List.setIfInBounds_toArray, List.set_cons_zero, List.set_cons_succ]
        refine wpAnyH_ready (rs := [28]) (by kernel_rfl) (by simp) ?_
        refine AllReadyH.cons (o := { dst := some 136, op := Go.Op.call { callee := Go.Callee.value (Go.Operand.func 8), args := #[Go.Operand.tmp 135], argTypes := #[30] }, type := 32, pos := _, after := #[{ on := 27, ground := Go.Ground.data }, { on := 23, ground := Go.Ground.chain }, { on := 23, ground := Go.Ground.guard }], guard := some (23, true) }) rfl (fun K hK => ?_) AllReadyH.nil
        go_simp
        go_at_call 8
        refine (plain_any t _ _ _ _).mono ?_
        rintro e w'' ⟨rfl, hbn⟩
        have hbw := bel_next hHeld.1 hbn
        try go_wp2_with fail
        refine hK.out _ _ (held_two hX hY hbw) ?_
        clear hHeld hK K
        intro hHeld
        try simp only [Act.put, List.setIfInBounds_toArray, List.set_cons_zero, List.set_cons_succ]
        refine wpAnyH_ready (rs := [36]) (by kernel_rfl) (by simp) ?_
        refine AllReadyH.cons (o := { dst := some 144, op := Go.Op.call { callee := Go.Callee.value (Go.Operand.func 8), args := #[Go.Operand.tmp 143], argTypes := #[30] }, type := 32, pos := _, after := #[{ on := 35, ground := Go.Ground.data }, { on := 28, ground := Go.Ground.chain }, { on := 23, ground := Go.Ground.guard }], guard := some (23, true) }) rfl (fun K hK => ?_) AllReadyH.nil
        go_simp
        go_at_call 8
        refine (plain_any t _ _ _ _).mono ?_
        rintro e w'' ⟨rfl, hbn⟩
        have hbw := bel_next hHeld.1 hbn
        try go_wp2_with fail
        refine hK.out _ _ (held_two hX hY hbw) ?_
        clear hHeld hK K
        intro hHeld
        try simp only [Act.put, List.setIfInBounds_toArray, List.set_cons_zero, List.set_cons_succ]
        refine wpAnyH_ready (rs := [37]) (by kernel_rfl) (by simp) ?_
        refine AllReadyH.cons (o := { dst := some 145, op := Go.Op.call { callee := Go.Callee.value (Go.Operand.func 7), args := #[Go.Operand.tmp 136, Go.Operand.tmp 144], argTypes := #[32, 32] }, type := 4, pos := _, after := #[{ on := 28, ground := Go.Ground.data }, { on := 36, ground := Go.Ground.data }, { on := 36, ground := Go.Ground.chain }, { on := 23, ground := Go.Ground.guard }], guard := some (23, true) }) rfl (fun K hK => ?_) AllReadyH.nil
        go_simp
        go_at_call 7
        refine (same_eq t _ _ _ _ _ _ _ (hA3a _ hHeld.1) (hAa _ hHeld.1)).mono ?_
        rintro e w'' ⟨rfl, hbn⟩
        have hbw := bel_next hHeld.1 hbn
        try go_wp2_with fail
        refine hK.out _ _ (held_two hX hY hbw) ?_
        clear hHeld hK K
        intro hHeld
        try simp only [Act.put, List.setIfInBounds_toArray, List.set_cons_zero, List.set_cons_succ]
        refine wpAnyH_take (i := 38) (oi := { dst := some 146, op := Go.Op.unOp Go.UnOp.not 4 (Go.Operand.tmp 145), type := 4, pos := _, after := #[{ on := 37, ground := Go.Ground.data }, { on := 23, ground := Go.Ground.guard }], guard := some (23, true) }) (v := ?_) rfl (by kernel_rfl) (by kernel_rfl) (by kernel_rfl) (fun _ _ _ h => h) (Or.inl ⟨by rfl, ?_⟩) hHeld ?_
        rotate_left
        · intro wy hSw; (try dsimp only at hSw); go_simp; try with_reducible rfl
        simp only [Act.put, List.setIfInBounds_toArray, List.set_cons_zero, List.set_cons_succ]
        refine wpAnyH_take (i := 39) (oi := { dst := some 147, op := Go.Op.pick (Go.Operand.tmp 131) (Go.Operand.tmp 146) (Go.Operand.const (Go.Value.bool false)), type := 4, pos := _, after := #[{ on := 23, ground := Go.Ground.data }, { on := 38, ground := Go.Ground.data }, { on := 18, ground := Go.Ground.guard }], guard := some (18, false) }) (v := ?_) rfl (by kernel_rfl) (by kernel_rfl) (by kernel_rfl) (fun _ _ _ h => h) (Or.inl ⟨by rfl, ?_⟩) hHeld ?_
        rotate_left
        · intro wy hSw; (try dsimp only at hSw); go_simp; try with_reducible rfl
        simp only [Act.put, List.setIfInBounds_toArray, List.set_cons_zero, List.set_cons_succ]
        refine wpAnyH_take (i := 40) (oi := { dst := some 148, op := Go.Op.pick (Go.Operand.tmp 126) (Go.Operand.const (Go.Value.bool true)) (Go.Operand.tmp 147), type := 4, pos := _, after := #[{ on := 18, ground := Go.Ground.data }, { on := 39, ground := Go.Ground.data }], guard := none }) (v := ?_) rfl (by kernel_rfl) (by kernel_rfl) (by kernel_rfl) (fun _ _ _ h => h) (Or.inl ⟨by rfl, ?_⟩) hHeld ?_
        rotate_left
        · intro wy hSw; (try dsimp only at hSw); go_simp; try with_reducible rfl
        simp only [Act.put, List.setIfInBounds_toArray, List.set_cons_zero, List.set_cons_succ]
        refine wpAnyH_done (by kernel_rfl) ?_ _
        go_wp2_with fail
        go_roundw
        case rel => first | exact ⟨j + (na + 1) + 1, by go_num, by omega, hHeld.1⟩ | ((repeat apply Exists.intro); exact ⟨⟨j + (na + 1) + 1, by go_num, by omega, hHeld.1⟩, rfl⟩)
        case measure => simp [intOf]; omega
    · have hdk : decide ((k : Int) < (na : Int) + 1 + ((nb : Int) + 1)) = false := by rw [decide_eq_false_iff_not]; omega
      have haw := awake_any _ (hgw.below hgw.size hbq)
      go_wp2_with fail
      refine haw.mono ?_
      rintro e w9 ⟨rfl, hb9⟩
      go_wp2_with fail
      go_ret
      exact ⟨rfl, hby.trans ((hbq.mono hby.size).trans (hb9.mono (by have := hby.size; have := hbq.size; omega)))⟩
end Go.Proofs.YtkehbepopegboaaDoor
