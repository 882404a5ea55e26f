/-
  Layer 9 (schema): contents that may not be; words that are no type's; names that stand twice: the walks of these closures. Conditions: what comes in is bounded.
-/
import Derived.Test.YtnnbdlmilbcpjaaGreatDoorSAsk3
namespace Go.Proofs.YtnnbdlmilbcpjaaGreatDoor
open Go.RowKit
set_option linter.unusedVariables false
theorem contentE_step {l : List SType} {k : Nat} {t : SType} (h : l[k]? = some t) : contentE (l.drop k) = if t.text = false ∧ regexE t.nodes ≠ 0 then regexE t.nodes else contentE (l.drop (k + 1)) := by
  obtain ⟨hk, e⟩ := List.getElem?_eq_some_iff.1 h
  rw [List.drop_eq_getElem_cons hk, e]
  rfl
set_option maxHeartbeats 2000000 in
set_option maxRecDepth 100000 in
theorem ask8_any {w : World} {S P T M : Nat} {o : Option Addr} {cap : Nat} {l : List TyV} (h : Env w S P T M o cap l) (hL : Lim l) :
    Calls Tryz.prog 53 #[.pointer (some ⟨S, 0, none⟩)] w fun e w' => e = .returned (.int .i64 (contentE (l.map TyV.t))) ∧ Below w.heap.size w w' := by
  obtain ⟨R, hR⟩ : ∃ R, R = contentE (l.map TyV.t) := ⟨_, rfl⟩
  rw [← hR]
  have hll := hL.len
  have hcm := h.types.1.2.2.1
  unfold maxLen at hcm
  have c1 := cell_of_row w S 0 _ _ _ h.s
  have HR := Lib.hid hR
  clear hR
  go_enter Tryz.func53, Tryz.ntmps53
  go_wp2_with fail
  clear c1
  go_loopw [8] (fun v wr => ∃ k : Nat, v = .int .i64 k ∧ k ≤ l.length ∧ Below w.heap.size w wr ∧ Hid (R = contentE ((l.map TyV.t).drop k))) (fun v _ => l.length - (intOf v).toNat)
  case atStart => exact ⟨0, rfl, Nat.zero_le _, Below.refl _ _, HR.out⟩
  case round =>
    obtain ⟨k, rfl, hk, hbr, HK⟩ := hrel
    by_cases hlt : k < l.length
    · have hdk : decide ((k : Int) < (l.length : Int)) = true := by rw [decide_eq_true_eq]; omega
      have hki : (k : Int) < (l.length : Int) := by omega
      obtain ⟨x, hx⟩ : ∃ n, l[k]? = some n := ⟨_, List.getElem?_eq_getElem hlt⟩
      have hmem := List.mem_of_getElem? hx
      obtain ⟨b, off, rfl, hbl, x0, x1, x2, x3, x4, x5⟩ := (h.types.below hbr).at hx
      have hst := contentE_step (l := l.map TyV.t) (k := k) (t := x.t) (by rw [List.getElem?_map, hx]; rfl)
      rw [← HK.out] at hst
      have hck := fun w' (hb : Below w.heap.size w w') => regexCheck_any x.t.nodes x.no x.nc w' ((h.types.2 x hmem).2.below hb) (hL.sym x hmem)
      obtain ⟨⟨name, label, attrs, key, text, nodes⟩, ao, ac, no, nc⟩ := x
      simp only at x0 x1 x2 x3 x4 x5 hst hck
      have hb1 := hbr.alloc hbr.size (.cells #[.string ⟨name.toArray⟩, .string ⟨label.toArray⟩, .slice ao attrs.length ac, .string ⟨key.toArray⟩, .bool text, .slice no nodes.length nc] 47)
      have hc1 := hck _ hb1
      clear hx hmem hck
      cases text with
      | true =>
        rw [if_neg (by simp)] at hst
        have Hst := Lib.hid hst
        clear hst hc1
        go_wp2_with fail
        go_roundw
        case rel => exact ⟨k + 1, by go_num, by omega, hb1, Hst.out⟩
        case measure => simp [intOf]; omega
      | false =>
        obtain ⟨E, hE⟩ : ∃ E, E = regexE nodes := ⟨_, rfl⟩
        rw [← hE] at hst hc1
        by_cases h0 : E = 0
        · subst h0
          rw [if_neg (by simp)] at hst
          have Hst := Lib.hid hst
          clear hst hE
          go_wp2_with fail
          refine hc1.mono ?_
          rintro e w3 ⟨rfl, hb3⟩
          clear hc1
          have hbe := hb1.trans (hb3.mono hb1.size)
          go_wp2_with fail
          go_roundw
          case rel => exact ⟨k + 1, by go_num, by omega, hbe, Hst.out⟩
          case measure => simp [intOf]; omega
        · rw [if_pos ⟨rfl, h0⟩] at hst
          have hne : (E == 0) = false := by rw [beq_eq_false_iff_ne]; exact h0
          have hne2 : (E != 0) = true := by rw [bne_iff_ne]; exact h0
          have Hst := Lib.hid hst
          clear hst hE h0
          go_wp2_with fail
          refine hc1.mono ?_
          rintro e w3 ⟨rfl, hb3⟩
          clear hc1
          have hbe := hb1.trans (hb3.mono hb1.size)
          go_wp2_with fail
          go_ret
          exact ⟨ret_int Hst.out.symm, hbe⟩
    · have hdk : decide ((k : Int) < (l.length : Int)) = false := by rw [decide_eq_false_iff_not]; omega
      have hRe : R = 0 := by
        have := HK.out
        rw [List.drop_of_length_le (by rw [List.length_map]; omega)] at this
        exact this
      have HRe := Lib.hid hRe
      clear hRe
      go_wp2_with fail
      go_ret
      exact ⟨ret_int HRe.out.symm, hbr⟩
theorem str_key (b : Bytes) (h : b.length ≤ 1048576) : keyOf Tryz.prog 9 (.string ⟨b.toArray⟩) = some (.string b) := by
  have := WideMaps.keyOf_string_mk Tryz.underlying9 (s := ⟨b.toArray⟩) (by rw [Lib.size_eq]; show b.length ≤ maxLen; unfold maxLen; omega)
  simpa using this
theorem zero_int : ∀ wz, (zeroValue 3).run Tryz.prog wz = .ok (.int .i64 0) wz := fun wz => by kernel_rfl
set_option maxHeartbeats 1000000 in
set_option maxRecDepth 100000 in
theorem ask9in_any {w : World} {P M : Nat} {ts : List SType} (hp : w.heap[P]? = some (.cells #[.map (some M)] 61 (0, 0))) (hM : PlacesAt w M ts) (b : Bytes) (hb : b.length ≤ 1048576) :
    Calls Tryz.prog 56 #[.string ⟨b.toArray⟩, .pointer (some ⟨P, 0, none⟩)] w fun e w' => e = .returned (.bool (placeS ts b).isNone) ∧ Below w.heap.size w w' := by
  have c1 := cell_of_row w P 0 _ _ _ hp
  obtain ⟨D, n, hD, hn, hmap⟩ := hM
  have hkey := str_key b hb
  have hz := zero_int
  have hh := hD.has b
  have hnone : (placeS ts b).isNone = !(placeS ts b).isSome := by cases placeS ts b <;> rfl
  rw [hnone, ← hh]
  clear hnone hh hp
  go_enter Tryz.func56, Tryz.ntmps56
  go_wp2_with (first
    | (at_lookup; go_must (refine wpList_lookup_own_ok_int _ rfl _ _ 61 rfl 9 3 .i64 (Maps.string_keyed Tryz.underlying9) Tryz.underlying61 Tryz.underlying3 (hz _) M _ D rfl hmap _ _ rfl hkey ?_); intro c hat hwc; clear hat hwc)
    | fail)
  go_ret
  exact ⟨rfl, Below.refl _ _⟩
theorem below_block {B : Nat} {w w' : World} (h : Below B w w') {k : Nat} {o : Obj} (hk : w.heap[k]? = some o) (hB : k < B) : w'.heap[k]? = some o := (h.block k hB).trans hk
theorem symsS_len (l : List SNode) : (symsS l).length ≤ 1024 := by
  unfold symsS
  split
  · rename_i h
    have hl : l.length ≤ 1024 := by
      apply Classical.byContradiction
      intro hc
      unfold regexE at h
      rw [if_pos (by omega)] at h
      cases h
    have h1 : ∀ l : List Bytes, (compactB l).length ≤ l.length := by
      intro l
      rw [← compact_eq]
      exact Lib.compact_length_le l
    have := h1 ((symsOf l).mergeSort leS)
    rw [List.length_mergeSort] at this
    have := symsOf_len l
    omega
  · simp
set_option maxRecDepth 100000 in
theorem enter_in9 : ∀ args wz, (callFunc 56 args).run Tryz.prog wz = .ok (.enter 56 args) wz := fun _ _ => rfl
set_option maxHeartbeats 1000000 in
set_option maxRecDepth 100000 in
theorem ask9_any {w : World} {P M : Nat} {ts : List SType} (hp : w.heap[P]? = some (.cells #[.map (some M)] 61 (0, 0))) (hM : PlacesAt w M ts) (x : TyV) (hN : NodesAt w x.no x.nc x.t.nodes) (hs : ∀ n ∈ x.t.nodes, n.sym.length ≤ 1048576) :
    Calls Tryz.prog 54 #[typeVal x, .pointer (some ⟨P, 0, none⟩)] w fun e w' => e = .returned (.bool ((symsS x.t.nodes).any fun n => (placeS ts n).isNone)) ∧ Below w.heap.size w w' := by
  have hsy : ∀ b ∈ symsS x.t.nodes, b.length ≤ 1048576 := fun b hb => by
    obtain ⟨n, hn, rfl⟩ := symsS_mem hb
    exact hs n hn
  have hsl := symsS_len x.t.nodes
  have hw2 := fun w2 (hb : Below w.heap.size w w2) => symbols_any x.t.nodes x.no x.nc w2 (hN.below hb) hs
  unfold SymsLeft at hw2
  obtain ⟨ss, hss⟩ : ∃ ss, ss = symsS x.t.nodes := ⟨_, rfl⟩
  rw [← hss] at hw2 hsy hsl ⊢
  have hcw := fun w' (hb : Below w.heap.size w w') so sc (hW : WordsIn w' so sc ss) => contains_words (F := 56) (caps := #[.pointer (some ⟨P, 0, none⟩)]) (q := fun n => (placeS ts n).isNone) ss so sc w' hW (by omega) enter_in9
    (fun b hb' w1 hb1 => ask9in_any (w := w1) (below_block (hb.trans (hb1.mono hb.size)) hp (lt_of_block hp)) (hM.below (hb.trans (hb1.mono hb.size))) b (hsy b hb'))
  obtain ⟨⟨name, label, attrs, key, text, nodes⟩, ao, ac, no, nc⟩ := x
  unfold typeVal typeRow
  simp only at hw2 ⊢
  have hb0 : Below w.heap.size w (w.alloc (.cells #[.string ⟨name.toArray⟩, .string ⟨label.toArray⟩, .slice ao attrs.length ac, .string ⟨key.toArray⟩, .bool text, .slice no nodes.length nc] 47)) := (Below.refl _ w).alloc (Nat.le_refl _) _
  have hw3 := hw2 _ hb0
  have Hcw := Lib.hid hcw
  clear hw2 hcw hN hss hM hs hp
  go_enter Tryz.func54, Tryz.ntmps54
  go_wp2_with fail
  refine hw3.mono ?_
  rintro e w3 ⟨⟨v, rfl, hown⟩, hb3⟩
  have hbe := hb0.trans (hb3.mono hb0.size)
  obtain ⟨vo, vc, rfl⟩ := ownsRow_shape hown
  obtain ⟨hnl, hin⟩ := wordsIn_of_own hown
  have hcw := Hcw.out w3 hbe vo vc hin
  clear Hcw hw3 hin hown hnl
  go_wp2_with fail
  refine hcw.mono ?_
  rintro e w4 ⟨rfl, hb4⟩
  go_wp2_with fail
  go_ret
  exact ⟨rfl, hbe.trans (hb4.mono hbe.size)⟩
set_option maxHeartbeats 1000000 in
set_option maxRecDepth 100000 in
theorem ask5_any {w : World} {S P T M : Nat} {o : Option Addr} {cap : Nat} {l : List TyV} (h : Env w S P T M o cap l) (hl : l.length ≤ 1048576) :
    Calls Tryz.prog 50 #[.pointer (some ⟨T, 0, none⟩), .pointer (some ⟨P, 0, none⟩), .pointer (some ⟨S, 0, none⟩)] w fun e w' => e = .returned (.int .i64 (if twiceB ((l.map TyV.t).map SType.name) = true then 15 else 0)) ∧ w = w' := by
  have c1 := cell_of_row w S 0 _ _ _ h.s
  have c2 := cell_of_row w T 0 _ _ _ h.t
  have c3 := cell_of_row w P 0 _ _ _ h.p
  have he := enter_told
  obtain ⟨D, n, hD, hn, hmap⟩ := h.places
  have htw := dcount_twice ((l.map TyV.t).map SType.name)
  rw [List.length_map, List.length_map, ← hD.size] at htw
  have hsz : Maps.size D ≤ l.length := by
    have := hmap.size_le
    rw [List.length_map] at hn
    omega
  rw [← htw]
  clear h htw hD hn
  by_cases hlt : Maps.size D < l.length
  · have hd : decide ((Maps.size D : Int) < (l.length : Int)) = true := by rw [decide_eq_true_eq]; omega
    rw [decide_eq_true hlt, if_pos rfl]
    go_enter Tryz.func50, Tryz.ntmps50
    go_wp2_with (first
      | (at_len; refine wpList_len_own _ rfl _ 61 rfl 9 3 Tryz.underlying61 _ M _ D rfl hmap ?_)
      | fail)
    refine (told_yes _ _).mono ?_
    rintro e w' ⟨rfl, rfl⟩
    go_wp2_with fail
    go_ret
    exact ⟨rfl, rfl⟩
  · have hd : decide ((Maps.size D : Int) < (l.length : Int)) = false := by rw [decide_eq_false_iff_not]; omega
    rw [decide_eq_false hlt, if_neg (by simp)]
    go_enter Tryz.func50, Tryz.ntmps50
    go_wp2_with (first
      | (at_len; refine wpList_len_own _ rfl _ 61 rfl 9 3 Tryz.underlying61 _ M _ D rfl hmap ?_)
      | fail)
    refine (told_no _ _).mono ?_
    rintro e w' ⟨rfl, rfl⟩
    go_wp2_with fail
    go_ret
    exact ⟨rfl, rfl⟩
end Go.Proofs.YtnnbdlmilbcpjaaGreatDoor
