/-
  Layer 9 (schema): Find and Child: their walks. Conditions: what comes in is bounded.
-/
import Derived.Test.YtnnbdlmilbcpjaaGreatDoorSChk
namespace Go.Proofs.YtnnbdlmilbcpjaaGreatDoor
open Go.RowKit
set_option linter.unusedVariables false
theorem ret_two {a b c d : Int} (h1 : a = c) (h2 : b = d) : Ending.returned (.tuple #[.int .i64 a, .int .i64 b]) = .returned (.tuple #[.int .i64 c, .int .i64 d]) := by rw [h1, h2]
def FindPost (r : Int × Int) (w : World) (e : Ending) (w' : World) : Prop := e = .returned (.tuple #[.int .i64 r.1, .int .i64 r.2]) ∧ Below w.heap.size w w'
theorem FindPost.of {r : Int × Int} {a b : Int} {w w' : World} {e : Ending} (h : r = (a, b)) (he : e = .returned (.tuple #[.int .i64 a, .int .i64 b])) (hb : Below w.heap.size w w') : FindPost r w e w' := by
  subst h; exact ⟨he, hb⟩
set_option maxHeartbeats 2000000 in
set_option maxRecDepth 100000 in
theorem find_any (l : List TyV) (o : Option Addr) (cap : Nat) (w : World) (h : TypesAt w o cap l) (hL : Lim l) (n : Bytes) (hn : n.length ≤ 1048576) :
    Calls Tryz.prog 10 #[.agg #[.slice o l.length cap], .string ⟨n.toArray⟩] w (FindPost (findS (l.map TyV.t) n) w) := by
  have hb0 : Below w.heap.size w (w.alloc (.cells #[.slice o l.length cap] 24)) := (Below.refl _ w).alloc (Nat.le_refl _) _
  have hx0 := heap_alloc_new w (.cells #[.slice o l.length cap] 24)
  have hz0 : w.heap.size < (w.alloc (.cells #[.slice o l.length cap] 24)).heap.size := by simp
  have hck := check_any l o cap _ (h.below hb0) hL
  have hpl := fun w' (hb : Below w.heap.size w w') => places_any l o cap w' (h.below hb) hL.len hL.name
  have hkey := str_key n hn
  have hz := zero_int
  obtain ⟨R, hR⟩ : ∃ R, R = findS (l.map TyV.t) n := ⟨_, rfl⟩
  rw [← hR]
  unfold findS at hR
  obtain ⟨ts, hts⟩ : ∃ ts, ts = l.map TyV.t := ⟨_, rfl⟩
  rw [← hts] at hck hpl hR
  obtain ⟨E, hE⟩ : ∃ E, E = chkS ts := ⟨_, rfl⟩
  rw [← hE] at hck hR
  by_cases h0 : E = 0
  · rw [if_pos h0] at hR
    subst h0
    have Hpl := Lib.hid hpl
    have HR := Lib.hid hR
    clear hR hE hts hpl h
    go_enter Tryz.func10, Tryz.ntmps10
    go_wp2_with fail
    refine hck.mono ?_
    rintro e w2 ⟨rfl, hb2⟩
    have hbe := bel_next hb0 hb2
    have hx2 := (hb2.block w.heap.size hz0).trans hx0
    have cs := cell_of_row w2 w.heap.size 0 _ _ _ hx2
    have hp2 := Hpl.out w2 hbe
    clear hck hb0 hb2 hx0 hx2 hz0 Hpl
    go_wp2_with fail
    refine hp2.mono ?_
    rintro e w3 ⟨rfl, hP, hb3⟩
    have hbe3 := bel_next hbe hb3
    obtain ⟨D, m, hD, hm, hmap⟩ := hP
    have hh := hD.has n
    have hat0 := hD.at0 n
    clear hp2 hb3 cs hD
    cases hp : placeS ts n with
    | none =>
      rw [hp] at hh hat0
      have hRe : R = (0, 16) := by rw [HR.out, hp]
      have HRe := Lib.hid hRe
      clear hRe hp HR
      go_wp2_with (first
        | (at_lookup; go_must (refine wpList_lookup_own_ok_int _ rfl _ _ 61 rfl 9 3 .i64 (Maps.string_keyed Tryz.underlying9) Tryz.underlying61 Tryz.underlying3 (hz _) _ _ D rfl hmap _ _ rfl hkey ?_); intro c hat hwc; rw [hh]; clear hat hwc)
        | fail)
      go_ret2
      exact FindPost.of HRe.out rfl hbe3
    | some k =>
      rw [hp] at hh hat0
      have hRe : R = ((k : Int), 0) := by rw [HR.out, hp]
      have HRe := Lib.hid hRe
      clear hRe hp HR
      go_wp2_with (first
        | (at_lookup; go_must (refine wpList_lookup_own_ok_int _ rfl _ _ 61 rfl 9 3 .i64 (Maps.string_keyed Tryz.underlying9) Tryz.underlying61 Tryz.underlying3 (hz _) _ _ D rfl hmap _ _ rfl hkey ?_); intro c hat hwc; rw [hh]; obtain rfl : c = (k : Int) := by { rw [hat0] at hat; injection hat with hat; injection hat with _ hat; exact hat.symm })
        | fail)
      go_ret2
      exact FindPost.of HRe.out rfl hbe3
  · rw [if_neg h0] at hR
    have HR := Lib.hid hR
    have hne : (E != 0) = true := by rw [bne_iff_ne]; exact h0
    have hne2 : (E == 0) = false := by rw [beq_eq_false_iff_ne]; exact h0
    clear hR hE hts hpl h h0
    go_enter Tryz.func10, Tryz.ntmps10
    go_wp2_with fail
    refine hck.mono ?_
    rintro e w2 ⟨rfl, hb2⟩
    have hbe := bel_next hb0 hb2
    clear hck
    go_wp2_with fail
    go_ret2
    exact FindPost.of HR.out rfl hbe
/-- the first child of a label -/
theorem childS_ne {ts : List SType} {n label : Bytes} (h : (findS ts n).2 ≠ 0) : childS ts n label = (0, (findS ts n).2) := by
  unfold childS findS at *
  by_cases h0 : chkS ts = 0
  · rw [if_pos h0] at h
    rw [if_pos h0, if_pos h0]
    cases hp : placeS ts n with
    | none => rfl
    | some k => rw [hp] at h; exact absurd rfl h
  · rw [if_neg h0, if_neg h0]
theorem childS_eq {ts : List SType} {n label : Bytes} (h : (findS ts n).2 = 0) : ∃ (k : Nat) (t : SType), findS ts n = ((k : Int), 0) ∧ ts[k]? = some t ∧ childS ts n label = match (kidsS ts t).find? (fun j => labelAt ts j == label) with | some j => ((j : Int), 0) | none => (0, 16) := by
  unfold childS findS at *
  by_cases h0 : chkS ts = 0
  · rw [if_pos h0] at h ⊢
    rw [if_pos h0]
    cases hp : placeS ts n with
    | none => rw [hp] at h; cases h
    | some k =>
      have hk := placeS_lt hp
      refine ⟨k, ts[k], rfl, List.getElem?_eq_getElem hk, ?_⟩
      simp only [List.getElem?_eq_getElem hk]
      rfl
  · rw [if_neg h0] at h
    exact absurd h h0
/-- kids, its row read -/
theorem kids_read (ts : List SType) (x : TyV) (sv : Value) (M : Nat) (w : World) (hsv : ∃ o n c, sv = .agg #[.slice o n c]) (h : NodesAt w x.no x.nc x.t.nodes) (hP : PlacesAt w M ts) (hs : ∀ n ∈ x.t.nodes, n.sym.length ≤ 1048576) :
    Calls Tryz.prog 26 #[sv, typeVal x, .map (some M)] w fun e w' => ∃ vo vc, e = .returned (.slice vo (kidsS ts x.t).length vc) ∧ IntsIn w' vo vc (kidsS ts x.t) ∧ Below w.heap.size w w' :=
  (kids_any ts x sv M w hsv h hP (by obtain ⟨D, n, _, _, hm⟩ := hP; exact hm.lt) (by have := symsS_len x.t.nodes; omega) hs).mono fun e w' ⟨⟨v, he, hown⟩, hb⟩ => by
    obtain ⟨vo, vc, rfl, hin⟩ := intsIn_of_own hown
    exact ⟨vo, vc, he, hin, hb⟩
set_option maxHeartbeats 4000000 in
set_option maxRecDepth 100000 in
theorem child_any (l : List TyV) (o : Option Addr) (cap : Nat) (w : World) (h : TypesAt w o cap l) (hL : Lim l) (n label : Bytes) (hn : n.length ≤ 1048576) :
    Calls Tryz.prog 11 #[.agg #[.slice o l.length cap], .string ⟨n.toArray⟩, .string ⟨label.toArray⟩] w (FindPost (childS (l.map TyV.t) n label) w) := by
  have hb0 : Below w.heap.size w (w.alloc (.cells #[.slice o l.length cap] 24)) := (Below.refl _ w).alloc (Nat.le_refl _) _
  have hx0 := heap_alloc_new w (.cells #[.slice o l.length cap] 24)
  have hz0 : w.heap.size < (w.alloc (.cells #[.slice o l.length cap] 24)).heap.size := by simp
  have hf := find_any l o cap _ (h.below hb0) hL n hn
  unfold FindPost at hf
  obtain ⟨R, hR⟩ : ∃ R, R = childS (l.map TyV.t) n label := ⟨_, rfl⟩
  rw [← hR]
  have hll := hL.len
  have hcm := h.1.2.2.1
  unfold maxLen at hcm
  by_cases h2 : (findS (l.map TyV.t) n).2 = 0
  · obtain ⟨i, t, hfi, hti, hch⟩ := childS_eq (label := label) h2
    rw [← hR] at hch
    rw [hfi] at hf
    simp only at hf
    obtain ⟨x, hx, rfl⟩ : ∃ x, l[i]? = some x ∧ x.t = t := by
      rw [List.getElem?_map] at hti
      exact Option.map_eq_some_iff.1 hti
    have hi : i < l.length := (List.getElem?_eq_some_iff.1 hx).1
    have hmem := List.mem_of_getElem? hx
    have hlt : ∀ k ∈ kidsS (l.map TyV.t) x.t, k < l.length := fun k hk => by
      have := kidsS_lt (by rw [List.length_map]; omega) hk
      rwa [List.length_map] at this
    have hkl : (kidsS (l.map TyV.t) x.t).length ≤ 1024 := by unfold kidsS; rw [List.length_map]; exact symsS_len _
    have hpl := fun w' (hb : Below w.heap.size w w') => places_any l o cap w' (h.below hb) hL.len hL.name
    have hki := fun w' M (hb : Below w.heap.size w w') hP => kids_read (l.map TyV.t) x (.agg #[.slice o l.length cap]) M w' ⟨_, _, _, rfl⟩ ((h.2 x hmem).2.below hb) hP (hL.sym x hmem)
    have hlabs : ∀ k t, l[k]? = some t → labelAt (l.map TyV.t) k = t.t.label := fun k t hk => labelAt_eq (by rw [List.getElem?_map, hk]; rfl)
    obtain ⟨ks, hks⟩ : ∃ ks, ks = kidsS (l.map TyV.t) x.t := ⟨_, rfl⟩
    rw [← hks] at hlt hkl hki hch
    generalize l.map TyV.t = ts at hf hpl hki hlabs hch
    have Hpl := Lib.hid hpl
    have Hki := Lib.hid hki
    have Hlabs := Lib.hid hlabs
    have Hlt := Lib.hid hlt
    have Hch := Lib.hid hch
    have Hx := Lib.hid hx
    clear hR h2 hfi hti hks hpl hki hlabs hlt hch hx
    have b1 : (0 : Int) ≤ (i : Int) := by omega
    have b2 : (i : Int) < (l.length : Int) := by omega
    go_enter Tryz.func11, Tryz.ntmps11
    go_wp2_with fail
    refine hf.mono ?_
    rintro e w2 ⟨rfl, hb2⟩
    have hbe := bel_next hb0 hb2
    have hx2 := (hb2.block w.heap.size hz0).trans hx0
    have cs := cell_of_row w2 w.heap.size 0 _ _ _ hx2
    have hz2 := lt_of_block hx2
    obtain ⟨b, off, rfl, hbl, x0, x1, x2, x3, x4, x5⟩ := (h.below hbe).at Hx.out
    clear hf hb0 hb2 hx0 hz0
    obtain ⟨⟨name, label', attrs, key, text, nodes⟩, ao, ac, no, nc⟩ := x
    simp only at x0 x1 x2 x3 x4 x5
    go_wp2_with fail
    have hbd := (Below.refl w2.heap.size w2).drew
    have hX : ∀ w', Below w2.heap.size w2 w' → w'.cell? ⟨w.heap.size, 0, none⟩ = some (.slice (some ⟨b, off, none⟩) l.length cap) ∧ w'.cell? ⟨b, off + i * 6, none⟩ = some (.string ⟨name.toArray⟩) ∧ w'.cell? ⟨b, off + i * 6 + 1, none⟩ = some (.string ⟨label'.toArray⟩) ∧ w'.cell? ⟨b, off + i * 6 + 2, none⟩ = some (.slice ao attrs.length ac) ∧ w'.cell? ⟨b, off + i * 6 + 3, none⟩ = some (.string ⟨key.toArray⟩) ∧ w'.cell? ⟨b, off + i * 6 + 4, none⟩ = some (.bool text) ∧ w'.cell? ⟨b, off + i * 6 + 5, none⟩ = some (.slice no nodes.length nc) := fun w' hb =>
      ⟨(hb.cell (p := ⟨w.heap.size, 0, none⟩) hz2).trans cs, (hb.cell (p := ⟨b, _, none⟩) hbl).trans x0, (hb.cell (p := ⟨b, _, none⟩) hbl).trans x1, (hb.cell (p := ⟨b, _, none⟩) hbl).trans x2, (hb.cell (p := ⟨b, _, none⟩) hbl).trans x3, (hb.cell (p := ⟨b, _, none⟩) hbl).trans x4, (hb.cell (p := ⟨b, _, none⟩) hbl).trans x5⟩
    have HX := Lib.hid hX
    clear hX
    go_region_held3 (fun w' => Below w2.heap.size w2 w' ∧ w'.cell? ⟨w.heap.size, 0, none⟩ = some (.slice (some ⟨b, off, none⟩) l.length cap) ∧ w'.cell? ⟨b, off + i * 6, none⟩ = some (.string ⟨name.toArray⟩) ∧ w'.cell? ⟨b, off + i * 6 + 1, none⟩ = some (.string ⟨label'.toArray⟩) ∧ w'.cell? ⟨b, off + i * 6 + 2, none⟩ = some (.slice ao attrs.length ac) ∧ w'.cell? ⟨b, off + i * 6 + 3, none⟩ = some (.string ⟨key.toArray⟩) ∧ w'.cell? ⟨b, off + i * 6 + 4, none⟩ = some (.bool text) ∧ w'.cell? ⟨b, off + i * 6 + 5, none⟩ = some (.slice no nodes.length nc)) (first | exact ⟨by assumption, HX.out _ (by assumption)⟩)
      (first
        | (go_at_call 25; refine (Hpl.out _ (bel_next hbe (by assumption))).mono ?_; rintro e w'' ⟨rfl, hPn, hbn⟩; have hbw := bel_next (w0 := w2) (by assumption) hbn)
        | (go_at_call 26; refine (Hki.out _ _ (bel_next hbe (by assumption)) (by assumption)).mono ?_; rintro e w'' ⟨vo, vc, rfl, hin, hbn⟩; have hbw := bel_next (w0 := w2) (by assumption) hbn))
    clear x0 x1 x2 x3 x4 x5 HX hPn Hx Hpl Hki hbd cs
    have hb9 := bel_next hbe hbw
    have hx9 := (hbw.block w.heap.size hz2).trans hx2
    have hz9 := lt_of_block hx9
    clear hbw hx2 hz2 hbe
    go_wp2_with fail
    go_loopw [31] (fun v wr => ∃ k : Nat, v = .int .i64 k ∧ k ≤ ks.length ∧ Below w''.heap.size w'' wr ∧ Hid (ks.find? (fun j => labelAt ts j == label) = (ks.drop k).find? (fun j => labelAt ts j == label))) (fun v _ => ks.length - (intOf v).toNat)
    case atStart => exact ⟨0, rfl, Nat.zero_le _, Below.refl _ _, rfl⟩
    case round =>
      obtain ⟨k, rfl, hk, hbr, HK⟩ := hrel
      have hbe9 := bel_next hb9 hbr
      by_cases hlt : k < ks.length
      · have hdk : decide ((k : Int) < (ks.length : Int)) = true := by rw [decide_eq_true_eq]; omega
        have c1 : (0 : Int) ≤ (k : Int) := by omega
        have c2 : (k : Int) < (ks.length : Int) := by omega
        obtain ⟨j, hj⟩ : ∃ n, ks[k]? = some n := ⟨_, List.getElem?_eq_getElem hlt⟩
        have hjl := Hlt.out j (List.mem_of_getElem? hj)
        have d1 : (0 : Int) ≤ (j : Int) := by omega
        have d2 : (j : Int) < (l.length : Int) := by omega
        obtain ⟨y, hy⟩ : ∃ n, l[j]? = some n := ⟨_, List.getElem?_eq_getElem hjl⟩
        obtain ⟨g, off2, rfl, hgl, y0⟩ := (hin.below hbr).at hj
        obtain ⟨b', off', e, hbl', x0, x1, x2, x3, x4, x5⟩ := (h.below hbe9).at hy
        injection e with e
        injection e with e1 e2
        subst e1; subst e2
        have cs := cell_of_row _ w.heap.size 0 _ _ _ ((hbr.block w.heap.size hz9).trans hx9)
        have hdr : ks.drop k = j :: ks.drop (k + 1) := by
          obtain ⟨hk', e⟩ := List.getElem?_eq_some_iff.1 hj
          rw [List.drop_eq_getElem_cons hk', e]
        have hlab := Hlabs.out j y hy
        have hst := HK.out
        rw [hdr, List.find?_cons, hlab] at hst
        clear hy hj hdr hlab x0 x2 x3 x4 x5
        by_cases hq : y.t.label = label
        · have hbeq : (y.t.label == label) = true := by simpa using hq
          rw [hbeq] at hst
          have hRe := Hch.out
          rw [hst] at hRe
          have HRe := Lib.hid hRe
          rw [hq] at x1
          clear hst hRe hq hbeq
          go_wp2_with fail
          go_ret2
          exact FindPost.of HRe.out rfl hbe9
        · have hbeq : (y.t.label == label) = false := by simpa using hq
          rw [hbeq] at hst
          have Hst := Lib.hid hst
          clear hst
          go_wp2_with fail
          go_roundw
          case rel => exact ⟨k + 1, by go_num, by omega, hbr, Hst.out⟩
          case measure => simp [intOf]; omega
      · have hdk : decide ((k : Int) < (ks.length : Int)) = false := by rw [decide_eq_false_iff_not]; omega
        have hst := HK.out
        rw [List.drop_of_length_le (by omega)] at hst
        have hRe := Hch.out
        rw [hst] at hRe
        have HRe := Lib.hid hRe
        clear hst hRe
        go_wp2_with fail
        go_ret2
        exact FindPost.of HRe.out rfl hbe9
  · have hch := childS_ne (label := label) h2
    rw [← hR] at hch
    have HR := Lib.hid hch
    obtain ⟨a, b, hab⟩ : ∃ a b, findS (l.map TyV.t) n = (a, b) := ⟨_, _, rfl⟩
    rw [hab] at hf h2 HR
    simp only at hf h2 HR
    have hne : (b != 0) = true := by rw [bne_iff_ne]; exact h2
    have hne2 : (b == 0) = false := by rw [beq_eq_false_iff_ne]; exact h2
    clear hR hch hab h h2
    go_enter Tryz.func11, Tryz.ntmps11
    go_wp2_with fail
    refine hf.mono ?_
    rintro e w2 ⟨rfl, hb2⟩
    have hbe := bel_next hb0 hb2
    clear hf
    go_wp2_with fail
    go_ret2
    exact FindPost.of HR.out rfl hbe
end Go.Proofs.YtnnbdlmilbcpjaaGreatDoor
