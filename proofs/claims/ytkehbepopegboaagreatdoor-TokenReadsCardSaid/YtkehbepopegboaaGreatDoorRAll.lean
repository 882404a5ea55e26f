/-
  The document's answer: lines, characters, pieces: the walks of Lines and of both functions All, for rows of at most 65536 bytes.
-/
import Derived.Test.YtkehbepopegboaaGreatDoorRPiece2
namespace Go.Proofs.YtkehbepopegboaaGreatDoor
open Go.RowKit
set_option linter.unusedVariables false
/-- a slice value leads to these tokens of the answer, in blocks from B on -/
def RToksAt (w : World) (B : Nat) (v : Value) (l : List Tok) : Prop :=
  ∃ ps : List (Tok × Value), ps.map Prod.fst = l ∧ w.ownsRow B 38 5 v l.length (ps.flatMap tokRow) ∧ ∀ x ∈ ps, AttrsAt w B x.2 x.1.attrs
theorem RToksAt.nil (w : World) (B : Nat) : RToksAt w B (.slice none 0 0) [] := ⟨[], rfl, World.ownsRow_nil w B _ 5, by simp⟩
theorem RToksAt.kept {w w' : World} {B : Nat} {v : Value} {l : List Tok} {row : Option Nat} (h : RToksAt w B v l) (hg : w.grownBy w' row) (hr : ∀ k, row = some k → k < B) : RToksAt w' B v l := by
  obtain ⟨ps, h1, h2, h3⟩ := h
  have hk : ∀ (v : Value) (n size e : Nat) (xs : List Value), w.ownsRow B e size v n xs → w'.ownsRow B e size v n xs := fun v n size e xs ho => by
    refine ho.kept hg ?_
    cases e : v.ownBlock with
    | none => exact .inl rfl
    | some g => exact .inr (fun e2 => by have := ho.lt g e; have := hr g e2.symm; omega)
  exact ⟨ps, h1, hk _ _ _ _ _ h2, fun x hx => hk _ _ _ _ _ (h3 x hx)⟩
theorem RToksAt.append {w w' : World} {B : Nat} {v v' av : Value} {l : List Tok} {t : Tok} {ps : List (Tok × Value)} (h1 : ps.map Prod.fst = l) (h2 : w.ownsRow B 38 5 v l.length (ps.flatMap tokRow)) (h3 : ∀ x ∈ ps, AttrsAt w B x.2 x.1.attrs)
    (ha : AttrsAt w B av t.attrs) (hg : w.grownBy w' v.ownBlock) (hr : w'.ownsRow B 38 5 v' (l.length + 1) (ps.flatMap tokRow ++ tokRow (t, av))) : RToksAt w' B v' (l ++ [t]) := by
  refine ⟨ps ++ [(t, av)], by simp [h1], ?_, ?_⟩
  · rw [List.length_append, List.flatMap_append]
    simpa using hr
  · intro x hx
    rw [List.mem_append] at hx
    have hx' : AttrsAt w B x.2 x.1.attrs := by
      rcases hx with hx | hx
      · exact h3 x hx
      · simp at hx; subst hx; exact ha
    exact World.ownsRow.kept hx' hg (ownsRow_kind hx' h2 (by decide))
theorem RToksAt.at {w : World} {B : Nat} {o : Option Addr} {c : Nat} {l : List Tok} (h : RToksAt w B (.slice o l.length c) l) {k : Nat} {t : Tok} (hx : l[k]? = some t) :
    ∃ g ao ac, o = some ⟨g, 0, Option.none⟩ ∧ AttrsAt w B (.slice ao t.attrs.length ac) t.attrs ∧ w.cell? ⟨g, k * 5, Option.none⟩ = some (.int .i64 t.kind) ∧ w.cell? ⟨g, k * 5 + 1, Option.none⟩ = some (.string ⟨t.name.toArray⟩) ∧
      w.cell? ⟨g, k * 5 + 2, Option.none⟩ = some (.string ⟨t.text.toArray⟩) ∧ w.cell? ⟨g, k * 5 + 3, Option.none⟩ = some (.slice ao t.attrs.length ac) ∧ w.cell? ⟨g, k * 5 + 4, Option.none⟩ = some (.bool t.empty) := by
  have hk : k < l.length := (List.getElem?_eq_some_iff.1 hx).1
  obtain ⟨ps, h1, h2, h3⟩ := h
  subst h1
  rw [List.getElem?_map] at hx
  obtain ⟨x, hp, rfl⟩ := Option.map_eq_some_iff.1 hx
  rw [List.length_map] at hk
  have hax := h3 x (List.mem_of_getElem? hp)
  obtain ⟨ao, ac, hav⟩ := hax.shape
  rcases h2.2 with ⟨e, hn⟩ | ⟨g, cap, cur, hv, _⟩
  · rw [List.length_map] at hn; omega
  · injection hv with e1 e2 e3
    subst e1 e3
    have hc := fun j hj => (h2.cellAt (k * 5 + j) (by rw [List.length_map]; omega)).trans (tokCells_at hp j hj)
    have c0 := hc 0 (by omega)
    have c1 := hc 1 (by omega)
    have c2 := hc 2 (by omega)
    have c3 := hc 3 (by omega)
    have c4 := hc 4 (by omega)
    rw [hav] at hax
    exact ⟨g, ao, ac, rfl, hax, c0, c1, c2, c3.trans (by rw [← hav]; rfl), c4⟩
theorem RToksAt.below {w w' : World} {B : Nat} {v : Value} {l : List Tok} (h : RToksAt w B v l) (hb : Below w.heap.size w w') : RToksAt w' B v l :=
  h.kept (row := Option.none) ⟨hb.os, hb.tape, hb.output, hb.size, fun k hk _ => hb.block k hk⟩ (by simp)
theorem RToksAt.mono {w : World} {B B' : Nat} {v : Value} {l : List Tok} (h : RToksAt w B v l) (hB : B' ≤ B) : RToksAt w B' v l := by
  obtain ⟨ps, h1, h2, h3⟩ := h
  refine ⟨ps, h1, ⟨h2.1, ?_⟩, fun x hx => (h3 x hx).mono hB⟩
  rcases h2.2 with hn | ⟨g, cap, cur, hv, hb, rest⟩
  · exact .inl hn
  · exact .inr ⟨g, cap, cur, hv, by omega, rest⟩
theorem RToksAt.shape {w : World} {B : Nat} {v : Value} {l : List Tok} (h : RToksAt w B v l) : ∃ o c, v = .slice o l.length c := by
  obtain ⟨ps, h1, h2, h3⟩ := h
  exact ownsRow_shape h2
theorem RToksAt.lt {w : World} {B : Nat} {v : Value} {l : List Tok} (h : RToksAt w B v l) : ∀ k, v.ownBlock = some k → B ≤ k ∧ k < w.heap.size := by
  obtain ⟨ps, h1, h2, h3⟩ := h
  exact h2.lt
theorem bne_no {a b : Int} (h : a = b) : (a != b) = false := by simp [h]
theorem byte_cell {w : World} {b off : Nat} {l : Bytes} {k : Nat} (h : BytesAt w b off l) (hk : k < l.length) : w.cell? ⟨b, off + k, Option.none⟩ = some (.int .u8 ((l.getD k 0).toNat : Nat)) := h k hk
theorem drop_get (l : Bytes) (k : Nat) (hk : k < l.length) : l.drop k = l.getD k 0 :: l.drop (k + 1) := drop_cons hk
set_option maxHeartbeats 4000000 in
set_option maxRecDepth 100000 in
theorem rLines_any (l : Bytes) (o : Option Addr) (cap : Nat) (w : World) (hv : BytesV w o cap l) (hl : l.length ≤ 65536) :
    Calls Tryz.prog 8 #[.slice o l.length cap] w fun e w' => e = .returned (.string ⟨(lines l).toArray⟩) ∧ Below w.heap.size w w' := by
  obtain ⟨R, hR⟩ : ∃ R, R = lines l := ⟨_, rfl⟩
  rw [← hR]
  have HR := Lib.hid hR
  clear hR
  obtain ⟨i0, hi, hz0, hz1, hz2⟩ := info_parts info_u8
  go_enter Tryz.func8, Tryz.ntmps8
  go_wp2_with fail
  go_loopw [3, 4] (fun v i wr => ∃ (k n : Nat) (acc : Bytes), i = .int .i64 k ∧ k ≤ l.length ∧ n ≤ k ∧ wr.ownsRow w.heap.size 5 1 v n (u8s acc) ∧ Below w.heap.size w wr ∧ Hid (R = acc ++ lines (l.drop k))) (fun _ i _ => l.length - (intOf i).toNat)
  case atStart => exact ⟨0, 0, [], rfl, Nat.zero_le _, by omega, World.ownsRow_nil w _ _ _, Below.refl _ _, HR.out⟩
  case round =>
    obtain ⟨k, n, acc, rfl, hk, hn, hown, hbe, HA⟩ := hrel
    by_cases hlt : k < l.length
    · have hdk : decide ((k : Int) < (l.length : Int)) = true := by rw [decide_eq_true_eq]; omega
      obtain ⟨b, off, rfl, hlc, hcm, hba, hbs⟩ : ∃ b off, o = some ⟨b, off, Option.none⟩ ∧ l.length ≤ cap ∧ cap ≤ maxLen ∧ BytesAt w b off l ∧ b < w.heap.size := by
        rcases hv with ⟨h, _⟩ | h
        · subst h; simp at hlt
        · exact h
      have hba2 := hba.below hbs hbe
      have hcx := byte_cell hba2 hlt
      have hdr := drop_get l k hlt
      have hA := HA.out
      rw [hdr] at hA
      have hki : (k : Int) < (l.length : Int) := by omega
      by_cases h13 : (l.getD k 0).toNat = 13
      · have hb13 : (((l.getD k 0).toNat : Int) != 13) = false := bne_no (by omega)
        have hc13 : l.getD k 0 = 13 := UInt8.toNat_inj.1 h13
        rw [hc13] at hA
        by_cases hend : k + 1 < l.length
        · have hde : decide ((k : Int) + 1 ≥ (l.length : Int)) = false := by rw [decide_eq_false_iff_not]; omega
          have hde2 : decide ((l.length : Int) ≤ (k : Int) + 1) = false := by rw [decide_eq_false_iff_not]; omega
          have hcy := byte_cell hba2 hend
          have hdr2 := drop_get l (k + 1) hend
          have hki2 : (k : Int) + 1 < (l.length : Int) := by omega
          by_cases h10 : (l.getD (k + 1) 0).toNat = 10
          · have hb10 : (((l.getD (k + 1) 0).toNat : Int) != 10) = false := bne_no (by omega)
            have hc10 : l.getD (k + 1) 0 = 10 := UInt8.toNat_inj.1 h10
            have hA2 : R = acc ++ lines (l.drop (k + 1)) := by
              rw [hA, hdr2, hc10, lines_cr_lf, lines_cons _ (by decide)]
            have HA2 := Lib.hid hA2
            generalize (l.getD k 0).toNat = x at hcx hb13
            generalize (l.getD (k + 1) 0).toNat = y at hcy hb10
            clear hA hA2 h13 hc13 h10 hc10 hdr hdr2 HA
            go_wp2_with fail
            go_roundw
            case rel => exact ⟨k + 1, n, acc, by go_num, by omega, by omega, hown, hbe, HA2⟩
            case measure => simp [intOf]; omega
          · have hb10 : (((l.getD (k + 1) 0).toNat : Int) != 10) = true := by rw [bne_iff_ne]; omega
            have hA2 : R = acc ++ [10] ++ lines (l.drop (k + 1)) := by
              rw [hA, lines_cr _ (by rw [hdr2]; simp only [List.head?_cons, ne_eq, Option.some.injEq]; intro e; apply h10; rw [e]; rfl)]
              simp
            have HA2 := Lib.hid hA2
            generalize (l.getD k 0).toNat = x at hcx hb13
            generalize (l.getD (k + 1) 0).toNat = y at hcy hb10
            clear hA hA2 h13 hc13 h10 hdr hdr2 HA
            go_wp2_with (first
              | (at_builtin; refine wpList_append_own _ rfl (.tmp 36) (.tmp 37) 22 rfl w.heap.size 5 i0 (.int .u8 0) 1 1 Tryz.underlying22 hi hz0 hz1 hz2 rfl (by decide) _ _ _ rfl (hown.alloc _) ⟨wr.heap.size, 0, none⟩ 1 1 [.int .u8 10] rfl rfl (cells_new _ [.int .u8 10] _ _ rfl) (fun z hz => by simp at hz; subst hz; rfl) (by unfold maxLen; omega) (by omega) (by have := hbe.size; simp; omega) ?_; intro v1 w1 hown1 hg1 hnil1)
              | go_in)
            go_roundw
            case rel =>
              refine ⟨k + 1, n + 1, acc ++ [10], by go_num, by omega, by omega, ?_, ((hbe.alloc hbe.size _).grown hg1 (by have := hbe.size; simp; omega) (fun k e => (hown.lt k e).1)), HA2⟩
              simpa [u8s] using hown1
            case measure => simp [intOf]; omega
        · have hde : decide ((k : Int) + 1 ≥ (l.length : Int)) = true := by rw [decide_eq_true_eq]; omega
          have hde2 : decide ((l.length : Int) ≤ (k : Int) + 1) = true := by rw [decide_eq_true_eq]; omega
          have hA2 : R = acc ++ [10] ++ lines (l.drop (k + 1)) := by
            rw [hA, List.drop_of_length_le (by omega)]
            simp [lines]
          have HA2 := Lib.hid hA2
          generalize (l.getD k 0).toNat = x at hcx hb13
          clear hA hA2 h13 hc13 hdr HA
          go_wp2_with (first
            | (at_builtin; refine wpList_append_own _ rfl (.tmp 36) (.tmp 37) 22 rfl w.heap.size 5 i0 (.int .u8 0) 1 1 Tryz.underlying22 hi hz0 hz1 hz2 rfl (by decide) _ _ _ rfl (hown.alloc _) ⟨wr.heap.size, 0, none⟩ 1 1 [.int .u8 10] rfl rfl (cells_new _ [.int .u8 10] _ _ rfl) (fun z hz => by simp at hz; subst hz; rfl) (by unfold maxLen; omega) (by omega) (by have := hbe.size; simp; omega) ?_; intro v1 w1 hown1 hg1 hnil1)
            | go_in)
          go_roundw
          case rel =>
            refine ⟨k + 1, n + 1, acc ++ [10], by go_num, by omega, by omega, ?_, ((hbe.alloc hbe.size _).grown hg1 (by have := hbe.size; simp; omega) (fun k e => (hown.lt k e).1)), HA2⟩
            simpa [u8s] using hown1
          case measure => simp [intOf]; omega
      · have hb13 : (((l.getD k 0).toNat : Int) != 13) = true := by rw [bne_iff_ne]; omega
        have hA2 : R = acc ++ [l.getD k 0] ++ lines (l.drop (k + 1)) := by
          rw [hA, lines_cons _ (fun e => h13 (by rw [e]; rfl))]
          simp
        have hu : u8s acc ++ [Value.int .u8 (((l.getD k 0).toNat : Nat) : Int)] = u8s (acc ++ [l.getD k 0]) := by simp [u8s]
        have HA2 := Lib.hid hA2
        have Hu := Lib.hid hu
        clear hA hA2 h13 hdr HA hu
        generalize hxx : (l.getD k 0).toNat = x at hcx hb13 Hu
        clear hxx
        go_wp2_with (first
          | (at_builtin; go_must (refine wpList_append_own _ rfl (.tmp 16) (.tmp 21) 22 rfl w.heap.size 5 i0 (.int .u8 0) 1 1 Tryz.underlying22 hi hz0 hz1 hz2 rfl (by decide) _ _ _ rfl (hown.alloc _) ⟨wr.heap.size, 0, none⟩ 1 1 [.int .u8 (x : Nat)] rfl rfl (cells_new _ [.int .u8 (x : Nat)] _ _ rfl) (fun z hz => by simp at hz; subst hz; rfl) (by unfold maxLen; omega) (by omega) (by have := hbe.size; simp; omega) ?_); intro v1 w1 hown1 hg1 hnil1)
          | go_in)
        go_roundw
        case rel => exact ⟨k + 1, n + 1, acc ++ [l.getD k 0], by go_num, by omega, by omega, by rw [← Hu.out]; exact hown1, ((hbe.alloc hbe.size _).grown hg1 (by have := hbe.size; simp; omega) (fun k e => (hown.lt k e).1)), HA2⟩
        case measure => simp [intOf]; omega
    · have hdk : decide ((k : Int) < (l.length : Int)) = false := by rw [decide_eq_false_iff_not]; omega
      have hA := HA.out
      rw [List.drop_of_length_le (by omega)] at hA
      have hA2 : R = acc := by rw [hA]; simp [lines]
      have HA2 := Lib.hid hA2
      obtain ⟨hn1, o2, cap2, rfl, hv2⟩ := BytesV.of_row hown
      have hcv := convert_v hv2
      clear hA hA2 HA
      go_wp2_with fail
      go_ret
      exact ⟨by rw [HA2.out]; rfl, hbe⟩
/-- what spyglassref01.All owes: the place -/
def RPlace (n : Nat) (w : World) (e : Ending) (w' : World) : Prop := (∃ v, e = .returned (.tuple #[v, .int .i64 (n : Int)])) ∧ Below w.heap.size w w'
theorem RPlace.mk {n m : Nat} {w w' : World} {e : Ending} {v : Value} (h : m = n) (he : e = .returned (.tuple #[v, .int .i64 (m : Int)])) (hb : Below w.heap.size w w') : RPlace n w e w' := by
  subst h; exact ⟨⟨v, he⟩, hb⟩
theorem info_int : (Tryz.prog.info? 3).map (fun i => (i.zero, i.size, i.bytes)) = some (some (.int .i64 0), 1, 8) := by kernel_rfl
theorem BytesAt.dropped {w : World} {b off : Nat} {l : Bytes} (h : BytesAt w b off l) (k : Nat) : BytesAt w b (off + k) (l.drop k) := by
  intro i hi
  rw [List.length_drop] at hi
  have := h (k + i) (by omega)
  rw [Nat.add_assoc, this]
  simp [List.getD_eq_getElem?_getD, List.getElem?_drop]
set_option maxHeartbeats 4000000 in
set_option maxRecDepth 100000 in
theorem rPlace_any (l : Bytes) (o : Option Addr) (cap : Nat) (w : World) (hv : BytesV w o cap l) (hl : l.length ≤ 65536) :
    Calls Tryz.prog 6 #[.slice o l.length cap] w (RPlace (chk l) w) := by
  obtain ⟨R, hR⟩ : ∃ R, R = chk l := ⟨_, rfl⟩
  rw [← hR]
  have HR := Lib.hid hR
  clear hR
  obtain ⟨i0, hi, hz0, hz1, hz2⟩ := info_parts info_int
  go_enter Tryz.func6, Tryz.ntmps6
  go_wp2_with fail
  go_loopw [4, 5] (fun v i wr => ∃ (k n : Nat) (xs : List Value), i = .int .i64 k ∧ k ≤ l.length ∧ n ≤ k ∧ wr.ownsRow w.heap.size 3 1 v n xs ∧ Below w.heap.size w wr ∧ Hid (k + chk (l.drop k) = R)) (fun _ i _ => l.length - (intOf i).toNat)
  case atStart => exact ⟨0, 0, [], rfl, Nat.zero_le _, by omega, World.ownsRow_nil w _ _ _, Below.refl _ _, by show 0 + chk (l.drop 0) = R; rw [HR.out]; simp⟩
  case round =>
    obtain ⟨k, n, xs, rfl, hk, hn, hown, hbe, HA⟩ := hrel
    by_cases hlt : k < l.length
    · have hdk : decide ((k : Int) < (l.length : Int)) = true := by rw [decide_eq_true_eq]; omega
      obtain ⟨b, off, rfl, hlc, hcm, hba, hbs⟩ : ∃ b off, o = some ⟨b, off, Option.none⟩ ∧ l.length ≤ cap ∧ cap ≤ maxLen ∧ BytesAt w b off l ∧ b < w.heap.size := by
        rcases hv with ⟨h, _⟩ | h
        · subst h; simp at hlt
        · exact h
      unfold maxLen at hcm
      have hrd := rRead_any b (off + k) (cap - k) (l.drop k) wr (by rw [List.length_drop]; omega) (by omega) ((hba.below hbs hbe).dropped k) (by have := hbe.size; omega)
      rw [List.length_drop] at hrd
      have hA := HA.out
      cases hd : dec (l.drop k) with
      | none =>
        rw [hd] at hrd
        rw [chk_none hd] at hA
        have HA2 := Lib.hid hA
        clear hd hA HA
        unfold rdV at hrd
        simp only at hrd
        obtain ⟨vo, vc, rfl⟩ := ownsRow_shape hown
        go_wp2_with fail
        refine hrd.mono ?_
        rintro e w2 ⟨rfl, hb2⟩
        clear hrd
        go_wp2_with fail
        exact bodyPost_ret (v := .tuple #[.slice vo n vc, .int .i64 (k : Int)]) (by simp [results, Tryz.results6, go_sem]) rfl (RPlace.mk (by have := HA2.out; omega) rfl (hbe.trans (hb2.mono hbe.size)))
      | some z =>
        obtain ⟨r, m⟩ := z
        rw [hd] at hrd
        rw [chk_some hd, List.drop_drop] at hA
        have hm := dec_len hd
        rw [List.length_drop] at hm
        have hm0 := hm.1
        have hm1 := hm.2.2
        have hz : ((m : Int) == 0) = false := by rw [beq_eq_false_iff_ne]; omega
        have HA2 := Lib.hid hA
        clear hd hA HA hm
        unfold rdV at hrd
        simp only at hrd
        go_wp2_with fail
        refine hrd.mono ?_
        rintro e w2 ⟨rfl, hb2⟩
        clear hrd
        have hbe2 := hbe.trans (hb2.mono hbe.size)
        have hown2 := hown.kept (w' := w2) (row := Option.none) ⟨hb2.os, hb2.tape, hb2.output, hb2.size, fun k hk _ => hb2.block k hk⟩ (by cases u4.ownBlock <;> simp)
        go_wp2_with (first
          | (at_builtin; refine wpList_append_own _ rfl (.tmp 23) (.tmp 25) 28 rfl w.heap.size 3 i0 (.int .i64 0) 1 8 Tryz.underlying28 hi hz0 hz1 hz2 rfl (by decide) _ _ _ rfl (hown2.alloc _) ⟨w2.heap.size, 0, none⟩ 1 1 [.int .i64 r] rfl rfl (cells_new _ [.int .i64 r] _ _ rfl) (fun z hz => by simp at hz; subst hz; rfl) (by unfold maxLen; omega) (by omega) (by have := hbe2.size; simp; omega) ?_; intro v1 w3 hown1 hg1 hnil1)
          | go_in)
        go_roundw
        case rel => exact ⟨k + m, n + 1, _, by go_num, by omega, by omega, hown1, ((hbe2.alloc hbe2.size _).grown hg1 (by have := hbe2.size; simp; omega) (fun k e => (hown2.lt k e).1)), by have := HA2.out; show _ = _; omega⟩
        case measure => simp [intOf]; omega
    · have hdk : decide ((k : Int) < (l.length : Int)) = false := by rw [decide_eq_false_iff_not]; omega
      have hA := HA.out
      rw [List.drop_of_length_le (by omega), chk_nil] at hA
      have HA2 := Lib.hid hA
      obtain ⟨vo, vc, rfl⟩ := ownsRow_shape hown
      clear hA HA
      go_wp2_with fail
      exact bodyPost_ret (v := .tuple #[.slice vo n vc, .int .i64 (k : Int)]) (by simp [results, Tryz.results6, go_sem]) rfl (RPlace.mk (by have := HA2.out; omega) rfl hbe)
/-- what spyglassref03.All owes -/
def RAll (res : Sum Nat (List Tok)) (w : World) (e : Ending) (w' : World) : Prop :=
  match res with
  | .inl p => e = .returned (.tuple #[.slice none 0 0, .int .i64 (p : Int)]) ∧ Below w.heap.size w w'
  | .inr l => (∃ v, e = .returned (.tuple #[v, .int .i64 (-1)]) ∧ RToksAt w' w.heap.size v l) ∧ Below w.heap.size w w'
theorem RAll.no {res : Sum Nat (List Tok)} {w w' : World} {e : Ending} {p : Nat} (h : res = .inl p) (he : e = .returned (.tuple #[.slice none 0 0, .int .i64 (p : Int)])) (hb : Below w.heap.size w w') : RAll res w e w' := by
  subst h; exact ⟨he, hb⟩
theorem RAll.yes {res : Sum Nat (List Tok)} {w w' : World} {e : Ending} {l : List Tok} {v : Value} (h : res = .inr l) (he : e = .returned (.tuple #[v, .int .i64 (-1)])) (ht : RToksAt w' w.heap.size v l) (hb : Below w.heap.size w w') : RAll res w e w' := by
  subst h; exact ⟨⟨v, he, ht⟩, hb⟩
theorem info_rtok : (Tryz.prog.info? 38).map (fun i => (i.zero, i.size, i.bytes)) = some (some (.agg #[.int .i64 0, .string ⟨#[]⟩, .string ⟨#[]⟩, .slice none 0 0, .bool false]), 5, 72) := by kernel_rfl
theorem allR_none {f p : Nat} {first : Bool} {acc : List Tok} {l : Bytes} (hne : l ≠ []) (h : pieceR first l = none) : allR (f + 1) first p acc l = .inl p := by
  conv => lhs; unfold allR
  rw [if_neg hne, h]
theorem allR_some {f p : Nat} {first : Bool} {acc : List Tok} {l : Bytes} {t : Tok} {k : Nat} (hne : l ≠ []) (h : pieceR first l = some (t, k)) : allR (f + 1) first p acc l = allR f false (p + k) (acc ++ [t]) (l.drop k) := by
  conv => lhs; unfold allR
  rw [if_neg hne, h]
set_option maxHeartbeats 8000000 in
set_option maxRecDepth 100000 in
theorem rAll_any (s : ByteArray) (w : World) (hs : s.size ≤ 65536) (hok : okT s.data.toList) :
    Calls Tryz.prog 7 #[.string s] w (RAll (allR (s.size + 1) true 0 [] s.data.toList) w) := by
  have hlen : s.data.toList.length = s.size := (Lib.size_eq s).symm
  have Hlen := Lib.hid hlen
  have Hok := Lib.hid hok
  clear hlen hok
  obtain ⟨res, hR⟩ : ∃ res, res = allR (s.size + 1) true 0 [] s.data.toList := ⟨_, rfl⟩
  rw [← hR]
  have HR : Hid (res = allR (s.size + 1) (decide ((0 : Nat) = 0)) 0 [] (s.data.toList.drop 0)) := hR
  clear hR
  go_enter Tryz.func7, Tryz.ntmps7
  go_wp2_with fail
  go_loopg [4, 5] s.size (fun k v x wr => ∃ (p : Nat) (acc : List Tok) (f : Nat), x = .int .i64 p ∧ p ≤ s.size ∧ k = s.size - p ∧ k < f ∧ acc.length ≤ p ∧ RToksAt wr w.heap.size v acc ∧ Below w.heap.size w wr ∧ Hid (res = allR f (decide (p = 0)) p acc (s.data.toList.drop p) ∧ okT (s.data.toList.drop p)))
  case atStart => exact ⟨0, [], s.size + 1, rfl, Nat.zero_le _, rfl, by omega, Nat.le_refl _, RToksAt.nil _ _, Below.refl _ _, HR.out, Hok.out⟩
  case round =>
    obtain ⟨p, acc, f, rfl, hp, rfl, hf, hac, hT, hbe, HF⟩ := hrel
    obtain ⟨f', rfl⟩ : ∃ f', f = f' + 1 := ⟨f - 1, by omega⟩
    by_cases hlt : p < s.size
    · have hdec : decide ((p : Int) < (s.size : Int)) = true := by rw [decide_eq_true_eq]; omega
      have hne : s.data.toList.drop p ≠ [] := by rw [drop_at s p hlt]; simp
      have hpc := rPiece_any s p wr hs hlt
      obtain ⟨hF, hok⟩ := HF.out
      cases hx : pieceR (decide (p = 0)) (s.data.toList.drop p) with
      | none =>
        rw [allR_none hne hx] at hF
        rw [hx] at hpc
        have HF2 := Lib.hid hF
        clear hF hx hne HF hok
        go_wp2_with fail
        refine hpc.mono ?_
        clear hpc
        intro e w2 hpost
        unfold RPiece at hpost
        obtain ⟨⟨k, x, y, m, rfl⟩, hb2⟩ := hpost
        have hbe2 := hbe.trans (hb2.mono hbe.size)
        go_wp2_with fail
        exact bodyPost_ret (v := .tuple #[.slice none 0 0, .int .i64 (p : Int)]) (by simp [results, Tryz.results7, go_sem]) rfl (RAll.no HF2.out rfl (hbe2.alloc hbe2.size _))
      | some z =>
        obtain ⟨t, k⟩ := z
        rw [allR_some hne hx, List.drop_drop] at hF
        have hx2 := hx
        rw [pieceR_eq hok] at hx2
        have hok2 := pieceP_okT hok hx2
        rw [List.drop_drop] at hok2
        have hrm := pieceP_room hne hx2
        rw [List.length_drop, Hlen.out] at hrm
        rw [hx] at hpc
        have HF2 : Hid (res = allR f' (decide (p + k = 0)) (p + k) (acc ++ [t]) (s.data.toList.drop (p + k)) ∧ okT (s.data.toList.drop (p + k))) := by
          refine ⟨?_, hok2⟩
          rw [hF, show decide (p + k = 0) = false from by rw [decide_eq_false_iff_not]; omega]
        have hk0 : decide (((p + k : Nat) : Int) < 0) = false := by rw [decide_eq_false_iff_not]; omega
        have hk1 : decide ((p : Int) + (k : Int) < 0) = false := by rw [decide_eq_false_iff_not]; omega
        clear hF hx hne HF hok hx2 hok2
        go_wp2_with fail
        refine hpc.mono ?_
        clear hpc
        intro e w2 hpost
        unfold RPiece at hpost
        obtain ⟨⟨av, rfl, hav⟩, hb2⟩ := hpost
        have hbe2 := hbe.trans (hb2.mono hbe.size)
        have hT2 := hT.below hb2
        have hav2 := hav.mono hbe.size
        unfold tokV
        obtain ⟨ao, ak, rfl⟩ := hav2.shape
        have hT3 := hT2.below ((Below.refl _ w2).alloc (Nat.le_refl _) (.cells #[.int .i64 t.kind, .string ⟨t.name.toArray⟩, .string ⟨t.text.toArray⟩, .slice ao t.attrs.length ak, .bool t.empty] 38))
        have hav3 : AttrsAt (w2.alloc (.cells #[.int .i64 t.kind, .string ⟨t.name.toArray⟩, .string ⟨t.text.toArray⟩, .slice ao t.attrs.length ak, .bool t.empty] 38)) w.heap.size (.slice ao t.attrs.length ak) t.attrs := World.ownsRow.alloc hav2 _
        have hT4 := hT3.below ((Below.refl _ _).alloc (Nat.le_refl _) (.cells #[.int .i64 t.kind, .string ⟨t.name.toArray⟩, .string ⟨t.text.toArray⟩, .slice ao t.attrs.length ak, .bool t.empty] 38))
        have hav4 := World.ownsRow.alloc hav3 (.cells #[.int .i64 t.kind, .string ⟨t.name.toArray⟩, .string ⟨t.text.toArray⟩, .slice ao t.attrs.length ak, .bool t.empty] 38)
        have hbe4 := (hbe2.alloc hbe2.size (.cells #[.int .i64 t.kind, .string ⟨t.name.toArray⟩, .string ⟨t.text.toArray⟩, .slice ao t.attrs.length ak, .bool t.empty] 38))
        have hbe5 := hbe4.alloc hbe4.size (.cells #[.int .i64 t.kind, .string ⟨t.name.toArray⟩, .string ⟨t.text.toArray⟩, .slice ao t.attrs.length ak, .bool t.empty] 38)
        obtain ⟨i0, hi, hz0, hz1, hz2⟩ := info_parts info_rtok
        obtain ⟨ps, hps, hrow, hats⟩ := hT4
        have hlt9 := hrow.lt
        have Hats := Lib.hid hats
        have Hps := Lib.hid hps
        clear hats hps hT hT2 hT3
        go_wp2_with (first
          | (at_builtin; go_must (refine wpList_append_own _ rfl _ _ 31 rfl w.heap.size 38 i0 (.agg #[.int .i64 0, .string ⟨#[]⟩, .string ⟨#[]⟩, .slice none 0 0, .bool false]) 5 72 Tryz.underlying31 hi hz0 hz1 hz2 rfl (by decide) u4 _ _ rfl hrow ⟨w2.heap.size + 1, 0, none⟩ 1 1 (tokRow (t, .slice ao t.attrs.length ak)) rfl rfl (cells_new _ (tokRow (t, .slice ao t.attrs.length ak)) _ _ (by simp)) (fun x hx => by unfold tokRow at hx; simp at hx; rcases hx with rfl | rfl | rfl | rfl | rfl <;> rfl) (by unfold maxLen; omega) (by omega) hbe5.size ?_); intro v' w9 hown9 hg9 hnil9))
        go_roundg (s.size - (p + k))
        case rel =>
          refine ⟨p + k, acc ++ [t], f', by go_num, by omega, rfl, by omega, by simp; omega, RToksAt.append Hps.out hrow Hats.out hav4 hg9 hown9, hbe5.grown hg9 hbe5.size (fun k e => (hlt9 k e).1), HF2⟩
        case measure => omega
    · have hdec : decide ((p : Int) < (s.size : Int)) = false := by rw [decide_eq_false_iff_not]; omega
      have hF := HF.out.1
      rw [drop_end s p (by omega), show allR (f' + 1) (decide (p = 0)) p acc [] = .inr acc from by simp [allR]] at hF
      have HF2 := Lib.hid hF
      clear hF HF
      obtain ⟨ao, ak, rfl⟩ := hT.shape
      go_wp2_with fail
      exact bodyPost_ret (v := .tuple #[.slice ao acc.length ak, .int .i64 (-1)]) (by simp [results, Tryz.results7, go_sem]) rfl (RAll.yes HF2.out rfl hT hbe)
end Go.Proofs.YtkehbepopegboaaGreatDoor
