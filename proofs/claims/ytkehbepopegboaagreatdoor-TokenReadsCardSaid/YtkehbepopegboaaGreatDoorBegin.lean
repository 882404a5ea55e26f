/-
  The scanner of layer 3: how an Open is read: its walk. Conditions as before.
-/
import Derived.Test.YtkehbepopegboaaGreatDoorBegin1
import Derived.Test.YtkehbepopegboaaGreatDoorRoomPlain
namespace Go.Proofs.YtkehbepopegboaaGreatDoor
open Go.RowKit
set_option linter.unusedVariables false
theorem info_attr : (Tryz.prog.info? 43).map (fun i => (i.zero, i.size, i.bytes)) = some (some (.agg #[.string ⟨#[]⟩, .string ⟨#[]⟩]), 2, 32) := by kernel_rfl
theorem wf_nat {n : Nat} (h : n ≤ 65536) : (Lit.int .i64 (n : Int)).wf = true := by
  exact WalkArith.wf_i64 (by omega)
set_option maxHeartbeats 8000000 in
set_option maxRecDepth 100000 in
theorem open_any (b p : Nat) (doc : ByteArray) (w : World) (hP : PlaceAt w b doc p) (hp : p ≤ doc.size) (hd : doc.size ≤ 65536) (hg : Gl w) (hb9 : 9 ≤ b) (hm : Lib.hasPrefix (doc.data.toList.drop p) [60] = true) :
    Calls Tryz.prog 24 #[.pointer (some ⟨b, 0, none⟩)] w (PiecePost (beginP (doc.data.toList.drop p)) b p doc w) := by
  have hb := hP.lt
  have hP1 := hP.below ((Below.refl _ w).alloc (Nat.le_refl _) freshTokO)
  have hF1 := FreshTok.new w
  have hg1 := hg.below (Nat.le_refl 9) ((Below.refl _ w).alloc hg.size freshTokO)
  have hS1 := (Sole.refl b w).alloc freshTokO
  unfold freshTokO at hP1 hg1 hS1
  have hA := (rfl : beginP (doc.data.toList.drop p) = beginP (doc.data.toList.drop p))
  conv at hA => rhs; unfold beginP; simp only [List.drop_drop, take_partN]
  generalize beginP (doc.data.toList.drop p) = res at hA
  have hroom := prefix_room hm (by simp)
  simp only [List.length_cons, List.length_nil] at hroom
  have hfu : (doc.data.toList.drop p).length + 1 = doc.size - p + 1 := by rw [List.length_drop, ← Lib.size_eq]
  rw [hfu] at hA
  have hle := partN_le (doc.data.toList.drop (p + 1))
  rw [List.length_drop, ← Lib.size_eq] at hle
  have hex : (doc.extract (p + 1) (p + 1 + partN (doc.data.toList.drop (p + 1)))) = ⟨((doc.data.toList.drop (p + 1)).takeWhile fun c => partB (c.toNat : Nat)).toArray⟩ := by
    rw [Lib.extract_eq, Nat.add_sub_cancel_left, take_partN]
  have hna := fun w h => name_any b (p + 1) doc w h (by omega) hd
  rw [hex] at hna
  generalize partN (doc.data.toList.drop (p + 1)) = n at hA hle hna
  generalize ((doc.data.toList.drop (p + 1)).takeWhile fun c => partB (c.toNat : Nat)) = tw at hA hna
  have Hna := Lib.hid hna
  clear hex hna hfu
  have hsk := skipM_yes b p doc [60] 1 rfl _ hP1 hp hd hm
  clear hm
  have HA := Lib.hid hA
  clear hA
  have hmm := @run_makeMap Tryz.prog
  go_enter Tryz.func24, Tryz.ntmps24
  go_wp2_with fail
  go_step3
  go_wp2_with fail
  refine hsk.mono ?_
  rintro e w1 ⟨rfl, hP2, hS2⟩
  have hg2 := hg1.sole hb9 hS2
  have hF2 := hF1.sole hS2 (by omega)
  have hS2' := hS1.trans hS2
  clear hsk
  have hna := Hna.out _ hP2
  clear Hna
  go_wp2_with fail
  refine hna.mono ?_
  rintro e w3 ⟨rfl, hP3, hS3⟩
  have hF3 := hF2.sole hS3 (by omega)
  have hS3' := hS2'.trans hS3
  have hg3 := hg2.sole hb9 hS3
  clear hna
  have hA := HA.out
  cases hin : isName tw with
  | false =>
    rw [if_pos hin] at hA
    have HA2 := Lib.hid hA
    clear hA hin HA
    obtain ⟨c0, c1, c2, c3, c4, ff⟩ := hF3.cell
    have f0 := ff 0
    have f1 := ff 1
    have f2 := ff 2
    have f3 := ff 3
    have f4 := ff 4
    clear ff
    go_wp2_with fail
    refine bodyPost_ret (v := .tuple #[.agg #[.int .i64 0, .string ⟨#[]⟩, .string ⟨#[]⟩, .slice none 0 0, .bool false], .bool false]) (by simp [results, Tryz.results24, go_sem, c0, c1, c2, c3, c4]) rfl (PiecePost.no HA2.out _ _ _ _ rfl (hS3'.set5 (Nat.le_refl _) _ _ _ _ _))
  | true =>
    rw [if_neg (by simp [hin])] at hA
    clear HA hin
    have HA := Lib.hid hA
    clear hA
    go_wp2_with fail
    go_step3
    go_wp2_with fail
    have hB0 : Bst b w.heap.size w3.heap.size (w3.heap.size + 1) doc ⟨tw.toArray⟩ (p + 1 + n) [] (.slice none 0 0) (.map []) 0 ((w3.alloc (.cells #[.int .i64 2, .string ⟨tw.toArray⟩, .string ⟨#[]⟩, .slice none 0 0, .bool false] 40)).alloc (.map #[] 0)) := by
      have hsz := hS3'.size
      have hb1 : Below w3.heap.size w3 (w3.alloc (.cells #[.int .i64 2, .string ⟨tw.toArray⟩, .string ⟨#[]⟩, .slice none 0 0, .bool false] 40)) := (Below.refl _ w3).alloc (Nat.le_refl _) _
      have hb2 := hb1.alloc (Nat.le_trans (Nat.le_refl _) (hb1.size)) (.map #[] 0)
      refine ⟨hP3.below hb2, (hb2.block _ (lt_of_block hF3)).trans hF3, ?_, AttrsAt.none _ _, ?_, hg3.below (Nat.le_trans (by decide) hg3.size) hb2, by omega, by have := lt_of_block hF3; omega, by omega, hb9⟩
      · have h1 := heap_alloc_new w3 (.cells #[.int .i64 2, .string ⟨tw.toArray⟩, .string ⟨#[]⟩, .slice none 0 0, .bool false] 40)
        exact (((Below.refl _ (w3.alloc (.cells #[.int .i64 2, .string ⟨tw.toArray⟩, .string ⟨#[]⟩, .slice none 0 0, .bool false] 40))).alloc (Nat.le_refl _) (.map #[] 0)).block _ (lt_of_block h1)).trans h1
      · have := World.ownsMap_made (H := Unit) (w3.alloc (.cells #[.int .i64 2, .string ⟨tw.toArray⟩, .string ⟨#[]⟩, .slice none 0 0, .bool false] 40)) Tryz.prog 9 (plainElem Tryz.prog 3)
        have e1 : (w3.alloc (.cells #[.int .i64 2, .string ⟨tw.toArray⟩, .string ⟨#[]⟩, .slice none 0 0, .bool false] 40)).heap.size = w3.heap.size + 1 := by simp
        rw [e1] at this
        exact this
    have hS0 : Sole b w ((w3.alloc (.cells #[.int .i64 2, .string ⟨tw.toArray⟩, .string ⟨#[]⟩, .slice none 0 0, .bool false] 40)).alloc (.map #[] 0)) := (hS3'.alloc _).alloc _
    have hTs : w.heap.size < w3.heap.size := lt_of_block hF3
    have hL0 : Hid (Link res tw p (p + 1 + n) (attrsF (doc.size - p + 1) [] (doc.data.toList.drop (p + 1 + n)))) := by
      have hA := HA.out
      rw [show p + (1 + n) = p + 1 + n from by omega] at hA
      show Link res tw p (p + 1 + n) (attrsF (doc.size - p + 1) [] (doc.data.toList.drop (p + 1 + n)))
      refine ⟨fun h => by rw [hA, h], fun r e k h => ?_⟩
      rw [hA, h]
      show some _ = some _
      rw [show 1 + n + k = p + 1 + n - p + k from by omega]
    clear HA hP3 hS3 hF3 hS3' hg3 hP2 hS2 hg2 hF2 hS2' hP1 hF1 hg1 hS1 hP hg
    go_loopg [] (doc.size - (p + 1 + n)) (fun k wr => ∃ (q : Nat) (acc : List (Bytes × Bytes)) (av : Value) (D : DataW Unit) (f : Nat), p + 1 + n ≤ q ∧ q ≤ doc.size ∧ k = doc.size - q ∧ k < f ∧ acc.length ≤ q ∧ Bst b w.heap.size w3.heap.size (w3.heap.size + 1) doc ⟨tw.toArray⟩ q acc av D acc.length wr ∧ Hid (There D acc) ∧ Sole b w wr ∧ Hid (Link res tw p q (attrsF f acc (doc.data.toList.drop q))))
    case atStart => exact ⟨p + 1 + n, [], .slice none 0 0, .map [], doc.size - p + 1, Nat.le_refl _, by omega, rfl, by omega, by simp, hB0, There.nil, hS0, hL0⟩
    case round =>
      obtain ⟨q, acc, av, D, f, hsq, hqd, rfl, hf, hac, hB, hTh, hS, hL⟩ := hrel
      clear hB0 hS0 hL0
      obtain ⟨ao, ak, rfl⟩ := hB.row.shape
      obtain ⟨f', rfl⟩ : ∃ f', f = f' + 1 := ⟨f - 1, by omega⟩
      have hAl := (rfl : attrsF (f' + 1) acc (doc.data.toList.drop q) = attrsF (f' + 1) acc (doc.data.toList.drop q))
      conv at hAl => rhs; unfold attrsF; simp only [List.drop_drop]
      have hL2 := hL.out
      generalize attrsF (f' + 1) acc (doc.data.toList.drop q) = res2 at hAl hL2
      have hbl := blanks_any b q doc _ hB.place hqd hd
      have hgl := blanksN_le (doc.data.toList.drop q)
      rw [List.length_drop, ← Lib.size_eq] at hgl
      generalize blanksN (doc.data.toList.drop q) = g at hAl hbl hgl
      clear hL
      have HL := Lib.hid hL2
      have HA := Lib.hid hAl
      clear hL2 hAl
      go_wp2_with fail
      refine hbl.mono ?_
      rintro e w4 ⟨rfl, hP4, hS4⟩
      have hB4 := hB.sole hS4 hP4
      have hS4' := hS.trans hS4
      clear hbl hB hS hS4 hP4
      cases h1 : Lib.hasPrefix (doc.data.toList.drop (q + g)) [62] with
      | true =>
        have hA := HA.out
        rw [if_pos h1] at hA
        have HA2 := Lib.hid (HL.out.2 _ _ _ hA)
        have hroom1 := prefix_room h1 (by simp)
        simp only [List.length_cons, List.length_nil] at hroom1
        have hsk := skipM_yes b (q + g) doc [62] 1 rfl _ hB4.place (by omega) hd h1
        clear hA h1 HA HL
        go_wp2_with fail
        refine hsk.mono ?_
        rintro e w5 ⟨rfl, hP5, hS5⟩
        have hB5 := hB4.sole hS5 hP5
        have HS := hS4'.trans hS5
        clear hsk hB4 hS4' hS5 hP5
        obtain ⟨c0, c1, c2, c3, c4, ff⟩ := hB5.fresh.cell
        have f0 := ff 0
        have f1 := ff 1
        have f2 := ff 2
        have f3 := ff 3
        have f4 := ff 4
        clear ff
        obtain ⟨t0, t1, t2, t3, t4, tf⟩ := hB5.tok.cell
        clear tf
        go_wp2_with fail
        rw [Exit.noGoto_ret]
        refine bodyPost_ret (v := .tuple #[.agg #[.int .i64 2, .string ⟨tw.toArray⟩, .string ⟨#[]⟩, .slice ao acc.length ak, .bool false], .bool true]) (by simp [results, Tryz.results24, go_sem, c0, c1, c2, c3, c4]) rfl (PiecePost.opened HA2.out ?_ ((hB5.row.set5 (show w.heap.size < w3.heap.size + 1 + 1 by omega) _ _ _ _ _).mono (by omega)) ?_ (HS.set5 (Nat.le_refl _) _ _ _ _ _))
        · unfold tokV; rfl
        · rw [show p + (q - p + (g + 1)) = q + g + 1 from by omega]; exact hB5.place.set5 (by omega) _ _ _ _ _
      | false =>
        have hA := HA.out
        rw [if_neg (by simp [h1])] at hA
        clear HA
        have HA := Lib.hid hA
        have hsk := skipM_no b (q + g) doc [62] _ hB4.place (by omega) h1
        clear hA h1
        go_wp2_with fail
        refine hsk.mono ?_
        rintro e w5 ⟨rfl, hP5, hS5⟩
        have hB5 := hB4.sole hS5 hP5
        have hS5' := hS4'.trans hS5
        clear hsk hB4 hS4' hS5 hP5
        cases h2 : Lib.hasPrefix (doc.data.toList.drop (q + g)) [47, 62] with
        | true =>
          have hA := HA.out
          rw [if_pos h2] at hA
          have HA2 := Lib.hid (HL.out.2 _ _ _ hA)
          have hroom1 := prefix_room h2 (by simp)
          simp only [List.length_cons, List.length_nil] at hroom1
          have hsk := skipM_yes b (q + g) doc [47, 62] 2 rfl _ hB5.place (by omega) hd h2
          clear hA h2 HA HL
          go_wp2_with fail
          refine hsk.mono ?_
          rintro e w6 ⟨rfl, hP6, hS6⟩
          have hB6 := hB5.sole hS6 hP6
          have HS := hS5'.trans hS6
          clear hsk hB5 hS5' hS6 hP6
          obtain ⟨c0, c1, c2, c3, c4, ff⟩ := hB6.fresh.cell
          have f0 := ff 0
          have f1 := ff 1
          have f2 := ff 2
          have f3 := ff 3
          have f4 := ff 4
          clear ff
          obtain ⟨t0, t1, t2, t3, t4, tf⟩ := hB6.tok.cell
          have tf4 := tf 4
          clear tf
          have hne : w.heap.size ≠ w3.heap.size := by omega
          go_wp2_with fail
          rw [Exit.noGoto_ret]
          refine bodyPost_ret (v := .tuple #[.agg #[.int .i64 2, .string ⟨tw.toArray⟩, .string ⟨#[]⟩, .slice ao acc.length ak, .bool true], .bool true]) (by simp [results, Tryz.results24, go_sem, c0, c1, c2, c3, c4]) rfl (PiecePost.opened HA2.out ?_ (((hB6.row.setCell (show w3.heap.size < w3.heap.size + 1 + 1 by omega) _).set5 (show w.heap.size < w3.heap.size + 1 + 1 by omega) _ _ _ _ _).mono (by omega)) ?_ ((HS.setNew (by show w.heap.size ≤ w3.heap.size; omega) _).set5 (Nat.le_refl _) _ _ _ _ _))
          · unfold tokV; rfl
          · rw [show p + (q - p + (g + 2)) = q + g + 2 from by omega]; exact (hB6.place.setNew _ (by omega)).set5 (by omega) _ _ _ _ _
        | false =>
          have hA := HA.out
          rw [if_neg (by simp [h2])] at hA
          have hsk := skipM_no b (q + g) doc [47, 62] _ hB5.place (by omega) h2
          clear h2 HA
          by_cases hg0 : g = 0
          · subst hg0
            rw [if_pos rfl] at hA
            have HA2 := Lib.hid (HL.out.1 hA)
            clear hA HL
            go_wp2_with fail
            refine hsk.mono ?_
            rintro e w6 ⟨rfl, hP6, hS6⟩
            have hB6 := hB5.sole hS6 hP6
            have HS := hS5'.trans hS6
            clear hsk hB5 hS5' hS6 hP6
            obtain ⟨c0, c1, c2, c3, c4, ff⟩ := hB6.fresh.cell
            have f0 := ff 0
            have f1 := ff 1
            have f2 := ff 2
            have f3 := ff 3
            have f4 := ff 4
            clear ff
            go_wp2_with fail
            rw [Exit.noGoto_ret]
            refine bodyPost_ret (v := .tuple #[.agg #[.int .i64 0, .string ⟨#[]⟩, .string ⟨#[]⟩, .slice none 0 0, .bool false], .bool false]) (by simp [results, Tryz.results24, go_sem, c0, c1, c2, c3, c4]) rfl (PiecePost.no HA2.out _ _ _ _ rfl (HS.set5 (Nat.le_refl _) _ _ _ _ _))
          · rw [if_neg hg0] at hA
            have hgb : ((g : Int) == 0) = false := by simp; omega
            have HA := Lib.hid hA
            clear hA
            go_wp2_with fail
            refine hsk.mono ?_
            rintro e w6 ⟨rfl, hP6, hS6⟩
            have hB6 := hB5.sole hS6 hP6
            have hS6' := hS5'.trans hS6
            clear hsk hB5 hS5' hS6 hP6
            have hat := attribute_any b (q + g) doc _ hB6.place (by omega) hd hB6.gl hb9
            go_wp2_with fail
            refine hat.mono ?_
            clear hat
            intro e w7 hpost
            unfold AttrPost at hpost
            have hA := HA.out
            clear HA
            cases hx : attrP (doc.data.toList.drop (q + g)) with
            | none =>
              rw [hx] at hA hpost
              obtain ⟨⟨x, y, rfl⟩, hS7⟩ := hpost
              have HA2 := Lib.hid (HL.out.1 hA)
              have hF7 := hB6.fresh.sole hS7 (by omega)
              have HS := hS6'.trans hS7
              clear hA HL hx hB6 hS6'
              have HS := HS.alloc (.cells #[.string x, .string y] 43)
              have hF8 : FreshTok (w7.alloc (.cells #[.string x, .string y] 43)) w.heap.size := (((Below.refl _ w7).alloc (Nat.le_refl _) (.cells #[.string x, .string y] 43)).block _ (lt_of_block hF7)).trans hF7
              obtain ⟨c0, c1, c2, c3, c4, ff⟩ := hF8.cell
              have f0 := ff 0
              have f1 := ff 1
              have f2 := ff 2
              have f3 := ff 3
              have f4 := ff 4
              clear ff
              go_wp2_with fail
              rw [Exit.noGoto_ret]
              refine bodyPost_ret (v := .tuple #[.agg #[.int .i64 0, .string ⟨#[]⟩, .string ⟨#[]⟩, .slice none 0 0, .bool false], .bool false]) (by simp [results, Tryz.results24, go_sem, c0, c1, c2, c3, c4]) rfl (PiecePost.no HA2.out _ _ _ _ rfl (HS.set5 (Nat.le_refl _) _ _ _ _ _))
            | some z =>
              obtain ⟨⟨an, ax⟩, k⟩ := z
              rw [hx] at hA hpost
              obtain ⟨rfl, hP7, hS7⟩ := hpost
              have hrm := attrP_room hx
              rw [List.length_drop, ← Lib.size_eq] at hrm
              have hM7 := (hB6.sole hS7 hP7).mw
              have hB7 := (hB6.sole hS7 hP7).alloc (.cells #[.string ⟨an.toArray⟩, .string ⟨ax.toArray⟩] 43)
              have hS7' := (hS6'.trans hS7).alloc (.cells #[.string ⟨an.toArray⟩, .string ⟨ax.toArray⟩] 43)
              clear hx hB6 hS6' hS7 hP7
              have hkey : keyOf Tryz.prog 9 (.string ⟨an.toArray⟩) = some (.string an) := by
                have := WideMaps.keyOf_string_mk Tryz.underlying9 (s := ⟨an.toArray⟩) (by rw [Lib.size_eq]; show an.length ≤ maxLen; unfold maxLen; omega)
                simpa using this
              have hzero : ∀ wz, (zeroValue 3).run Tryz.prog wz = .ok (.int .i64 0) wz := fun wz => by kernel_rfl
              have hTh2 := hTh.out an
              have hmap := hB7.map
              simp only at hA
              cases hany : acc.any (fun y => y.1 == an) with
              | true =>
                rw [hany] at hTh2 hA
                rw [if_pos rfl] at hA
                have HA2 := Lib.hid (HL.out.1 hA)
                have HS := hS7'
                clear hA HL hany hTh hS7'
                obtain ⟨c0, c1, c2, c3, c4, ff⟩ := hB7.fresh.cell
                have f0 := ff 0
                have f1 := ff 1
                have f2 := ff 2
                have f3 := ff 3
                have f4 := ff 4
                clear ff
                go_wp2_with (first
                  | (at_lookup; refine wpList_lookup_own_ok_int _ rfl _ _ 98 rfl 9 3 .i64 (Maps.string_keyed Tryz.underlying9) Tryz.underlying98 Tryz.underlying3 (hzero _) (w3.heap.size + 1) _ D rfl hmap _ _ rfl hkey ?_; intro c hat hwc)
                  | go_in)
                rw [Exit.noGoto_ret]
                refine bodyPost_ret (v := .tuple #[.agg #[.int .i64 0, .string ⟨#[]⟩, .string ⟨#[]⟩, .slice none 0 0, .bool false], .bool false]) (by simp [results, Tryz.results24, go_sem, c0, c1, c2, c3, c4]) rfl (PiecePost.no HA2.out _ _ _ _ rfl (HS.set5 (Nat.le_refl _) _ _ _ _ _))
              | false =>
                rw [hany] at hTh2 hA
                rw [if_neg (by simp)] at hA
                have hL3 : Hid (Link res tw p (q + (g + k)) (attrsF f' (acc ++ [(an, ax)]) (doc.data.toList.drop (q + (g + k))))) := by
                  refine Lib.hid (HL.out.next (by omega) ?_)
                  rw [hA]
                  cases attrsF f' (acc ++ [(an, ax)]) (doc.data.toList.drop (q + (g + k))) with
                  | none => rfl
                  | some z => rfl
                clear hA HL hany
                have t3 := hB7.tok.cell.2.2.2.1
                obtain ⟨i0, hi, hz0, hz1, hz2⟩ := info_parts info_attr
                go_wp2_with (first
                  | (at_lookup; refine wpList_lookup_own_ok_int _ rfl _ _ 98 rfl 9 3 .i64 (Maps.string_keyed Tryz.underlying9) Tryz.underlying98 Tryz.underlying3 (hzero _) (w3.heap.size + 1) _ D rfl hmap _ _ rfl hkey ?_; intro c hat hwc)
                  | (at_mapUpdate; refine wpList_mapUpdate_own _ rfl _ _ _ 98 rfl 9 3 (Maps.string_keyed Tryz.underlying9) Tryz.underlying98 _ (w3.heap.size + 1) _ D rfl hmap (by unfold maxLen; omega) _ _ _ rfl rfl hkey _ [] (plainElem_int Tryz.underlying3 (wf_nat (by omega))) ?_; intro w8 hown8 hg8; have hB8 := hB7.put hg8 hown8; have hS8 := hS7'.grown hg8 (by intro k e; cases e; omega); have t38 := hB8.tok.cell.2.2.2.1; have tf8 := hB8.tok.cell.2.2.2.2.2 3; have hx8 := (hg8.block _ (lt_of_block (heap_alloc_new w7 (.cells #[.string ⟨an.toArray⟩, .string ⟨ax.toArray⟩] 43))) (fun e => by injection e with e; omega)).trans (heap_alloc_new w7 (.cells #[.string ⟨an.toArray⟩, .string ⟨ax.toArray⟩] 43)); have x0 := cell_of_row w8 w7.heap.size 0 _ _ _ hx8; have x1 := cell_of_row w8 w7.heap.size 1 _ _ _ hx8)
                  | (at_builtin; refine wpList_append_own _ rfl _ _ 36 rfl (w3.heap.size + 1 + 1) 43 i0 (.agg #[.string ⟨#[]⟩, .string ⟨#[]⟩]) 2 32 Tryz.underlying36 hi hz0 hz1 hz2 rfl (by decide) _ _ _ rfl (hB8.row.alloc _) ⟨w8.heap.size, 0, none⟩ 1 1 [.string ⟨an.toArray⟩, .string ⟨ax.toArray⟩] rfl rfl (cell_two_new _ _ _ _) (fun x hx => by simp at hx; rcases hx with rfl | rfl <;> rfl) (by unfold maxLen; omega) (by omega) (by simp; have := hB8.mw; omega) ?_; intro v' w9 hown9 hg9 hnil9; obtain ⟨vo, vk, rfl⟩ := ownsRow_shape hown9; have hB9 := (hB8.alloc _).app hg9 hown9; have hT9 := (hB8.alloc _).tokGrown hg9; have t9 := hT9.cell.2.2.2.1; have tf9 := hT9.cell.2.2.2.2.2 3; have hS9 := ((hS8.alloc _).grown hg9 (fun k e => by have := hB8.row.lt _ e; omega)).setNew (p := ⟨w3.heap.size, 3, none⟩) (by show w.heap.size ≤ w3.heap.size; omega) (.slice vo (acc.length + 1) vk))
                  | go_in)
                go_roundg (doc.size - (q + (g + k)))
                case rel =>
                  refine ⟨q + (g + k), acc ++ [(an, ax)], .slice vo (acc.length + 1) vk, D.put (.string an) (.lit (.int .i64 (acc.length : Nat))), f', by omega, by omega, rfl, by omega, by simp; omega, ?_, ?_, hS9, hL3⟩
                  · rw [List.length_append, show q + (g + k) = q + g + k from by omega]
                    exact hB9
                  · exact hTh.out.put hB7.map.isMap _ _ _
                case measure => omega
end Go.Proofs.YtkehbepopegboaaGreatDoor
