/-
  Layer 3: how a document is read: its walk.
-/
import Derived.Test.YtkehbepopegboaaGreatDoorAll1
import Derived.Laws.EntriesVeiled
namespace Go.Proofs.YtkehbepopegboaaGreatDoor
open Go.RowKit
set_option linter.unusedVariables false
theorem info_tok : (Tryz.prog.info? 40).map (fun i => (i.zero, i.size, i.bytes)) = some (some (.agg #[.int .i64 0, .string ⟨#[]⟩, .string ⟨#[]⟩, .slice none 0 0, .bool false]), 5, 72) := by kernel_rfl
set_option maxRecDepth 100000 in
theorem enter_read (j : Nat) (hj : j < 6) : ∀ args wz, (callFunc (readF j) args).run Tryz.prog wz = .ok (.enter (readF j) args) wz := by
  intro args wz
  have : j = 0 ∨ j = 1 ∨ j = 2 ∨ j = 3 ∨ j = 4 ∨ j = 5 := by omega
  rcases this with rfl | rfl | rfl | rfl | rfl | rfl
  · rfl
  · rfl
  · rfl
  · rfl
  · rfl
  · rfl
theorem allF_none {f p : Nat} {first : Bool} {acc : List Tok} {l : Bytes} (hne : l ≠ []) (h : pieceP first l = none) : allF (f + 1) first p acc l = .inl p := by
  conv => lhs; unfold allF
  rw [if_neg hne, h]
theorem allF_some {f p : Nat} {first : Bool} {acc : List Tok} {l : Bytes} {t : Tok} {k : Nat} (hne : l ≠ []) (h : pieceP first l = some (t, k)) : allF (f + 1) first p acc l = allF f false (p + k) (acc ++ [t]) (l.drop k) := by
  conv => lhs; unfold allF
  rw [if_neg hne, h]
set_option maxHeartbeats 8000000 in
set_option maxRecDepth 100000 in
theorem pieces_any (l : Bytes) (o : Option Addr) (cap : Nat) (w : World) (hv : BytesV w o cap l) (hl : l.length ≤ 4611686018427387904) (hg : Gl w) :
    Calls Tryz.prog 5 #[.slice o l.length cap] w (AllR (allP l) w) := by
  have hck := check_v hv hg
  have hA := (rfl : allP l = allP l)
  conv at hA => rhs; unfold allP
  generalize allP l = res at hA
  by_cases h0 : 65536 < l.length
  · rw [if_pos h0] at hA
    subst hA
    have hd : decide ((l.length : Int) > 65536) = true := by rw [decide_eq_true_eq]; omega
    go_enter Tryz.func5, Tryz.ntmps5
    go_wp2_with fail
    go_step3
    go_wp2_with fail
    rw [Exit.noGoto_ret]
    exact bodyPost_ret (v := .tuple #[.slice none 0 0, .int .i64 0, .int .i64 17]) (by simp [results, Tryz.results5, go_sem]) rfl (AllR.of rfl rfl (ToksAt.nil _ _) (Below.refl _ _))
  · rw [if_neg h0] at hA
    have hd : decide ((l.length : Int) > 65536) = false := by rw [decide_eq_false_iff_not]; omega
    by_cases h1 : chk l < l.length
    · rw [if_pos h1] at hA
      subst hA
      have hce : chkE l = 10 := by unfold chkE; rw [if_pos h1]
      rw [hce] at hck
      go_enter Tryz.func5, Tryz.ntmps5
      go_wp2_with fail
      go_step3
      go_wp2_with fail
      refine hck.mono ?_
      rintro e w1 ⟨rfl, hb1⟩
      go_wp2_with fail
      rw [Exit.noGoto_ret]
      exact bodyPost_ret (v := .tuple #[.slice none 0 0, .int .i64 (chk l : Nat), .int .i64 10]) (by simp [results, Tryz.results5, go_sem]) rfl (AllR.of rfl rfl (ToksAt.nil _ _) hb1)
    · rw [if_neg h1] at hA
      have hce : chkE l = 0 := by unfold chkE; rw [if_neg h1]
      rw [hce] at hck
      have hmid : (Lib.replaceAll l [13, 10] [10]).length = (lines l).length := by
        rw [← lines_eq, replace_one 13 10 (by decide), List.length_map]
      have hll := lines_len l.length l (Nat.le_refl _)
      have hr1 := fun w1 (hg1 : Gl w1) => replace1_any (Lib.replaceAll l [13, 10] [10]) 13 10 (by decide) w1 (by omega) hg1
      rw [lines_eq] at hr1
      have hr2 := fun w1 (hg1 : Gl w1) => replace2_any l w1 (by omega) hg1
      generalize Lib.replaceAll l [13, 10] [10] = mid at hr1 hr2 hmid
      generalize lines l = lb at hA hr1 hmid hll
      obtain ⟨doc, hdoc⟩ : ∃ doc : ByteArray, doc = ⟨lb.toArray⟩ := ⟨_, rfl⟩
      rw [← hdoc] at hr1
      have hlb : lb = doc.data.toList := by rw [hdoc]
      have hds : doc.size ≤ 65536 := by rw [Lib.size_eq, ← hlb]; omega
      rw [hlb] at hA
      rw [show doc.data.toList.length = doc.size from (Lib.size_eq doc).symm] at hA
      clear hlb hdoc hmid hll
      have HA := Lib.hid hA
      have Hr1 := Lib.hid hr1
      have Hr2 := Lib.hid hr2
      have hcv := fun w1 (hb : Below w.heap.size w w1) => convert_v (hv.below hb)
      have Hcv := Lib.hid hcv
      clear hA hr1 hr2 hcv
      go_enter Tryz.func5, Tryz.ntmps5
      go_wp2_with fail
      go_step3
      go_wp2_with fail
      refine hck.mono ?_
      rintro e w1 ⟨rfl, hb1⟩
      have hg1 := hg.below hg.size hb1
      have hcv := Hcv.out _ hb1
      have hr2 := Hr2.out _ hg1
      clear hck Hcv Hr2
      go_wp2_with fail
      refine hr2.mono ?_
      rintro e w2 ⟨rfl, hb2⟩
      have hg2 := hg1.below hg1.size hb2
      have hb2' := hb1.trans (hb2.mono hb1.size)
      have hr1 := Hr1.out _ hg2
      clear hr2 Hr1
      go_wp2_with fail
      refine hr1.mono ?_
      rintro e w3 ⟨rfl, hb3⟩
      have hg3 := hg2.below hg2.size hb3
      have hb3' := hb2'.trans (hb3.mono hb2'.size)
      clear hr1 hcv
      go_wp2_with fail
      have hma := marks_any (w3.alloc (.cells #[.string doc, .int .i64 0] 50))
      refine hma.mono ?_
      clear hma
      rintro e w5 ⟨rfl, hM5, hb5, hz5⟩
      have hS0 : AllSt w3.heap.size (w3.heap.size + 1) doc 0 [] (.slice none 0 0) w w5 := by
        have e1 : (w3.alloc (.cells #[.string doc, .int .i64 0] 50)).heap.size = w3.heap.size + 1 := by simp
        have hsz := hb3'.size
        have hg9 := hg3.size
        rw [e1] at hM5 hb5
        have hb4 : Below w3.heap.size w3 (w3.alloc (.cells #[.string doc, .int .i64 0] 50)) := (Below.refl _ w3).alloc (Nat.le_refl _) _
        have h1 := heap_alloc_new w3 (.cells #[.string doc, .int .i64 0] 50)
        refine ⟨(hb5.block _ (by omega)).trans h1, hM5, ToksAt.nil _ _, (hg3.below hg3.size hb4).below (B := 9) (Nat.le_refl _) (hb5.mono (by omega)), hb3'.trans ((hb4.mono hsz).trans (hb5.mono (by omega))), hsz, by omega, hg9⟩
      have HA' : Hid (allF (doc.size + 1) true 0 [] doc.data.toList = allF (doc.size + 1) (decide ((0 : Nat) = 0)) 0 [] (doc.data.toList.drop 0)) := rfl
      obtain ⟨B, hB⟩ : ∃ B, w3.heap.size = B := ⟨_, rfl⟩
      have e1 : (w3.alloc (.cells #[.string doc, .int .i64 0] 50)).heap.size = B + 1 := by simp [hB]
      rw [e1]
      rw [hB] at hS0
      simp only [hB]
      clear hb3 hb2 hb2' hg2 hM5 hb5 hz5 hg1 hb1
      go_wp2_with fail
      go_step3
      go_wp2_with fail
      go_loopg [9] doc.size (fun k v wr => ∃ (p : Nat) (acc : List Tok) (f : Nat), p ≤ doc.size ∧ k = doc.size - p ∧ k < f ∧ acc.length ≤ p ∧ AllSt B (B + 1) doc p acc v w wr ∧ Hid (allF (doc.size + 1) true 0 [] doc.data.toList = allF f (decide (p = 0)) p acc (doc.data.toList.drop p)))
      case atStart => exact ⟨0, [], doc.size + 1, Nat.zero_le _, rfl, by omega, Nat.le_refl _, hS0, HA'⟩
      case round =>
        obtain ⟨p, acc, f, hp, rfl, hf, hac, hS, HF⟩ := hrel
        clear hS0 HA'
        have hdo := hS.place.doc
        have hpo := hS.place.pos
        by_cases hlt : p < doc.size
        · have hdec : decide ((p : Int) < (doc.size : Int)) = true := by rw [decide_eq_true_eq]; omega
          go_wp2_with fail
          go_loopg [9, 46] 6 (fun k x i wq => ∃ j : Nat, x = u9 ∧ i = .int .i64 j ∧ j < 6 ∧ k = 6 - j ∧ Hid (∀ q, q < j → Lib.hasPrefix (doc.data.toList.drop p) (markB q) = false) ∧ AllSt B (B + 1) doc p acc u9 w wq)
          case atStart => exact ⟨0, rfl, rfl, by omega, rfl, fun q hq => absurd hq (by omega), hS⟩
          case round =>
            obtain ⟨j, rfl, rfl, hj, rfl, Hno, hSj⟩ := hrel
            clear hS hdo hpo
            obtain ⟨m0, m1⟩ := hSj.marks.cell j hj
            have hdj : decide ((j : Int) < 6) = true := by rw [decide_eq_true_eq]; omega
            have hm6 : j = 5 → Lib.hasPrefix (doc.data.toList.drop p) (markB j) = true := fun e => by subst e; unfold markB Lib.hasPrefix; simp
            have hrd := fun wz hP hg => reads_any j B p hj doc wz hP hp hds hg hSj.b9 Hno.out
            generalize hmk : markB j = mk at m0 hm6 hrd
            have hen := enter_read j hj
            generalize readF j = fn at m1 hrd hen
            have Hrd := Lib.hid hrd
            clear hrd
            have hSa := hSj.alloc (.cells #[.string ⟨mk.toArray⟩, .func (.func fn) #[] #[]] 55)
            have hst := starts_any B p doc ⟨mk.toArray⟩ _ hSa.place hp
            go_wp2_with fail
            refine hst.mono ?_
            clear hst
            rintro e wa ⟨rfl, na, rfl⟩
            have hSb := hSa.drewN na
            have hxb : ((wr.alloc (.cells #[.string ⟨mk.toArray⟩, .func (.func fn) #[] #[]] 55)).drewN na).heap[wr.heap.size]? = some (.cells #[.string ⟨mk.toArray⟩, .func (.func fn) #[] #[]] 55 (0, 0)) := heap_alloc_new wr _
            generalize (wr.alloc (.cells #[.string ⟨mk.toArray⟩, .func (.func fn) #[] #[]] 55)).drewN na = wb at hSb hxb ⊢
            have x1 := cell_of_row wb wr.heap.size 1 _ _ _ hxb
            have hpo := hSb.place.pos
            clear hSa hSj hxb m0 m1
            cases hpm : Lib.hasPrefix (doc.data.toList.drop p) mk with
            | false =>
              have hj5 : j ≠ 5 := fun e => by rw [hm6 e] at hpm; cases hpm
              have Hno2 : Hid (∀ q, q < j + 1 → Lib.hasPrefix (doc.data.toList.drop p) (markB q) = false) := by
                intro q hq
                by_cases e : q = j
                · subst e; rw [hmk]; exact hpm
                · exact Hno.out q (by omega)
              clear Hrd Hno hm6 hmk
              go_wp2_with fail
              go_roundg (6 - (j + 1))
              case rel => exact ⟨j + 1, rfl, by go_num, by omega, rfl, Hno2, hSb⟩
              case measure => omega
            | true =>
              have hrd := Hrd.out _ hSb.place hSb.gl hpm
              clear Hrd Hno hm6 hmk
              go_wp2_with fail
              refine hrd.mono ?_
              clear hrd
              intro e wc hpost
              unfold PiecePost at hpost
              have hHA := HA.out
              obtain ⟨f', rfl⟩ : ∃ f', f = f' + 1 := ⟨f - 1, by omega⟩
              have hne : doc.data.toList.drop p ≠ [] := by
                rw [drop_at doc p hlt]; simp
              have hF := HF.out
              cases hpc : pieceP (decide (p = 0)) (doc.data.toList.drop p) with
              | none =>
                rw [allF_none hne hpc] at hF
                rw [hpc] at hpost
                rw [hF] at hHA
                obtain ⟨⟨kk, x, y, m, rfl⟩, hSc⟩ := hpost
                have HR := Lib.hid hHA
                have hbe := hSb.below.trans (hSc.below hSb.wB hSb.below.size)
                clear hHA hF HF HA hpc
                go_wp2_with fail
                rw [Exit.noGoto_ret]
                exact bodyPost_ret (v := .tuple #[.slice none 0 0, .int .i64 p, .int .i64 12]) (by simp [results, Tryz.results5, go_sem]) rfl (AllR.of HR.out rfl (ToksAt.nil _ _) (hbe.alloc hbe.size _))
              | some z =>
                obtain ⟨t, k⟩ := z
                rw [allF_some hne hpc] at hF
                rw [hpc] at hpost
                obtain ⟨⟨av, rfl, hav⟩, hPc, hSc⟩ := hpost
                have hrm := pieceP_room hne hpc
                rw [List.length_drop, ← Lib.size_eq] at hrm
                have hSc2 := hSb.sole hSc hPc
                have hav2 := hav.mono (show B + 1 + 1 ≤ wb.heap.size from hSb.mw)
                have HF2 : Hid (allF (doc.size + 1) true 0 [] doc.data.toList = allF f' (decide (p + k = 0)) (p + k) (acc ++ [t]) (doc.data.toList.drop (p + k))) := by
                  show _ = _
                  rw [hF, List.drop_drop, show decide (p + k = 0) = false from by rw [decide_eq_false_iff_not]; omega]
                clear hHA hF HF hpc hSb hSc hPc hav hne x1
                unfold tokV
                obtain ⟨ao, ak, rfl⟩ := hav2.shape
                have hg0 := World.grownBy_alloc wc (.cells #[.int .i64 t.kind, .string ⟨t.name.toArray⟩, .string ⟨t.text.toArray⟩, .slice ao t.attrs.length ak, .bool t.empty] 40) none
                have hS4 := hSc2.alloc (.cells #[.int .i64 t.kind, .string ⟨t.name.toArray⟩, .string ⟨t.text.toArray⟩, .slice ao t.attrs.length ak, .bool t.empty] 40)
                have hav4 : AttrsAt (wc.alloc (.cells #[.int .i64 t.kind, .string ⟨t.name.toArray⟩, .string ⟨t.text.toArray⟩, .slice ao t.attrs.length ak, .bool t.empty] 40)) (B + 1 + 1) (.slice ao t.attrs.length ak) t.attrs := World.ownsRow.alloc hav2 _
                have hS5 := hS4.alloc (.cells #[.int .i64 t.kind, .string ⟨t.name.toArray⟩, .string ⟨t.text.toArray⟩, .slice ao t.attrs.length ak, .bool t.empty] 40)
                have hav5 := World.ownsRow.alloc hav4 (.cells #[.int .i64 t.kind, .string ⟨t.name.toArray⟩, .string ⟨t.text.toArray⟩, .slice ao t.attrs.length ak, .bool t.empty] 40)
                obtain ⟨i0, hi, hz0, hz1, hz2⟩ := info_parts info_tok
                obtain ⟨ps, hps, hrow, hats⟩ := hS5.toks
                have hlt9 := hS5.toks.lt
                have Hats := Lib.hid hats
                have Hps := Lib.hid hps
                clear hats hps
                go_wp2_with (first
                  | (at_builtin; refine wpList_append_own _ rfl _ _ 24 rfl (B + 1 + 1) 40 i0 (.agg #[.int .i64 0, .string ⟨#[]⟩, .string ⟨#[]⟩, .slice none 0 0, .bool false]) 5 72 Tryz.underlying24 hi hz0 hz1 hz2 rfl (by decide) u9 _ _ rfl hrow ⟨wc.heap.size + 1, 0, none⟩ 1 1 (tokRow (t, .slice ao t.attrs.length ak)) rfl rfl (cells_new _ (tokRow (t, .slice ao t.attrs.length ak)) _ _ (by simp)) (fun x hx => by unfold tokRow at hx; simp at hx; rcases hx with rfl | rfl | rfl | rfl | rfl <;> rfl) (by unfold maxLen; omega) (by omega) hS5.mw ?_; intro v' w9 hown9 hg9 hnil9))
                go_roundg (doc.size - (p + k))
                case rel =>
                  refine ⟨p + k, acc ++ [t], f', by omega, rfl, by omega, by simp; omega, hS5.app hg9 (fun k e => by have := hlt9 k e; omega) (ToksAt.append Hps.out hrow Hats.out hav5 hg9 hown9), HF2⟩
                case measure => omega
        · have hdec : decide ((p : Int) < (doc.size : Int)) = false := by rw [decide_eq_false_iff_not]; omega
          have hpe : p = doc.size := by omega
          have hHA := HA.out
          rw [HF.out, drop_end doc p (by omega)] at hHA
          obtain ⟨f', rfl⟩ : ∃ f', f = f' + 1 := ⟨f - 1, by omega⟩
          rw [show allF (f' + 1) (decide (p = 0)) p acc [] = .inr acc from by simp [allF]] at hHA
          have HR := Lib.hid hHA
          clear hHA HF HA
          obtain ⟨ao, ak, rfl⟩ := hS.toks.shape
          go_wp2_with fail
          exact bodyPost_ret (v := .tuple #[.slice ao acc.length ak, .int .i64 0, .int .i64 0]) (by simp [results, Tryz.results5, go_sem]) rfl (AllR.of HR.out rfl (hS.toks.mono (by have := hS.wB; omega)) hS.below)
end Go.Proofs.YtkehbepopegboaaGreatDoor
