/-
  names.Unescape answers the text that is written so, or what is wrong: its walk, for every text of at most 2^40 bytes. Condition: the table of spans lies in memory.
-/
import Derived.Test.YtkehbepopegboaaGreatDoorRef
namespace Go.Proofs.YtkehbepopegboaaGreatDoor
open Go.RowKit
set_option linter.unusedVariables false
theorem builder_below {T e : TypeId} {B b : Nat} {bs : List Value} {w w' : World} (h : Lib.IsBuilderF T e B b bs w) (hb : Below w.heap.size w w') : Lib.IsBuilderF T e B b bs w' := by
  have H : ∀ p, Lib.BuilderAtF T e B b p bs w → Lib.BuilderAtF T e B b p bs w' := by
    rintro p ⟨hB, v, hbk, hown, hne⟩
    refine ⟨hB, v, (hb.block b (Array.getElem?_eq_some_iff.1 hbk).1).trans hbk, ⟨hown.1, ?_⟩, hne⟩
    rcases hown.2 with hn | ⟨g, cap, cur, fz, hv, hbg, hg, rest⟩
    · exact .inl hn
    · exact .inr ⟨g, cap, cur, fz, hv, hbg, (hb.block g (Array.getElem?_eq_some_iff.1 hg).1).trans hg, rest⟩
  exact h.elim (fun x => .inl (H _ x)) (fun x => .inr (H _ x))
set_option maxHeartbeats 4000000 in
set_option maxRecDepth 100000 in
theorem unescape_any (s : ByteArray) (w : World) (hs : s.size ≤ 1099511627776) (h0 : 0 < w.heap.size) (hsp : Spans w) :
    Calls Tryz.prog 51 #[.string s] w fun x w' => x = .returned (unV (unescape s.data.toList)) ∧ Below w.heap.size w w' := by
  have hlen : s.data.toList.length = s.size := (Lib.size_eq s).symm
  have hcv := Lib.run_convert_string_bytes (P := Tryz.prog) w 9 22 5 s (u := .string) Tryz.underlying9 Tryz.underlying22 Tryz.underlying5
  have hB : BytesAt (Lib.bytesWorld w 5 s) w.heap.size 0 s.data.toList := fun j hj => by
    rw [Nat.zero_add]; exact Lib.bytesWorld_cell w 5 s j (by omega)
  have hbw := Lib.bytesWorld_below w 5 s
  have hsz := Lib.bytesWorld_size w 5 s
  have hcap1 := grownCap_ge w s.size 0 5
  have hcap2 := grownCap_le_maxLen w s.size 0 5 (by unfold maxLen; omega)
  unfold maxLen at hcap2
  generalize grownCap w s.size 0 5 = cap at hcv hcap1 hcap2
  generalize Lib.bytesWorld w 5 s = W1 at hcv hB hbw hsz
  have hW1 : w.heap.size < W1.heap.size := by omega
  have Hlen := Lib.hid hlen
  clear hsz hlen
  go_enter Tryz.func51, Tryz.ntmps51
  go_wp2_with fail
  go_step3
  go_wp2_with fail
  rw [← Hlen.out]
  refine (check_any w.heap.size 0 cap s.data.toList _ (by rw [Hlen.out]; exact hcap1) (by omega) hB hW1 (by omega) (hsp.below h0 hbw)).mono ?_
  rintro x w2 ⟨rfl, hb2⟩
  have hb3 := hbw.trans (hb2.mono hbw.size)
  by_cases hv : chk s.data.toList < s.data.toList.length
  · have he : chkE s.data.toList = 10 := by unfold chkE; rw [if_pos hv]
    have hu : unescape s.data.toList = (10, []) := by unfold unescape; rw [if_pos hv]
    rw [he]
    have Hu := Lib.hid hu
    clear hv he hu
    go_wp2_with fail
    rw [Exit.noGoto_ret]
    go_ret2
    exact ⟨by rw [Hu.out]; rfl, hb3⟩
  · have he : chkE s.data.toList = 0 := by unfold chkE; rw [if_neg hv]
    have hu : unescape s.data.toList = unescF s.data.toList.length [] s.data.toList := by unfold unescape; rw [if_neg hv]
    rw [he]
    have Hu := Lib.hid hu
    have hsp2 := hsp.below h0 hb3
    have hsz3 := hb3.size
    have hfresh := (Lib.IsBuilderF.of (Lib.fresh_isBuilder 85 5 w2))
    clear hv he hu hcv hB hbw hb2
    go_wp2_with fail
    go_step3
    go_wp2_with fail
    go_loopw [7, 8] (fun wrong at_ wr => ∃ (k fuel : Nat) (acc : Bytes), wrong = .int .i64 0 ∧ at_ = .int .i64 k ∧ k ≤ s.size ∧ Lib.IsBuilderF 85 5 w2.heap.size w2.heap.size (Lib.byteCells acc) wr ∧ Below w2.heap.size w2 wr ∧ w2.heap.size < wr.heap.size ∧
        Hid (unescape s.data.toList = unescF fuel acc (s.data.toList.drop k) ∧ s.size ≤ k + fuel ∧ acc.length ≤ 4 * k)) (fun _ at_ _ => s.size - (intOf at_).toNat)
    case atStart =>
      exact ⟨0, s.data.toList.length, [], rfl, rfl, Nat.zero_le _, hfresh, (Below.refl _ _).alloc (Nat.le_refl _) _, by simp, Hu.out, by rw [Hlen.out]; omega, by simp⟩
    case round =>
      obtain ⟨k, fuel, acc, rfl, rfl, hk, hI, hbw, hszr, HU⟩ := hrel
      have hbig := hb3.trans (hbw.mono hb3.size)
      clear hfresh
      by_cases hlt : k < s.size
      · have hget : s.data.toList[k]? = some s[k] := Lib.data_getElem? s k hlt
        have hd0 := Lib.extract_to_end s k
        have htz : (s.extract k s.size).size ≤ 9223372036854775807 := by rw [ByteArray.size_extract]; omega
        have hcut : ∀ wx, (Instr.slice 9 (.string s) (some (.int .i64 k)) none none).run Tryz.prog wx = .ok (.string (s.extract k s.size)) wx := fun wx => slice_from s k (by omega) wx
        have hdrop : s.data.toList.drop k = s[k] :: s.data.toList.drop (k + 1) := by
          have hl : k < s.data.toList.length := by rw [Hlen.out]; exact hlt
          rw [List.drop_eq_getElem_cons hl]
          congr 1
        obtain ⟨hun, hfu, hal⟩ := HU.out
        obtain ⟨f, rfl⟩ : ∃ f, fuel = f + 1 := ⟨fuel - 1, by omega⟩
        rw [hdrop, unescF_cons] at hun
        have Hdrop := Lib.hid hdrop
        clear hget hdrop
        by_cases h60 : ((s[k].toNat : Nat) : Int) = 60
        · rw [if_pos (UInt8.toNat_inj.1 (by show s[k].toNat = 60; omega))] at hun
          have Hun := Lib.hid hun
          clear hun HU hI
          go_wp2_with fail
          rw [Exit.noGoto_ret]
          go_ret2
          exact ⟨by rw [Hun.out]; rfl, hbig⟩
        · rw [if_neg (fun h => h60 (by rw [h]; rfl))] at hun
          by_cases h38 : ((s[k].toNat : Nat) : Int) = 38
          · have hc38 : s[k] = 38 := UInt8.toNat_inj.1 (by show s[k].toNat = 38; omega)
            rw [if_pos hc38] at hun
            have hhd : (s.extract k s.size).data.toList.headD 0 = 38 := by rw [hd0, Hdrop.out]; exact hc38
            rw [← Hdrop.out, ← hd0] at hun
            generalize s.extract k s.size = t at hcut htz hhd hun hd0
            have hd0' := Lib.hid hd0
            clear hd0 hc38 HU Hdrop
            cases hrf : refr t.data.toList with
            | none =>
              rw [hrf] at hun
              have Hun := Lib.hid hun
              have Hrf := Lib.hid hrf
              clear hun hrf
              go_wp2_with fail
              refine (reference_any t _ htz hhd (by omega) (hsp2.below (by omega) hbw)).mono ?_
              rintro x w4 ⟨rfl, hb4⟩
              rw [Hrf.out, refV_none]
              have hb5 := hbig.trans (hb4.mono hbig.size)
              go_wp2_with fail
              rw [Exit.noGoto_ret]
              go_ret2
              exact ⟨by rw [Hun.out]; rfl, hb5⟩
            | some x =>
              obtain ⟨r, n⟩ := x
              rw [hrf] at hun
              have hrr := refr_range hrf
              have hr1 := (isCh_range hrr.1).1
              have hr2 := (isCh_range hrr.1).2
              have hn1 := hrr.2.1
              have hn2 := hrr.2.2
              have htl : t.data.toList.length = s.size - k := by rw [hd0'.out, List.length_drop, Hlen.out]
              have hnz : ((n : Int) == 0) = false := by rw [beq_eq_false_iff_ne]; omega
              have hun2 : unescape s.data.toList = unescF f (acc ++ Lib.encodeRune r) (s.data.toList.drop (k + n)) := by
                rw [hun, hd0'.out, ← List.drop_drop]
              have Hun := Lib.hid hun2
              have Hrf := Lib.hid hrf
              have hle := encodeRune_le r
              rw [htl] at hn2
              clear hun hun2 hrf hrr htl
              go_wp2_with fail
              refine (reference_any t _ htz hhd (by omega) (hsp2.below (by omega) hbw)).mono ?_
              rintro x w4 ⟨rfl, hb4⟩
              rw [Hrf.out, refV_some]
              have hI4 := builder_below hI hb4
              have hbw4 := hbw.trans (hb4.mono hbw.size)
              have hsz4 := hb4.size
              go_wp2_with fail
              refine (Tryz.Builder_WriteRune_k w2.heap.size w2.heap.size _ r (by omega) (by omega) _ hI4 (by rw [Lib.byteCells_length]; omega) (by omega)).mono ?_
              rintro x w5 ⟨rfl, h1, b1, k1⟩
              have hsz5 := b1.size
              go_wp2_with fail
              go_roundw
              case rel =>
                refine ⟨k + n, f, acc ++ Lib.encodeRune r, rfl, by go_num, by omega, Or.inr ?_, hbw4.trans b1, by omega, Hun.out, by omega, by simp only [List.length_append]; omega⟩
                rw [Lib.byteCells_append, Lib.byteCells_encodeRune]; exact h1
              case measure => simp [intOf]; omega
          · rw [if_neg (fun h => h38 (by rw [h]; rfl))] at hun
            have Hun := Lib.hid hun
            clear hun HU
            go_wp2_with fail
            refine (Tryz.Builder_WriteByte_k w2.heap.size w2.heap.size _ _ _ hI (by rw [Lib.byteCells_length]; omega) (by omega)).mono ?_
            rintro x w4 ⟨rfl, h1, b1, k1⟩
            have hsz4 := b1.size
            go_wp2_with fail
            go_roundw
            case rel =>
              refine ⟨k + 1, f, acc ++ [s[k]], rfl, by go_num, by omega, Or.inr ?_, hbw.trans b1, by omega, Hun.out, by omega, by simp; omega⟩
              rw [Lib.byteCells_append]; exact h1
            case measure => simp [intOf]; omega
      · obtain ⟨hun, hfu, hal⟩ := HU.out
        have hd0 : s.data.toList.drop k = [] := List.drop_of_length_le (by rw [Hlen.out]; omega)
        rw [hd0, unescF_nil] at hun
        have Hun := Lib.hid hun
        clear hun hd0 HU
        go_wp2_with fail
        refine (Tryz.Builder_String_any_k w2.heap.size w2.heap.size acc _ hI (by omega)).mono ?_
        rintro x w4 ⟨rfl, _, b1, _⟩
        go_wp2_with fail
        rw [Exit.noGoto_ret]
        go_ret2
        exact ⟨by rw [Hun.out]; rfl, hbig.trans (b1.mono hb3.size)⟩
end Go.Proofs.YtkehbepopegboaaGreatDoor
