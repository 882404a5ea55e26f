/-
  The document's answer, layer 2: Unescape: its walk, for every text of at most 65536 bytes.
-/
import Derived.Test.YtkehbepopegboaaGreatDoorRNamed
import Derived.Test.YtkehbepopegboaaGreatDoorRRead
import Derived.Test.YtkehbepopegboaaGreatDoorU8
import Derived.Deep.DeepMust
namespace Go.Proofs.YtkehbepopegboaaGreatDoor
open Go.RowKit
set_option linter.unusedVariables false
theorem indexByte_first {l : Bytes} {c : UInt8} {i : Nat} (h : l[i]? = some c) (hno : ∀ j, j < i → l[j]? ≠ some c) : Lib.indexByte l c = i := by
  have hge := Lib.indexByte_ge l c
  by_cases hm : Lib.indexByte l c = -1
  · exact absurd h (Lib.indexByte_none hm i)
  · have hs := Lib.indexByte_some (l := l) (c := c) (o := (Lib.indexByte l c).toNat) (by omega)
    rcases Nat.lt_trichotomy (Lib.indexByte l c).toNat i with h1 | h1 | h1
    · exact absurd hs.1 (hno _ h1)
    · omega
    · exact absurd h (hs.2 i h1)
theorem indexByte_no {l : Bytes} {c : UInt8} (hno : ∀ j, j < l.length → l[j]? ≠ some c) : Lib.indexByte l c < 0 := by
  by_cases hm : Lib.indexByte l c < 0
  · exact hm
  · have hs := Lib.indexByte_some (l := l) (c := c) (o := (Lib.indexByte l c).toNat) (by omega)
    have := (List.getElem?_eq_some_iff.1 hs.1).1
    exact absurd hs.1 (hno _ this)
theorem refr_hit (s : ByteArray) (k e : Nat) (hk : k + 1 ≤ e) (he : e < s.size) (h : s[e].toNat = 59) (h0 : s[k]'(by omega) = 38) (hno : ∀ j, k + 1 ≤ j → j < e → s.data.toList.getD j 0 ≠ 59) :
    refr (s.data.toList.drop k) = (named (s.extract (k + 1) e).data.toList).map fun c => (c, e - k + 1) := by
  have hlen : s.data.toList.length = s.size := (Lib.size_eq s).symm
  have hi : Lib.indexByte (s.data.toList.drop k) 59 = (e - k : Nat) := by
    refine indexByte_first ?_ fun j hj => ?_
    · rw [List.getElem?_drop, show k + (e - k) = e by omega, Lib.data_getElem? s e he]
      congr 1
      exact UInt8.toNat_inj.1 h
    · rw [List.getElem?_drop]
      by_cases hj0 : j = 0
      · subst hj0
        rw [Nat.add_zero, Lib.data_getElem? s k (by omega), h0]
        decide
      · intro hx
        refine hno (k + j) (by omega) (by omega) ?_
        rw [List.getD_eq_getElem?_getD, hx]; rfl
  unfold refr
  rw [hi, if_neg (by omega), Int.toNat_natCast, List.drop_drop, Lib.extract_data, show e - k - 1 = e - (k + 1) by omega]
theorem refr_miss (s : ByteArray) (k : Nat) (hk : k < s.size) (h0 : s[k] = 38) (hno : ∀ j, k + 1 ≤ j → j < s.size → s.data.toList.getD j 0 ≠ 59) :
    refr (s.data.toList.drop k) = none := by
  have hlen : s.data.toList.length = s.size := (Lib.size_eq s).symm
  have hi : Lib.indexByte (s.data.toList.drop k) 59 < 0 := by
    refine indexByte_no fun j hj => ?_
    rw [List.length_drop, hlen] at hj
    rw [List.getElem?_drop]
    by_cases hj0 : j = 0
    · subst hj0
      rw [Nat.add_zero, Lib.data_getElem? s k (by omega), h0]
      decide
    · intro hx
      refine hno (k + j) (by omega) (by omega) ?_
      rw [List.getD_eq_getElem?_getD, hx]; rfl
  unfold refr
  rw [if_pos hi]
theorem u8s_rune (acc : Bytes) (r : Int) : u8s acc ++ Lib.runeCells r = u8s (acc ++ Lib.encodeRune r) := by
  rw [← Lib.byteCells_encodeRune]
  show u8s acc ++ u8s (Lib.encodeRune r) = _
  simp [u8s]
theorem runeCells_one (r : Int) : ∀ z ∈ Lib.runeCells r, z.oneCell' = true := by
  intro z hz
  unfold Lib.runeCells at hz
  simp only [List.mem_map] at hz
  obtain ⟨y, _, rfl⟩ := hz
  rfl
theorem runeCells_len (r : Int) : (Lib.runeCells r).length = (Lib.encodeRune r).length := by rw [← Lib.byteCells_encodeRune, Lib.byteCells_length]
theorem runeCells_pos (r : Int) : 1 ≤ (Lib.runeCells r).length := by
  unfold Lib.runeCells Lib.encodeRuneZ
  rw [List.length_map]
  repeat' split
  all_goals simp
set_option maxHeartbeats 4000000 in
set_option maxRecDepth 100000 in
theorem rUnesc_any (s : ByteArray) (w : World) (hs : s.size ≤ 65536) :
    Calls Tryz.prog 34 #[.string s] w fun e w' => e = .returned (unV (unescF s.size [] s.data.toList)) ∧ Below w.heap.size w w' := by
  have hlen : s.data.toList.length = s.size := (Lib.size_eq s).symm
  have Hlen := Lib.hid hlen
  clear hlen
  obtain ⟨R, hR⟩ : ∃ R, R = unescF s.size [] s.data.toList := ⟨_, rfl⟩
  rw [← hR]
  have HR := Lib.hid hR
  clear hR
  obtain ⟨i0, hi, hz0, hz1, hz2⟩ := info_parts info_u8
  go_enter Tryz.func34, Tryz.ntmps34
  go_wp2_with fail
  go_loopw [4, 5] (fun v i wr => ∃ (k fuel n : Nat) (acc : Bytes), i = .int .i64 k ∧ k ≤ s.size ∧ n ≤ 4 * k ∧ wr.ownsRow w.heap.size 5 1 v n (u8s acc) ∧ Below w.heap.size w wr ∧ Hid (R = unescF fuel acc (s.data.toList.drop k) ∧ s.size ≤ k + fuel)) (fun _ i _ => s.size - (intOf i).toNat)
  case atStart => exact ⟨0, s.size, 0, [], rfl, Nat.zero_le _, by omega, World.ownsRow_nil w _ _ _, Below.refl _ _, HR.out, by omega⟩
  case round =>
    obtain ⟨k, fuel, n, acc, rfl, hk, hn, hown, hbe, HU⟩ := hrel
    by_cases hlt : k < s.size
    · have hdk : decide ((k : Int) < (s.size : Int)) = true := by rw [decide_eq_true_eq]; omega
      have hdr := drop_at s k hlt
      obtain ⟨hun, hfu⟩ := HU.out
      obtain ⟨f, rfl⟩ : ∃ f, fuel = f + 1 := ⟨fuel - 1, by omega⟩
      rw [hdr, unescF_cons] at hun
      have Hdr := Lib.hid hdr
      clear hdr HU
      by_cases h60 : s[k].toNat = 60
      · have hb : ((s[k].toNat : Int) == 60) = true := by rw [beq_iff_eq]; omega
        rw [if_pos (UInt8.toNat_inj.1 h60)] at hun
        have Hun := Lib.hid hun
        clear hun h60
        go_wp2_with fail
        go_ret2
        exact ⟨by rw [Hun.out]; rfl, hbe⟩
      have hb60 : ((s[k].toNat : Int) == 60) = false := by rw [beq_eq_false_iff_ne]; omega
      rw [if_neg (fun h => h60 (by rw [h]; rfl))] at hun
      clear h60
      by_cases h38 : s[k].toNat = 38
      · have hb38 : ((s[k].toNat : Int) != 38) = false := by simp; omega
        have hc38 : s[k] = 38 := UInt8.toNat_inj.1 h38
        rw [if_pos hc38, ← Hdr.out] at hun
        have Hun := Lib.hid hun
        have Hc38 := Lib.hid hc38
        clear hun hc38 h38
        go_wp2_with fail
        go_loop [6] (fun v => ∃ e : Nat, v = .int .i64 e ∧ k + 1 ≤ e ∧ e ≤ s.size ∧ Hid (∀ j, k + 1 ≤ j → j < e → s.data.toList.getD j 0 ≠ 59)) (fun v => s.size - (intOf v).toNat)
        case atStart => exact ⟨k + 1, by go_num, Nat.le_refl _, by omega, fun j h1 h2 => by omega⟩
        case round =>
          obtain ⟨e, rfl, hke, hes, Hno⟩ := hrel
          by_cases hel : e < s.size
          · have hde : decide ((e : Int) < (s.size : Int)) = true := by rw [decide_eq_true_eq]; omega
            by_cases h59 : s[e].toNat = 59
            · have hb59 : ((s[e].toNat : Int) != 59) = false := by simp; omega
              have hrf := refr_hit s k e hke hel h59 Hc38.out Hno.out
              have hcut : ∀ wx, (Instr.slice 9 (.string s) (some (.int .i64 ((k : Int) + 1))) (some (.int .i64 e)) none).run Tryz.prog wx = .ok (.string (s.extract (k + 1) e)) wx := fun wx => slice_mid s (k + 1) e hke (by omega) wx
              have hnm := rNamed_any (s.extract (k + 1) e) wr (by rw [ByteArray.size_extract]; omega)
              have hun := Hun.out
              rw [hrf] at hun
              clear hrf h59 Hun
              generalize s.extract (k + 1) e = t at hun hcut hnm
              cases hnd : named t.data.toList with
              | none =>
                rw [hnd] at hun hnm
                have Hun := Lib.hid hun
                clear hun hnd
                go_wp2_with fail
                refine hnm.mono ?_
                rintro e w' ⟨rfl, rfl⟩
                clear hnm
                go_wp2_with fail
                go_ret2
                exact ⟨by rw [Hun.out]; rfl, hbe⟩
              | some r =>
                rw [hnd] at hun hnm
                have hch := named_range hnd
                have hr := isCh_range hch
                have hby := rBytes_any r hch wr
                have hp1 := runeCells_pos r
                have hp2 := runeCells_len r
                have hp3 := encodeRune_le r
                simp only [Option.map_some, Option.getD_some] at hun hnm
                have hun2 : R = unescF f (acc ++ Lib.encodeRune r) (s.data.toList.drop (e + 1)) := by
                  rw [hun, List.drop_drop, show k + (e - k + 1) = e + 1 by omega]
                have Hun := Lib.hid hun2
                have Hfu := Lib.hid hfu
                have hz : (r == 0) = false := by rw [beq_eq_false_iff_ne]; omega
                have hnl : (Lib.runeCells r).length ≤ 4 := by omega
                clear hun hun2 hnd hch hp2 hp3
                go_wp2_with fail
                refine hnm.mono ?_
                rintro e w' ⟨rfl, rfl⟩
                clear hnm
                go_wp2_with fail
                refine hby.mono ?_
                rintro e w' ⟨rfl, rfl⟩
                clear hby
                go_wp2_with (first
                  | (at_builtin; go_must (refine wpList_append_own _ rfl (.tmp 54) (.tmp 56) 22 rfl w.heap.size 5 i0 (.int .u8 0) 1 1 Tryz.underlying22 hi hz0 hz1 hz2 rfl (by decide) _ _ _ rfl (hown.alloc _) ⟨wr.heap.size, 0, none⟩ (Lib.runeCells r).length (Lib.runeCells r).length (Lib.runeCells r) rfl (Nat.mul_one _).symm (cells_new _ (Lib.runeCells r) _ _ rfl) (runeCells_one r) (by unfold maxLen; omega) (by omega) (by have := hbe.size; simp; omega) ?_); intro v1 w1 hown1 hg1 hnil1))
                rw [u8s_rune] at hown1
                go_roundw
                case rel => exact ⟨e + 1, f, _, _, by go_num, by omega, by omega, hown1, ((hbe.alloc hbe.size _).grown hg1 (by have := hbe.size; simp; omega) (fun k e => (hown.lt k e).1)), Hun.out, by have := Hfu.out; omega⟩
                case measure => simp [intOf]; omega
            · have hb59 : ((s[e].toNat : Int) != 59) = true := by rw [bne_iff_ne]; omega
              have Hno2 : Hid (∀ j, k + 1 ≤ j → j < e + 1 → s.data.toList.getD j 0 ≠ 59) := by
                intro j h1 h2
                by_cases ej : j = e
                · subst ej
                  rw [List.getD_eq_getElem?_getD, Lib.data_getElem? s j hel]
                  intro hx; apply h59; have : s[j] = 59 := hx; rw [this]; rfl
                · exact Hno.out j h1 (by omega)
              clear h59
              go_wp2_with fail
              go_round
              case rel => exact ⟨e + 1, by go_num, by omega, by omega, Hno2⟩
              case measure => simp [intOf]; omega
          · have hde : decide ((e : Int) < (s.size : Int)) = false := by rw [decide_eq_false_iff_not]; omega
            have hrf := refr_miss s k hlt Hc38.out (fun j h1 h2 => Hno.out j h1 (by omega))
            have hun := Hun.out
            rw [hrf] at hun
            have Hun := Lib.hid hun
            clear hun hrf
            go_wp2_with fail
            go_ret2
            exact ⟨by rw [Hun.out]; rfl, hbe⟩
      · have hb38 : ((s[k].toNat : Int) != 38) = true := by rw [bne_iff_ne]; omega
        rw [if_neg (fun h => h38 (by rw [h]; rfl))] at hun
        have Hun := Lib.hid hun
        have Hfu := Lib.hid hfu
        clear hun h38
        go_wp2_with (first
          | (at_builtin; refine wpList_append_own _ rfl (.tmp 22) (.tmp 26) 22 rfl w.heap.size 5 i0 (.int .u8 0) 1 1 Tryz.underlying22 hi hz0 hz1 hz2 rfl (by decide) _ _ _ rfl (hown.alloc _) ⟨wr.heap.size, 0, none⟩ 1 1 [.int .u8 (s[k].toNat : Nat)] rfl rfl (cells_new _ [.int .u8 (s[k].toNat : Nat)] _ _ rfl) (fun z hz => by simp at hz; subst hz; rfl) (by unfold maxLen; omega) (by omega) (by have := hbe.size; simp; omega) ?_; intro v1 w1 hown1 hg1 hnil1)
          | go_in)
        go_roundw
        case rel =>
          refine ⟨k + 1, f, n + 1, acc ++ [s[k]], by go_num, by omega, by omega, ?_, ((hbe.alloc hbe.size _).grown hg1 (by have := hbe.size; simp; omega) (fun k e => (hown.lt k e).1)), Hun.out, by have := Hfu.out; omega⟩
          simpa [u8s] using hown1
        case measure => simp [intOf]; omega
    · have hdk : decide ((k : Int) < (s.size : Int)) = false := by rw [decide_eq_false_iff_not]; omega
      obtain ⟨hun, hfu⟩ := HU.out
      rw [drop_end s k (by omega), unescF_nil] at hun
      have Hun := Lib.hid hun
      obtain ⟨hn1, o2, cap2, rfl, hv2⟩ := BytesV.of_row hown
      have hcv := convert_v hv2
      clear hun HU
      go_wp2_with fail
      go_ret2
      exact ⟨by rw [Hun.out]; rfl, hbe⟩
end Go.Proofs.YtkehbepopegboaaGreatDoor
