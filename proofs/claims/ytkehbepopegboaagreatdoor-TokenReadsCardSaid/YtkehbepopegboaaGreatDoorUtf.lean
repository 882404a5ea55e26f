/-
  utf.Decode answers the character with which bytes begin: its walk, for every row of bytes and every place of it. Condition: the table of spans lies in memory.
-/
import Derived.Test.YtkehbepopegboaaGreatDoorUtfIs
import Derived.Deep.QuietTactic
import Derived.BigQuiet
namespace Go.Proofs.YtkehbepopegboaaGreatDoor
open Go.RowKit
set_option linter.unusedVariables false

theorem tuple2_eq {n r n' r' : Int} (h1 : n = n') (h2 : r = r') : (Value.tuple #[.int .i64 n, .int .i32 r]) = .tuple #[.int .i64 n', .int .i32 r'] := by rw [h1, h2]
theorem begin_any (c : Int) (w : World) (_h0 : 0 ≤ c) (h1 : c < 256) :
    Calls Tryz.prog 35 #[.int .u8 c] w fun e w' => e = .returned (.tuple #[.int .i64 (begN c), .int .i32 (begR c)]) ∧ w = w' := by
  go_enter Tryz.func35, Tryz.ntmps35
  go_wp2
  all_goals
    go_ret2
    refine ⟨congrArg Ending.returned (tuple2_eq ?_ ?_), rfl⟩
    · unfold begN; repeat (first | rw [if_pos (by assumption)] | rw [if_neg (by omega)])
    · unfold begR; repeat (first | rw [if_pos (by assumption)] | rw [if_neg (by omega)])
theorem size_any (r : Int) (w : World) : Calls Tryz.prog 36 #[.int .i32 r] w fun e w' => e = .returned (.int .i64 (uSize r)) ∧ w = w' := by
  go_enter Tryz.func36, Tryz.ntmps36
  go_wp2
  all_goals
    go_ret
    refine ⟨ret_int ?_, rfl⟩
    unfold uSize; repeat (first | rw [if_pos (by assumption)] | rw [if_neg (by omega)])

/-- a row of bytes at an address -/
def BytesAt (w : World) (b off : Nat) (l : Bytes) : Prop := ∀ i, i < l.length → w.cell? ⟨b, off + i, none⟩ = some (.int .u8 ((l.getD i 0).toNat : Nat))

/-- what Decode answers of the bytes from a place on -/
def decV : Option (Int × Nat) → Value
  | none => .tuple #[.int .i32 0, .int .i64 0, .int .i64 10]
  | some (r, k) => .tuple #[.int .i32 r, .int .i64 k, .int .i64 0]
theorem drop_cons {l : Bytes} {i : Nat} (h : i < l.length) : l.drop i = l.getD i 0 :: l.drop (i + 1) := by
  rw [List.drop_eq_getElem_cons h]; simp [h]
/-- how great the number is, behind so many bytes -/
def DecB (k : Nat) (r : Int) : Prop := (k = 0 ∧ r < 32) ∨ (k = 1 ∧ r < 2048) ∨ (k = 2 ∧ r < 131072) ∨ (k = 3 ∧ r < 8388608)
theorem DecB.le {k : Nat} {r : Int} (h : DecB k r) : r < 8388608 := by unfold DecB at h; omega
theorem DecB.le2 {k : Nat} {r : Int} (h : DecB k r) (hk : k < 3) : r < 131072 := by unfold DecB at h; omega
set_option maxRecDepth 100000 in
theorem decode_bad (b off at_ cap : Nat) (l : Bytes) (w : World) (hcap : l.length ≤ cap) (hm : cap ≤ 9223372036854775807) (hc : BytesAt w b off l) (hat : at_ < l.length)
    (hbad : begN (l.getD at_ 0).toNat = 0 ∨ (l.length : Int) - at_ < begN (l.getD at_ 0).toNat) :
    Calls Tryz.prog 18 #[.slice (some ⟨b, off, none⟩) l.length cap, .int .i64 at_] w fun e w' => e = .returned (decV none) ∧ w = w' := by
  have hc0 := hc at_ hat
  have hlt : ((l.getD at_ 0).toNat : Int) < 256 := by have := (l.getD at_ 0).toNat_lt; omega
  generalize hcv : (l.getD at_ 0).toNat = c at hc0 hlt hbad
  have hn := begN_le (c : Int)
  rcases hbad with hz | hz
  all_goals
    go_enter Tryz.func18, Tryz.ntmps18
    go_wp2_with fail
    refine (begin_any (c : Int) _ (by omega) hlt).mono ?_
    rintro e w' ⟨rfl, rfl⟩
    generalize begN (c : Int) = n at hz hn
    go_wp2_with fail
    all_goals
      go_ret3
      exact ⟨rfl, rfl⟩
set_option maxRecDepth 100000 in
theorem decode_more (b off at_ cap : Nat) (l : Bytes) (w : World) (hcap : l.length ≤ cap) (hm : cap ≤ 9223372036854775807) (hc : BytesAt w b off l) (hat : at_ < l.length)
    (h2 : 2 ≤ begN (l.getD at_ 0).toNat) (hr : begN (l.getD at_ 0).toNat ≤ (l.length : Int) - at_) (h0 : 0 < w.heap.size) (hs : Spans w) :
    Calls Tryz.prog 18 #[.slice (some ⟨b, off, none⟩) l.length cap, .int .i64 at_] w fun e w' => e = .returned (decV (dec (l.drop at_))) ∧ Below w.heap.size w w' := by
  have hc0 := hc at_ hat
  have hlt : ((l.getD at_ 0).toNat : Int) < 256 := by have := (l.getD at_ 0).toNat_lt; omega
  have hn := begN_le ((l.getD at_ 0).toNat : Int)
  have hbr := begR_le ((l.getD at_ 0).toNat : Int) (by omega) hlt
  have hD : dec (l.drop at_) = dec (l.getD at_ 0 :: l.drop (at_ + 1)) := by rw [drop_cons hat]
  have HD := Lib.hid hD
  clear hD
  generalize hcv : (l.getD at_ 0).toNat = c at hc0 hlt h2 hr hn hbr
  have Hcv := Lib.hid hcv
  clear hcv
  go_enter Tryz.func18, Tryz.ntmps18
  go_wp2_with fail
  refine (begin_any (c : Int) _ (by omega) hlt).mono ?_
  rintro e w' ⟨rfl, rfl⟩
  generalize hbn : begN (c : Int) = n at h2 hr hn hbr
  generalize hbr0 : begR (c : Int) = r0 at hbr
  have Hbn := Lib.hid hbn
  have Hbr := Lib.hid hbr0
  clear hbn hbr0
  have e1 : (n == 0) = false := by rw [beq_eq_false_iff_ne]; omega
  have e2 : decide ((l.length : Int) - at_ < n) = false := by rw [decide_eq_false_iff_not]; omega
  go_wp2_with fail
  obtain ⟨m, hmm⟩ : ∃ m : Nat, ((at_ : Int) + n).toNat - (at_ + 1) = m := ⟨_, rfl⟩
  have hm1 : (m : Int) + 1 ≤ n := by omega
  have hm2 : n ≤ (m : Int) + 1 := by omega
  rw [hmm]
  clear hmm
  go_loop [8, 45] (fun r i => ∃ (k : Nat) (rr : Int), k ≤ m ∧ i = .int .i64 k ∧ r = .int .i32 rr ∧ contR r0 ((l.drop (at_ + 1)).take k) = some rr ∧ 0 ≤ rr ∧ DecB k rr) (fun _ i => m - (intOf i).toNat)
  case atStart => exact ⟨0, r0, Nat.zero_le _, rfl, rfl, by simp [contR], hbr.1, .inl ⟨rfl, hbr.2.2 (by omega)⟩⟩
  case round =>
    obtain ⟨k, rr, hk, rfl, rfl, hcr, hr0, hdb⟩ := hrel
    have Hcr := Lib.hid hcr
    clear hcr
    have hdb2 := hdb.le
    have Hdb := Lib.hid hdb
    clear hdb
    by_cases hkm : k < m
    · have hck : w.cell? ⟨b, off + (at_ + 1) + k, none⟩ = some (.int .u8 ((l.getD (at_ + 1 + k) 0).toNat : Nat)) := by
        rw [Nat.add_assoc off]; exact hc (at_ + 1 + k) (by omega)
      have hclt : ((l.getD (at_ + 1 + k) 0).toNat : Int) < 256 := by have := (l.getD (at_ + 1 + k) 0).toNat_lt; omega
      generalize hcv2 : (l.getD (at_ + 1 + k) 0) = c2 at hck hclt
      have Hc2 := Lib.hid hcv2
      clear hcv2
      have hlk : (l.drop (at_ + 1)).take (k + 1) = (l.drop (at_ + 1)).take k ++ [c2] := by
        rw [List.take_succ_eq_append_getElem (by simp; omega)]
        congr 2
        rw [← Hc2.out]; simp
        rw [List.getElem?_eq_getElem (by omega)]; rfl
      by_cases hct : isCont c2 = true
      · have hr1 := (isCont_iff c2).1 hct
        have hr2 := hr1.2
        have hr1 := hr1.1
        have hbd := Hdb.out.le2 (by omega)
        have Hct := Lib.hid hct
        have Hlk := Lib.hid hlk
        clear hct hlk
        go_wp2_with fail
        go_round
        case rel =>
          refine ⟨k + 1, rr * 64 + ((c2.toNat : Int) - 128), by omega, by go_num, rfl, ?_, by omega, ?_⟩
          · rw [Hlk.out, contR_snoc Hcr.out, if_pos Hct.out]
          · have := Hdb.out
            unfold DecB at this ⊢
            omega
        case measure => simp [intOf]; omega
      · have hr1 : ¬ ((128 : Int) ≤ (c2.toNat : Int) ∧ (c2.toNat : Int) ≤ 191) := fun h => hct ((isCont_iff c2).2 h)
        have hdn : dec (l.drop at_) = none := by
          rw [HD.out]
          simp only [dec]
          rw [Hcv.out, Hbn.out, Hbr.out]
          rw [if_neg (by simp; omega)]
          have e : (n.toNat - 1) = (k + 1) + (m - (k + 1)) := by omega
          rw [e, List.take_add, hlk, List.append_assoc, List.singleton_append, contR_fail (by simpa using hct)]
        have Hdn := Lib.hid hdn
        clear hdn hlk hct
        rcases (by omega : (c2.toNat : Int) < 128 ∨ (191 : Int) < (c2.toNat : Int)) with hq | hq
        all_goals
          clear hr1
          go_wp2_with fail
          go_ret3
          rw [Hdn.out]
          exact ⟨rfl, Below.refl _ _⟩
    · obtain rfl : k = m := by omega
      have hlm : (l.drop (at_ + 1)).take (n.toNat - 1) = (l.drop (at_ + 1)).take k := by rw [show n.toNat - 1 = k by omega]
      have hdn : dec (l.drop at_) = if uSize rr = n ∧ isCh rr = true then some (rr, n.toNat) else none := by
        rw [HD.out]
        simp only [dec]
        rw [Hcv.out, Hbn.out, Hbr.out]
        rw [if_neg (by simp; omega), hlm, Hcr.out]
      clear hlm
      by_cases hsz : uSize rr = n
      · by_cases hch : isCh rr = true
        · rw [if_pos ⟨hsz, hch⟩] at hdn
          have Hdn := Lib.hid hdn
          have Hch := Lib.hid hch
          have hn2 : (uSize rr != n) = false := by simp [hsz]
          have Hsz := Lib.hid hsz
          clear hdn hch hsz
          go_wp2_with fail
          refine (size_any rr _).mono ?_
          rintro e w' ⟨rfl, rfl⟩
          generalize uSize rr = us at hn2
          go_wp2_with fail
          refine (is_any rr _ h0 hs).mono ?_
          rintro e w' ⟨rfl, hbel⟩
          rw [Hch.out]
          go_wp2_with fail
          go_ret3
          rw [Hdn.out]
          exact ⟨congrArg Ending.returned (by simp only [decV]; rw [show n = ((n.toNat : Nat) : Int) by omega]; rfl), hbel⟩
        · rw [if_neg (fun h => hch h.2)] at hdn
          have Hdn := Lib.hid hdn
          have hcf : isCh rr = false := by simpa using hch
          have Hch := Lib.hid hcf
          have hn2 : (uSize rr != n) = false := by simp [hsz]
          clear hdn hch hsz hcf
          go_wp2_with fail
          refine (size_any rr _).mono ?_
          rintro e w' ⟨rfl, rfl⟩
          generalize uSize rr = us at hn2
          go_wp2_with fail
          refine (is_any rr _ h0 hs).mono ?_
          rintro e w' ⟨rfl, hbel⟩
          rw [Hch.out]
          go_wp2_with fail
          go_ret3
          rw [Hdn.out]
          exact ⟨rfl, hbel⟩
      · rw [if_neg (fun h => hsz h.1)] at hdn
        have Hdn := Lib.hid hdn
        have hn2 : (uSize rr != n) = true := by simp [hsz]
        clear hdn hsz
        go_wp2_with fail
        refine (size_any rr _).mono ?_
        rintro e w' ⟨rfl, rfl⟩
        generalize uSize rr = us at hn2
        go_wp2_with fail
        go_ret3
        rw [Hdn.out]
        exact ⟨rfl, Below.refl _ _⟩
set_option maxRecDepth 100000 in
theorem decode_one (b off at_ cap : Nat) (l : Bytes) (w : World) (hcap : l.length ≤ cap) (hm : cap ≤ 9223372036854775807) (hc : BytesAt w b off l) (hat : at_ < l.length)
    (h1 : begN (l.getD at_ 0).toNat = 1) (h0 : 0 < w.heap.size) (hs : Spans w) :
    Calls Tryz.prog 18 #[.slice (some ⟨b, off, none⟩) l.length cap, .int .i64 at_] w fun e w' => e = .returned (decV (dec (l.drop at_))) ∧ Below w.heap.size w w' := by
  have hc0 := hc at_ hat
  have hlt : ((l.getD at_ 0).toNat : Int) < 256 := by have := (l.getD at_ 0).toNat_lt; omega
  have hbr := begR_le ((l.getD at_ 0).toNat : Int) (by omega) hlt
  have hD : dec (l.drop at_) = dec (l.getD at_ 0 :: l.drop (at_ + 1)) := by rw [drop_cons hat]
  generalize hcv : (l.getD at_ 0).toNat = c at hc0 hlt h1 hbr
  generalize hbr0 : begR (c : Int) = r0 at hbr
  have hu : uSize r0 = 1 := by unfold uSize; rw [if_pos (by omega)]
  have hdn : dec (l.drop at_) = if isCh r0 = true then some (r0, 1) else none := by
    rw [hD]
    simp only [dec]
    rw [hcv, h1, hbr0, if_neg (by omega)]
    simp [contR, hu]
  have Hh1 := Lib.hid h1
  have Hbr := Lib.hid hbr0
  have Hu := Lib.hid hu
  have Hdn := Lib.hid hdn
  clear h1 hbr0 hcv hD hu hdn
  go_enter Tryz.func18, Tryz.ntmps18
  go_wp2_with fail
  refine (begin_any (c : Int) _ (by omega) hlt).mono ?_
  rintro e w' ⟨rfl, rfl⟩
  rw [Hh1.out, Hbr.out]
  have e2 : decide ((l.length : Int) - at_ < 1) = false := by rw [decide_eq_false_iff_not]; omega
  go_wp2_with fail
  all_goals
    refine wp_loop_rounds 1 ?_
    rw [rounds_succ]
    go_wp2_with fail
    refine (size_any r0 _).mono ?_
    rintro e w' ⟨rfl, rfl⟩
    rw [Hu.out]
    go_wp2_with fail
    refine (is_any r0 _ h0 hs).mono ?_
    rintro e w' ⟨rfl, hbel⟩
    by_cases hch : isCh r0 = true
    · have hd2 := Hdn.out
      rw [if_pos hch] at hd2
      have Hd2 := Lib.hid hd2
      rw [hch]
      clear hd2 hch
      go_wp2_with fail
      go_ret3
      rw [Hd2.out]
      exact ⟨rfl, hbel⟩
    · have hd2 := Hdn.out
      rw [if_neg hch] at hd2
      have Hd2 := Lib.hid hd2
      have hcf : isCh r0 = false := by simpa using hch
      rw [hcf]
      clear hd2 hch hcf
      go_wp2_with fail
      go_ret3
      rw [Hd2.out]
      exact ⟨rfl, hbel⟩
theorem decode_any (b off at_ cap : Nat) (l : Bytes) (w : World) (hcap : l.length ≤ cap) (hm : cap ≤ 9223372036854775807) (hc : BytesAt w b off l) (hat : at_ < l.length)
    (h0 : 0 < w.heap.size) (hs : Spans w) :
    Calls Tryz.prog 18 #[.slice (some ⟨b, off, none⟩) l.length cap, .int .i64 at_] w fun e w' => e = .returned (decV (dec (l.drop at_))) ∧ Below w.heap.size w w' := by
  have hn := begN_le ((l.getD at_ 0).toNat : Int)
  by_cases hbad : begN (l.getD at_ 0).toNat = 0 ∨ (l.length : Int) - at_ < begN (l.getD at_ 0).toNat
  · refine (decode_bad b off at_ cap l w hcap hm hc hat hbad).mono ?_
    rintro e w' ⟨rfl, rfl⟩
    refine ⟨?_, Below.refl _ _⟩
    rw [drop_cons hat]
    simp only [dec]
    rw [if_pos (by rw [List.length_drop]; omega)]
  · by_cases h1 : begN (l.getD at_ 0).toNat = 1
    · exact decode_one b off at_ cap l w hcap hm hc hat h1 h0 hs
    · exact decode_more b off at_ cap l w hcap hm hc hat (by omega) (by omega) h0 hs
end Go.Proofs.YtkehbepopegboaaGreatDoor
