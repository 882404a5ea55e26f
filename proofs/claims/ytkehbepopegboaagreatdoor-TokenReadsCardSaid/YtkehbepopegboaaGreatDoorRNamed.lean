/-
  The document's answer, layer 2: digits, numbers, what is named: walks. They leave the world as it is.
  The document's answer, layer 2: the character of a reference: its walk. It leaves the world as it is.
-/
import Derived.Test.YtkehbepopegboaaGreatDoorRStr2
import Derived.Test.YtkehbepopegboaaGreatDoorParse
namespace Go.Proofs.YtkehbepopegboaaGreatDoor
open Go.RowKit
set_option linter.unusedVariables false
/-- what digit answers -/
def digZ (c : Int) : Int := if 48 ≤ c ∧ c ≤ 57 then c - 48 else if 97 ≤ c ∧ c ≤ 102 then c - 87 else if 65 ≤ c ∧ c ≤ 70 then c - 55 else -1
theorem rDigit_any (c : Int) (w : World) (h0 : 0 ≤ c) (h1 : c < 256) : Calls Tryz.prog 88 #[.int .u8 c] w fun e w' => e = .returned (.int .i64 (digZ c)) ∧ w = w' := by
  have h : digZ c = if 48 ≤ c ∧ c ≤ 57 then c - 48 else if 97 ≤ c ∧ c ≤ 102 then c - 87 else if 65 ≤ c ∧ c ≤ 70 then c - 55 else -1 := rfl
  generalize digZ c = d at h
  have H := Lib.hid h
  clear h
  rcases (by omega : c < 48 ∨ (48 ≤ c ∧ c ≤ 57) ∨ (58 ≤ c ∧ c ≤ 64) ∨ (65 ≤ c ∧ c ≤ 70) ∨ (71 ≤ c ∧ c ≤ 96) ∨ (97 ≤ c ∧ c ≤ 102) ∨ 103 ≤ c) with h | ⟨h, h'⟩ | ⟨h, h'⟩ | ⟨h, h'⟩ | ⟨h, h'⟩ | ⟨h, h'⟩ | h
  all_goals
    first
      | (have d0 : decide (c ≤ 57) = true := by rw [decide_eq_true_eq]; omega)
      | (have d0 : decide (c ≤ 57) = false := by rw [decide_eq_false_iff_not]; omega)
    first
      | (have d1 : decide (c ≤ 102) = true := by rw [decide_eq_true_eq]; omega)
      | (have d1 : decide (c ≤ 102) = false := by rw [decide_eq_false_iff_not]; omega)
    first
      | (have d2 : decide (c ≤ 70) = true := by rw [decide_eq_true_eq]; omega)
      | (have d2 : decide (c ≤ 70) = false := by rw [decide_eq_false_iff_not]; omega)
    go_enter Tryz.func88, Tryz.ntmps88
    go_wp2_with fail
    go_ret
    exact ⟨ret_int (by rw [H.out]; repeat (first | rw [if_pos (by omega)] | rw [if_neg (by omega)] | omega)), rfl⟩
theorem digZ_dec (c : Int) (h0 : 0 ≤ c) (h1 : c < 256) : (decB c = true → 0 ≤ digZ c ∧ digZ c < 10 ∧ digZ c = digV c) ∧ (decB c = false → digZ c < 0 ∨ 10 ≤ digZ c) ∧ -1 ≤ digZ c ∧ digZ c ≤ 15 := by
  unfold digZ digV decB
  simp only [decide_eq_true_eq, decide_eq_false_iff_not]
  refine ⟨?_, ?_, ?_, ?_⟩ <;> (repeat' split) <;> omega
theorem digZ_hex (c : Int) (h0 : 0 ≤ c) (h1 : c < 256) : (hexB c = true → 0 ≤ digZ c ∧ digZ c < 16 ∧ digZ c = digV c) ∧ (hexB c = false → digZ c < 0 ∨ 16 ≤ digZ c) ∧ -1 ≤ digZ c ∧ digZ c ≤ 15 := by
  have e : hexB c = decide ((48 ≤ c ∧ c ≤ 57) ∨ (97 ≤ c ∧ c ≤ 102) ∨ (65 ≤ c ∧ c ≤ 70)) := by rw [Bool.eq_iff_iff, hexB_iff, decide_eq_true_eq]
  rw [e]
  unfold digZ digV
  simp only [decide_eq_true_eq, decide_eq_false_iff_not]
  refine ⟨?_, ?_, ?_, ?_⟩ <;> (repeat' split) <;> omega
/-- what number answers -/
def numbZ (k : Int → Bool) (base : Int) (l : Bytes) : Int := if 1 ≤ l.length ∧ l.length ≤ 8 ∧ allB k l = true then valB base 0 l else -1
theorem allB_snoc {k : Int → Bool} {l : Bytes} {i : Nat} (hi : i < l.length) (h : allB k (l.take i) = true) (hc : k ((l.getD i 0).toNat : Nat) = true) : allB k (l.take (i + 1)) = true := by
  unfold allB at *
  rw [List.take_add_one, List.getElem?_eq_getElem hi, List.all_append, h]
  rw [List.getD_eq_getElem?_getD, List.getElem?_eq_getElem hi] at hc
  simpa using hc
theorem allB_no {k : Int → Bool} {l : Bytes} {i : Nat} (hi : i < l.length) (hc : k ((l.getD i 0).toNat : Nat) = false) : allB k l = false := by
  cases h : allB k l with
  | false => rfl
  | true =>
    unfold allB at h
    rw [List.all_eq_true] at h
    have := h (l.getD i 0) (by rw [List.getD_eq_getElem?_getD, List.getElem?_eq_getElem hi]; exact List.getElem_mem hi)
    rw [hc] at this
    cases this
set_option maxHeartbeats 1000000 in
set_option maxRecDepth 100000 in
theorem rNumber_ten (s : ByteArray) (w : World) (hs : s.size ≤ 1048576) : Calls Tryz.prog 73 #[.string s, .int .i64 10] w fun e w' => e = .returned (.int .i64 (numbZ decB 10 s.data.toList)) ∧ w = w' := by
  have hlen : s.data.toList.length = s.size := (Lib.size_eq s).symm
  have h : numbZ decB 10 s.data.toList = if 1 ≤ s.size ∧ s.size ≤ 8 ∧ allB decB s.data.toList = true then valB 10 0 s.data.toList else -1 := by unfold numbZ; rw [hlen]
  generalize numbZ decB 10 s.data.toList = R at h
  have H := Lib.hid h
  have Hlen := Lib.hid hlen
  clear h hlen
  by_cases h1 : 1 ≤ s.size
  · by_cases h8 : s.size ≤ 8
    · have hd8 : decide ((s.size : Int) > 8) = false := by rw [decide_eq_false_iff_not]; omega
      go_enter Tryz.func73, Tryz.ntmps73
      go_wp2_with fail
      go_loop [5, 6] (fun v i => ∃ (k : Nat) (a : Int), i = .int .i64 k ∧ v = .int .i64 a ∧ k ≤ s.size ∧ Hid (0 ≤ a ∧ a < 16 ^ k ∧ valB 10 0 s.data.toList = valB 10 a (s.data.toList.drop k) ∧ allB decB (s.data.toList.take k) = true)) (fun _ i => s.size - (intOf i).toNat)
      case atStart => exact ⟨0, 0, rfl, rfl, Nat.zero_le _, by omega, by omega, rfl, rfl⟩
      case round =>
        obtain ⟨k, a, rfl, rfl, hk, Hh⟩ := hrel
        by_cases hlt : k < s.size
        · have hdk : decide ((k : Int) < (s.size : Int)) = true := by rw [decide_eq_true_eq]; omega
          have hdr := drop_at s k hlt
          have hget : s.data.toList.getD k 0 = s[k] := by rw [List.getD_eq_getElem?_getD, Lib.data_getElem? s k hlt]; rfl
          have hu := s[k].toNat_lt
          have hc := rDigit_any (s[k].toNat : Nat) w (by omega) (by omega)
          obtain ⟨z1, z2, z3, z4⟩ := digZ_dec (s[k].toNat : Nat) (by omega) (by omega)
          have hb16 := pow16 k (by omega)
          have ha0 := Hh.out.1
          have ha1 := Hh.out.2.1
          have ha2 : a < 268435456 := by omega
          cases hkk : decB (s[k].toNat : Nat) with
          | true =>
            obtain ⟨y1, y2, y3⟩ := z1 hkk
            have hv : Hid (0 ≤ 10 * a + digZ (s[k].toNat : Nat) ∧ 10 * a + digZ (s[k].toNat : Nat) < 16 ^ (k + 1) ∧ valB 10 0 s.data.toList = valB 10 (10 * a + digZ (s[k].toNat : Nat)) (s.data.toList.drop (k + 1)) ∧ allB decB (s.data.toList.take (k + 1)) = true) := by
              refine ⟨by omega, by rw [Int.pow_succ]; omega, ?_, allB_snoc (by rw [Hlen.out]; exact hlt) Hh.out.2.2.2 (by rw [hget]; exact hkk)⟩
              rw [Hh.out.2.2.1, hdr, y3]
              simp only [valB]
              congr 1
              omega
            have y3' := Lib.hid y3
            clear y3 z1 z2 hkk hdr hget
            generalize digZ (s[k].toNat : Nat) = d at *
            have hd1 : decide (d < 0) = false := by rw [decide_eq_false_iff_not]; omega
            have hd2 : decide (d ≥ 10) = false := by rw [decide_eq_false_iff_not]; omega
            have hd3 : decide (10 ≤ d) = false := by rw [decide_eq_false_iff_not]; omega
            clear ha1
            go_wp2_with fail
            refine hc.mono ?_
            rintro e w' ⟨rfl, rfl⟩
            clear hc
            go_wp2_with fail
            go_round
            case rel => exact ⟨k + 1, _, by go_num, rfl, by omega, hv⟩
            case measure => simp [intOf]; omega
          | false =>
            have hno := allB_no (by rw [Hlen.out]; exact hlt) (by rw [hget]; exact hkk)
            have Hno := Lib.hid hno
            have hz := z2 hkk
            clear z1 z2 hkk hdr hget hno ha1
            generalize digZ (s[k].toNat : Nat) = d at *
            rcases hz with hz | hz
            · have hd1 : decide (d < 0) = true := by rw [decide_eq_true_eq]; omega
              go_wp2_with fail
              refine hc.mono ?_
              rintro e w' ⟨rfl, rfl⟩
              clear hc
              go_wp2_with fail
              go_ret
              exact ⟨ret_int (by rw [H.out, if_neg (by rw [Hno.out]; simp)]), rfl⟩
            · have hd1 : decide (d < 0) = false := by rw [decide_eq_false_iff_not]; omega
              have hd2 : decide (d ≥ 10) = true := by rw [decide_eq_true_eq]; omega
              go_wp2_with fail
              refine hc.mono ?_
              rintro e w' ⟨rfl, rfl⟩
              clear hc
              go_wp2_with fail
              go_ret
              exact ⟨ret_int (by rw [H.out, if_neg (by rw [Hno.out]; simp)]), rfl⟩
        · have hdk : decide ((k : Int) < (s.size : Int)) = false := by rw [decide_eq_false_iff_not]; omega
          have hfin : R = a := by
            have h4 := Hh.out
            rw [List.take_of_length_le (by rw [Hlen.out]; omega), List.drop_of_length_le (by rw [Hlen.out]; omega)] at h4
            rw [H.out, if_pos ⟨h1, h8, h4.2.2.2⟩, h4.2.2.1]
            rfl
          have Hfin := Lib.hid hfin
          clear hfin
          go_wp2_with fail
          go_ret
          exact ⟨ret_int Hfin.out.symm, rfl⟩
    · have hd8 : decide ((s.size : Int) > 8) = true := by rw [decide_eq_true_eq]; omega
      go_enter Tryz.func73, Tryz.ntmps73
      go_wp2_with fail
      go_ret
      exact ⟨ret_int (by rw [H.out, if_neg (by omega)]), rfl⟩
  · go_enter Tryz.func73, Tryz.ntmps73
    go_wp2_with fail
    go_ret
    exact ⟨ret_int (by rw [H.out, if_neg (by omega)]), rfl⟩
set_option maxHeartbeats 1000000 in
set_option maxRecDepth 100000 in
theorem rNumber_six (s : ByteArray) (w : World) (hs : s.size ≤ 1048576) : Calls Tryz.prog 73 #[.string s, .int .i64 16] w fun e w' => e = .returned (.int .i64 (numbZ hexB 16 s.data.toList)) ∧ w = w' := by
  have hlen : s.data.toList.length = s.size := (Lib.size_eq s).symm
  have h : numbZ hexB 16 s.data.toList = if 1 ≤ s.size ∧ s.size ≤ 8 ∧ allB hexB s.data.toList = true then valB 16 0 s.data.toList else -1 := by unfold numbZ; rw [hlen]
  generalize numbZ hexB 16 s.data.toList = R at h
  have H := Lib.hid h
  have Hlen := Lib.hid hlen
  clear h hlen
  by_cases h1 : 1 ≤ s.size
  · by_cases h8 : s.size ≤ 8
    · have hd8 : decide ((s.size : Int) > 8) = false := by rw [decide_eq_false_iff_not]; omega
      go_enter Tryz.func73, Tryz.ntmps73
      go_wp2_with fail
      go_loop [5, 6] (fun v i => ∃ (k : Nat) (a : Int), i = .int .i64 k ∧ v = .int .i64 a ∧ k ≤ s.size ∧ Hid (0 ≤ a ∧ a < 16 ^ k ∧ valB 16 0 s.data.toList = valB 16 a (s.data.toList.drop k) ∧ allB hexB (s.data.toList.take k) = true)) (fun _ i => s.size - (intOf i).toNat)
      case atStart => exact ⟨0, 0, rfl, rfl, Nat.zero_le _, by omega, by omega, rfl, rfl⟩
      case round =>
        obtain ⟨k, a, rfl, rfl, hk, Hh⟩ := hrel
        by_cases hlt : k < s.size
        · have hdk : decide ((k : Int) < (s.size : Int)) = true := by rw [decide_eq_true_eq]; omega
          have hdr := drop_at s k hlt
          have hget : s.data.toList.getD k 0 = s[k] := by rw [List.getD_eq_getElem?_getD, Lib.data_getElem? s k hlt]; rfl
          have hu := s[k].toNat_lt
          have hc := rDigit_any (s[k].toNat : Nat) w (by omega) (by omega)
          obtain ⟨z1, z2, z3, z4⟩ := digZ_hex (s[k].toNat : Nat) (by omega) (by omega)
          have hb16 := pow16 k (by omega)
          have ha0 := Hh.out.1
          have ha1 := Hh.out.2.1
          have ha2 : a < 268435456 := by omega
          cases hkk : hexB (s[k].toNat : Nat) with
          | true =>
            obtain ⟨y1, y2, y3⟩ := z1 hkk
            have hv : Hid (0 ≤ 16 * a + digZ (s[k].toNat : Nat) ∧ 16 * a + digZ (s[k].toNat : Nat) < 16 ^ (k + 1) ∧ valB 16 0 s.data.toList = valB 16 (16 * a + digZ (s[k].toNat : Nat)) (s.data.toList.drop (k + 1)) ∧ allB hexB (s.data.toList.take (k + 1)) = true) := by
              refine ⟨by omega, by rw [Int.pow_succ]; omega, ?_, allB_snoc (by rw [Hlen.out]; exact hlt) Hh.out.2.2.2 (by rw [hget]; exact hkk)⟩
              rw [Hh.out.2.2.1, hdr, y3]
              simp only [valB]
              congr 1
              omega
            have y3' := Lib.hid y3
            clear y3 z1 z2 hkk hdr hget
            generalize digZ (s[k].toNat : Nat) = d at *
            have hd1 : decide (d < 0) = false := by rw [decide_eq_false_iff_not]; omega
            have hd2 : decide (d ≥ 16) = false := by rw [decide_eq_false_iff_not]; omega
            have hd3 : decide (16 ≤ d) = false := by rw [decide_eq_false_iff_not]; omega
            clear ha1
            go_wp2_with fail
            refine hc.mono ?_
            rintro e w' ⟨rfl, rfl⟩
            clear hc
            go_wp2_with fail
            go_round
            case rel => exact ⟨k + 1, _, by go_num, rfl, by omega, hv⟩
            case measure => simp [intOf]; omega
          | false =>
            have hno := allB_no (by rw [Hlen.out]; exact hlt) (by rw [hget]; exact hkk)
            have Hno := Lib.hid hno
            have hz := z2 hkk
            clear z1 z2 hkk hdr hget hno ha1
            generalize digZ (s[k].toNat : Nat) = d at *
            rcases hz with hz | hz
            · have hd1 : decide (d < 0) = true := by rw [decide_eq_true_eq]; omega
              go_wp2_with fail
              refine hc.mono ?_
              rintro e w' ⟨rfl, rfl⟩
              clear hc
              go_wp2_with fail
              go_ret
              exact ⟨ret_int (by rw [H.out, if_neg (by rw [Hno.out]; simp)]), rfl⟩
            · have hd1 : decide (d < 0) = false := by rw [decide_eq_false_iff_not]; omega
              have hd2 : decide (d ≥ 16) = true := by rw [decide_eq_true_eq]; omega
              go_wp2_with fail
              refine hc.mono ?_
              rintro e w' ⟨rfl, rfl⟩
              clear hc
              go_wp2_with fail
              go_ret
              exact ⟨ret_int (by rw [H.out, if_neg (by rw [Hno.out]; simp)]), rfl⟩
        · have hdk : decide ((k : Int) < (s.size : Int)) = false := by rw [decide_eq_false_iff_not]; omega
          have hfin : R = a := by
            have h4 := Hh.out
            rw [List.take_of_length_le (by rw [Hlen.out]; omega), List.drop_of_length_le (by rw [Hlen.out]; omega)] at h4
            rw [H.out, if_pos ⟨h1, h8, h4.2.2.2⟩, h4.2.2.1]
            rfl
          have Hfin := Lib.hid hfin
          clear hfin
          go_wp2_with fail
          go_ret
          exact ⟨ret_int Hfin.out.symm, rfl⟩
    · have hd8 : decide ((s.size : Int) > 8) = true := by rw [decide_eq_true_eq]; omega
      go_enter Tryz.func73, Tryz.ntmps73
      go_wp2_with fail
      go_ret
      exact ⟨ret_int (by rw [H.out, if_neg (by omega)]), rfl⟩
  · go_enter Tryz.func73, Tryz.ntmps73
    go_wp2_with fail
    go_ret
    exact ⟨ret_int (by rw [H.out, if_neg (by omega)]), rfl⟩
theorem chZ_numb {k : Int → Bool} {base : Int} {l : Bytes} (hk : k = decB ∨ k = hexB) (hb : 0 ≤ base) : (if isCh (numbZ k base l) = true then numbZ k base l else 0) = (numb k base l).getD 0 := by
  unfold numbZ numb
  by_cases h : 1 ≤ l.length ∧ l.length ≤ 8 ∧ allB k l = true
  · rw [if_pos h, if_pos h]
    by_cases h2 : isCh (valB base 0 l) = true
    · rw [if_pos h2, if_pos ⟨(isCh_range h2).2, h2⟩]; rfl
    · rw [if_neg h2, if_neg (fun e => h2 e.2)]; rfl
  · rw [if_neg h, if_neg h]
    rfl
theorem beq_nat (c a : UInt8) : (c == a) = (a.toNat == c.toNat) := by
  rw [Bool.eq_iff_iff, beq_iff_eq, beq_iff_eq]
  exact ⟨fun h => by rw [h], fun h => UInt8.toNat_inj.1 h.symm⟩
theorem pre2_iff (l : Bytes) : Lib.hasPrefix l [35, 120] = (decide (1 < l.length) && ((l.getD 0 0).toNat == 35) && ((l.getD 1 0).toNat == 120)) := by
  match l with
  | [] => rfl
  | [a] => simp [Lib.hasPrefix, List.isPrefixOf]
  | a :: b :: t =>
    unfold Lib.hasPrefix
    simp only [List.isPrefixOf, Bool.and_true, beq_nat]
    rw [decide_eq_true (by simp)]
    simp
theorem pre1_iff (l : Bytes) : Lib.hasPrefix l [35] = (decide (0 < l.length) && ((l.getD 0 0).toNat == 35)) := by
  match l with
  | [] => rfl
  | a :: t =>
    unfold Lib.hasPrefix
    simp only [List.isPrefixOf, Bool.and_true, beq_nat]
    rw [decide_eq_true (by simp)]
    simp
set_option maxHeartbeats 2000000 in
set_option maxRecDepth 100000 in
theorem rNamed_any (t : ByteArray) (w : World) (hs : t.size ≤ 1048576) : Calls Tryz.prog 57 #[.string t] w fun e w' => e = .returned (.int .i64 ((named t.data.toList).getD 0)) ∧ w = w' := by
  by_cases e0 : t.toList = [97, 109, 112]
  · have b0 : (t.toList == [97, 109, 112]) = true := by simpa using e0
    have hN : named t.data.toList = some 38 := by rw [← Lib.toList_data, e0]; rfl
    have HN := Lib.hid hN
    clear hN e0
    go_enter Tryz.func57, Tryz.ntmps57
    go_wp2_with fail
    go_ret
    exact ⟨ret_int (by rw [HN.out]; rfl), rfl⟩
  have b0 : (t.toList == [97, 109, 112]) = false := by simpa using e0
  clear e0
  by_cases e1 : t.toList = [108, 116]
  · have b1 : (t.toList == [108, 116]) = true := by simpa using e1
    have hN : named t.data.toList = some 60 := by rw [← Lib.toList_data, e1]; rfl
    have HN := Lib.hid hN
    clear hN e1
    go_enter Tryz.func57, Tryz.ntmps57
    go_wp2_with fail
    go_ret
    exact ⟨ret_int (by rw [HN.out]; rfl), rfl⟩
  have b1 : (t.toList == [108, 116]) = false := by simpa using e1
  clear e1
  by_cases e2 : t.toList = [103, 116]
  · have b2 : (t.toList == [103, 116]) = true := by simpa using e2
    have hN : named t.data.toList = some 62 := by rw [← Lib.toList_data, e2]; rfl
    have HN := Lib.hid hN
    clear hN e2
    go_enter Tryz.func57, Tryz.ntmps57
    go_wp2_with fail
    go_ret
    exact ⟨ret_int (by rw [HN.out]; rfl), rfl⟩
  have b2 : (t.toList == [103, 116]) = false := by simpa using e2
  clear e2
  by_cases e3 : t.toList = [113, 117, 111, 116]
  · have b3 : (t.toList == [113, 117, 111, 116]) = true := by simpa using e3
    have hN : named t.data.toList = some 34 := by rw [← Lib.toList_data, e3]; rfl
    have HN := Lib.hid hN
    clear hN e3
    go_enter Tryz.func57, Tryz.ntmps57
    go_wp2_with fail
    go_ret
    exact ⟨ret_int (by rw [HN.out]; rfl), rfl⟩
  have b3 : (t.toList == [113, 117, 111, 116]) = false := by simpa using e3
  clear e3
  by_cases e4 : t.toList = [97, 112, 111, 115]
  · have b4 : (t.toList == [97, 112, 111, 115]) = true := by simpa using e4
    have hN : named t.data.toList = some 39 := by rw [← Lib.toList_data, e4]; rfl
    have HN := Lib.hid hN
    clear hN e4
    go_enter Tryz.func57, Tryz.ntmps57
    go_wp2_with fail
    go_ret
    exact ⟨ret_int (by rw [HN.out]; rfl), rfl⟩
  have b4 : (t.toList == [97, 112, 111, 115]) = false := by simpa using e4
  clear e4
  have hN := named_rest b0 b1 b2 b3 b4
  rw [Lib.toList_data] at hN
  have hlen : t.data.toList.length = t.size := (Lib.size_eq t).symm
  have q1 := pre1_iff t.data.toList
  have q2 := pre2_iff t.data.toList
  rw [hlen] at q1 q2
  have z10 := chZ_numb (k := decB) (base := 10) (l := t.data.toList.drop 1) (.inl rfl) (by omega)
  have z16 := chZ_numb (k := hexB) (base := 16) (l := t.data.toList.drop 2) (.inr rfl) (by omega)
  have d1 := Lib.extract_to_end t 1
  have d2 := Lib.extract_to_end t 2
  rw [← d1] at z10
  rw [← d2] at z16
  have hn1 := fun w => rNumber_ten (t.extract 1 t.size) w (by rw [ByteArray.size_extract]; omega)
  have hn2 := fun w => rNumber_six (t.extract 2 t.size) w (by rw [ByteArray.size_extract]; omega)
  rw [← d1, ← d2] at hN
  have c1 : 1 ≤ t.size → ∀ wx, (Instr.slice 9 (.string t) (some (.int .i64 1)) none none).run Tryz.prog wx = .ok (.string (t.extract 1 t.size)) wx := fun h wx => slice_from t 1 (by omega) wx
  have c2 : 2 ≤ t.size → ∀ wx, (Instr.slice 9 (.string t) (some (.int .i64 2)) none none).run Tryz.prog wx = .ok (.string (t.extract 2 t.size)) wx := fun h wx => slice_from t 2 (by omega) wx
  generalize (t.extract 1 t.size).data.toList = l1 at z10 hN hn1
  generalize (t.extract 2 t.size).data.toList = l2 at z16 hN hn2
  generalize t.extract 1 t.size = t1 at c1 hn1
  generalize t.extract 2 t.size = t2 at c2 hn2
  generalize numbZ decB 10 l1 = v1 at z10 hn1
  generalize numbZ hexB 16 l2 = v2 at z16 hn2
  clear d1 d2 hlen
  by_cases h1 : 1 ≤ t.size
  · have g0 : t.data.toList.getD 0 0 = t[0] := by rw [List.getD_eq_getElem?_getD, Lib.data_getElem? t 0 (by omega)]; rfl
    rw [g0] at q1 q2
    clear g0
    rw [show decide (0 < t.size) = true from by rw [decide_eq_true_eq]; omega, Bool.true_and] at q1
    by_cases x0 : t[0].toNat = 35
    · have y0 : ((t[0].toNat : Int) == 35) = true := by rw [beq_iff_eq]; omega
      rw [show (t[0].toNat == 35) = true from by simpa using x0] at q1 q2
      clear x0
      have c1 := c1 h1
      by_cases h2 : 2 ≤ t.size
      · have g1 : t.data.toList.getD 1 0 = t[1] := by rw [List.getD_eq_getElem?_getD, Lib.data_getElem? t 1 (by omega)]; rfl
        rw [g1] at q2
        clear g1
        have c2 := c2 h2
        rw [show decide (1 < t.size) = true from by rw [decide_eq_true_eq]; omega] at q2
        by_cases x1 : t[1].toNat = 120
        · have y1 : ((t[1].toNat : Int) == 120) = true := by rw [beq_iff_eq]; omega
          rw [show (t[1].toNat == 120) = true from by simpa using x1] at q2
          clear x1
          rw [q2] at hN
          simp only [Bool.and_self, if_true] at hN
          have Hq := Lib.hid hN
          have Hz := Lib.hid z16
          clear hN z10 z16 q1 q2
          have hm := hn2
          clear hn1 hn2
          have hi := rIs_any v2 w
          cases hx : isCh v2 with
          | true =>
            rw [hx] at hi
            have Hx := Lib.hid hx
            clear hx
            go_enter Tryz.func57, Tryz.ntmps57
            go_wp2_with fail
            refine (hm _).mono ?_
            rintro e w' ⟨rfl, rfl⟩
            clear hm
            go_wp2_with fail
            refine hi.mono ?_
            rintro e w' ⟨rfl, rfl⟩
            clear hi
            go_wp2_with fail
            go_ret
            exact ⟨ret_int (by rw [Hq.out, ← Hz.out, Hx.out]; rfl), rfl⟩
          | false =>
            rw [hx] at hi
            have Hx := Lib.hid hx
            clear hx
            go_enter Tryz.func57, Tryz.ntmps57
            go_wp2_with fail
            refine (hm _).mono ?_
            rintro e w' ⟨rfl, rfl⟩
            clear hm
            go_wp2_with fail
            refine hi.mono ?_
            rintro e w' ⟨rfl, rfl⟩
            clear hi
            go_wp2_with fail
            go_ret
            exact ⟨ret_int (by rw [Hq.out, ← Hz.out, Hx.out]; rfl), rfl⟩
        · have y1 : ((t[1].toNat : Int) == 120) = false := by rw [beq_eq_false_iff_ne]; omega
          rw [show (t[1].toNat == 120) = false from by simpa using x1] at q2
          clear x1
          rw [q2, q1] at hN
          simp only [Bool.and_false, Bool.false_eq_true, if_false, if_true] at hN
          have Hq := Lib.hid hN
          have Hz := Lib.hid z10
          clear hN z10 z16 q1 q2
          have hm := hn1
          clear hn1 hn2
          have hi := rIs_any v1 w
          cases hx : isCh v1 with
          | true =>
            rw [hx] at hi
            have Hx := Lib.hid hx
            clear hx
            go_enter Tryz.func57, Tryz.ntmps57
            go_wp2_with fail
            refine (hm _).mono ?_
            rintro e w' ⟨rfl, rfl⟩
            clear hm
            go_wp2_with fail
            refine hi.mono ?_
            rintro e w' ⟨rfl, rfl⟩
            clear hi
            go_wp2_with fail
            go_ret
            exact ⟨ret_int (by rw [Hq.out, ← Hz.out, Hx.out]; rfl), rfl⟩
          | false =>
            rw [hx] at hi
            have Hx := Lib.hid hx
            clear hx
            go_enter Tryz.func57, Tryz.ntmps57
            go_wp2_with fail
            refine (hm _).mono ?_
            rintro e w' ⟨rfl, rfl⟩
            clear hm
            go_wp2_with fail
            refine hi.mono ?_
            rintro e w' ⟨rfl, rfl⟩
            clear hi
            go_wp2_with fail
            go_ret
            exact ⟨ret_int (by rw [Hq.out, ← Hz.out, Hx.out]; rfl), rfl⟩
      · rw [show decide (1 < t.size) = false from by rw [decide_eq_false_iff_not]; omega] at q2
        rw [q2, q1] at hN
        simp only [Bool.false_and, Bool.false_eq_true, if_false, if_true] at hN
        have Hq := Lib.hid hN
        have Hz := Lib.hid z10
        clear hN z10 z16 q1 q2
        have hm := hn1
        clear hn1 hn2
        have hi := rIs_any v1 w
        cases hx : isCh v1 with
        | true =>
          rw [hx] at hi
          have Hx := Lib.hid hx
          clear hx
          go_enter Tryz.func57, Tryz.ntmps57
          go_wp2_with fail
          refine (hm _).mono ?_
          rintro e w' ⟨rfl, rfl⟩
          clear hm
          go_wp2_with fail
          refine hi.mono ?_
          rintro e w' ⟨rfl, rfl⟩
          clear hi
          go_wp2_with fail
          go_ret
          exact ⟨ret_int (by rw [Hq.out, ← Hz.out, Hx.out]; rfl), rfl⟩
        | false =>
          rw [hx] at hi
          have Hx := Lib.hid hx
          clear hx
          go_enter Tryz.func57, Tryz.ntmps57
          go_wp2_with fail
          refine (hm _).mono ?_
          rintro e w' ⟨rfl, rfl⟩
          clear hm
          go_wp2_with fail
          refine hi.mono ?_
          rintro e w' ⟨rfl, rfl⟩
          clear hi
          go_wp2_with fail
          go_ret
          exact ⟨ret_int (by rw [Hq.out, ← Hz.out, Hx.out]; rfl), rfl⟩
    · have y0 : ((t[0].toNat : Int) == 35) = false := by rw [beq_eq_false_iff_ne]; omega
      rw [show (t[0].toNat == 35) = false from by simpa using x0] at q1 q2
      clear x0
      rw [q2, q1] at hN
      simp only [Bool.and_false, Bool.false_and, Bool.false_eq_true, if_false] at hN
      by_cases h2 : 2 ≤ t.size
      · have Hq := Lib.hid hN
        clear hN z10 z16 q1 q2 hn1 hn2
        have hi := rIs_any (-1) w
        rw [show isCh (-1) = false from by decide] at hi
        go_enter Tryz.func57, Tryz.ntmps57
        go_wp2_with fail
        refine hi.mono ?_
        rintro e w' ⟨rfl, rfl⟩
        clear hi
        go_wp2_with fail
        go_ret
        exact ⟨ret_int (by rw [Hq.out]; rfl), rfl⟩
      · have Hq := Lib.hid hN
        clear hN z10 z16 q1 q2 hn1 hn2
        have hi := rIs_any (-1) w
        rw [show isCh (-1) = false from by decide] at hi
        go_enter Tryz.func57, Tryz.ntmps57
        go_wp2_with fail
        refine hi.mono ?_
        rintro e w' ⟨rfl, rfl⟩
        clear hi
        go_wp2_with fail
        go_ret
        exact ⟨ret_int (by rw [Hq.out]; rfl), rfl⟩
  · rw [show decide (0 < t.size) = false from by rw [decide_eq_false_iff_not]; omega] at q1
    rw [show decide (1 < t.size) = false from by rw [decide_eq_false_iff_not]; omega] at q2
    rw [q2, q1] at hN
    simp only [Bool.false_and, Bool.false_eq_true, if_false] at hN
    have Hq := Lib.hid hN
    clear hN z10 z16 q1 q2 hn1 hn2
    have hi := rIs_any (-1) w
    rw [show isCh (-1) = false from by decide] at hi
    go_enter Tryz.func57, Tryz.ntmps57
    go_wp2_with fail
    refine hi.mono ?_
    rintro e w' ⟨rfl, rfl⟩
    clear hi
    go_wp2_with fail
    go_ret
    exact ⟨ret_int (by rw [Hq.out]; rfl), rfl⟩
end Go.Proofs.YtkehbepopegboaaGreatDoor
