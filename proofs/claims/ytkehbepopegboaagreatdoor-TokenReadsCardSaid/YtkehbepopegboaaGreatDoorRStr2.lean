/-
  The document's answer, layers 2 and 3: names, blanks, marks, places: walks, for every text of at most 2^20 bytes. They leave the world as it is.
  The document's answer, layer 3: marks, the first place of a mark, names, blanks: walks, for every text of at most 2^20 bytes. They leave the world as it is.
-/
import Derived.Test.YtkehbepopegboaaGreatDoorRIs
import Derived.Test.YtkehbepopegboaaGreatDoorPlace2
namespace Go.Proofs.YtkehbepopegboaaGreatDoor
open Go.RowKit
set_option linter.unusedVariables false
theorem rBlank_any (c : Int) (w : World) : Calls Tryz.prog 54 #[.int .u8 c] w fun e w' => e = .returned (.bool (blankB c)) ∧ w = w' := by
  have h : blankB c = decide (c = 9 ∨ c = 10 ∨ c = 13 ∨ c = 32) := rfl
  generalize blankB c = x at h
  have H := Lib.hid h
  clear h
  go_enter Tryz.func54, Tryz.ntmps54
  go_wp2_with fail
  all_goals
    go_ret
    exact ⟨ret_bool (by rw [H.out, Bool.eq_iff_iff]; simp; try omega), rfl⟩
/-- a byte may stand at that place of a name -/
def OkAt (k : Nat) (c : Int) : Prop := ((97 ≤ c ∧ c ≤ 122) ∨ (65 ≤ c ∧ c ≤ 90) ∨ c = 95) ∨ (k ≠ 0 ∧ ((48 ≤ c ∧ c ≤ 57) ∨ c = 45 ∨ c = 46))
theorem isName_iff (l : Bytes) : isName l = true ↔ (1 ≤ l.length ∧ l.length ≤ 64) ∧ ∀ k, k < l.length → OkAt k ((l.getD k 0).toNat : Nat) := by
  unfold isName
  rw [Bool.and_eq_true, Bool.and_eq_true, decide_eq_true_eq]
  cases l with
  | nil => simp
  | cons c t =>
    simp only [List.headD_cons]
    unfold allB
    rw [List.all_eq_true]
    constructor
    · rintro ⟨⟨h1, h2⟩, h3⟩
      refine ⟨h1, fun k hk => ?_⟩
      have hm : (c :: t).getD k 0 ∈ c :: t := by
        rw [List.getD_eq_getElem?_getD, List.getElem?_eq_getElem hk]; exact List.getElem_mem hk
      have h4 := h3 _ hm
      unfold OkAt
      by_cases h0 : k = 0
      · subst h0
        unfold letterB at h2
        simp at h2 ⊢
        omega
      · generalize ((c :: t).getD k 0).toNat = x at h4
        unfold partB letterB decB at h4
        simp at h4
        omega
    · rintro ⟨h1, h2⟩
      refine ⟨⟨h1, ?_⟩, fun x hx => ?_⟩
      · have := h2 0 (by simp)
        unfold OkAt at this
        simp at this
        unfold letterB
        simp
        exact this
      · obtain ⟨k, hk⟩ := List.getElem?_of_mem hx
        have hkl := (List.getElem?_eq_some_iff.1 hk).1
        have := h2 k hkl
        rw [List.getD_eq_getElem?_getD, hk] at this
        simp only [Option.getD_some] at this
        unfold OkAt at this
        unfold partB letterB decB
        simp
        omega
set_option maxHeartbeats 4000000 in
set_option maxRecDepth 100000 in
theorem rNIs_any (s : ByteArray) (w : World) (hs : s.size ≤ 1048577) : Calls Tryz.prog 53 #[.string s] w fun e w' => e = .returned (.bool (isName s.data.toList)) ∧ w = w' := by
  have hlen : s.data.toList.length = s.size := (Lib.size_eq s).symm
  have hiff := isName_iff s.data.toList
  rw [hlen] at hiff
  have Hiff := Lib.hid hiff
  clear hiff hlen
  go_enter Tryz.func53, Tryz.ntmps53
  go_wp2_with fail
  go_loop [3] (fun i => ∃ k : Nat, i = .int .i64 k ∧ k ≤ s.size ∧ Hid (∀ j, j < k → OkAt j ((s.data.toList.getD j 0).toNat : Nat))) (fun i => s.size - (intOf i).toNat)
  case atStart => exact ⟨0, rfl, Nat.zero_le _, fun j hj => absurd hj (by omega)⟩
  case round =>
    obtain ⟨k, rfl, hk, Hok⟩ := hrel
    by_cases hlt : k < s.size
    · have hget : s.data.toList.getD k 0 = s[k] := by
        rw [List.getD_eq_getElem?_getD, Lib.data_getElem? s k hlt]; rfl
      have hu := s[k].toNat_lt
      have hyes : OkAt k (s[k].toNat : Nat) → ∀ j, j < k + 1 → OkAt j ((s.data.toList.getD j 0).toNat : Nat) := by
        intro h j hj
        by_cases e : j = k
        · rw [e, hget]; exact h
        · exact Hok.out j (by omega)
      have hno : ¬ OkAt k (s[k].toNat : Nat) → isName s.data.toList = false := by
        intro h
        cases hx : isName s.data.toList with
        | false => rfl
        | true => exact absurd (by rw [← hget]; exact (Hiff.out.1 hx).2 k hlt) h
      have Hyes := Lib.hid hyes
      have Hno := Lib.hid hno
      clear hyes hno hget
      unfold OkAt at Hyes Hno
      have hkd : decide ((k : Int) < (s.size : Int)) = true := by rw [decide_eq_true_eq]; omega
      rcases (by omega : k ≤ 0 ∨ 1 ≤ k) with k0 | k0
      all_goals
        first
          | (have k1 : ((k : Int) == 0) = true := by rw [beq_iff_eq]; omega)
          | (have k1 : ((k : Int) == 0) = false := by rw [beq_eq_false_iff_ne]; omega)
        rcases (by omega : (s[k].toNat : Int) ≤ 44 ∨ (45 ≤ (s[k].toNat : Int) ∧ (s[k].toNat : Int) ≤ 45) ∨ (46 ≤ (s[k].toNat : Int) ∧ (s[k].toNat : Int) ≤ 46) ∨ (47 ≤ (s[k].toNat : Int) ∧ (s[k].toNat : Int) ≤ 47) ∨ (48 ≤ (s[k].toNat : Int) ∧ (s[k].toNat : Int) ≤ 57) ∨ (58 ≤ (s[k].toNat : Int) ∧ (s[k].toNat : Int) ≤ 64) ∨ (65 ≤ (s[k].toNat : Int) ∧ (s[k].toNat : Int) ≤ 90) ∨ (91 ≤ (s[k].toNat : Int) ∧ (s[k].toNat : Int) ≤ 94) ∨ (95 ≤ (s[k].toNat : Int) ∧ (s[k].toNat : Int) ≤ 95) ∨ (96 ≤ (s[k].toNat : Int) ∧ (s[k].toNat : Int) ≤ 96) ∨ (97 ≤ (s[k].toNat : Int) ∧ (s[k].toNat : Int) ≤ 122) ∨ 123 ≤ (s[k].toNat : Int)) with h | ⟨h, h'⟩ | ⟨h, h'⟩ | ⟨h, h'⟩ | ⟨h, h'⟩ | ⟨h, h'⟩ | ⟨h, h'⟩ | ⟨h, h'⟩ | ⟨h, h'⟩ | ⟨h, h'⟩ | ⟨h, h'⟩ | h
        all_goals
          first
            | (have q1 : ((s[k].toNat : Int) == 95) = true := by rw [beq_iff_eq]; omega)
            | (have q1 : ((s[k].toNat : Int) == 95) = false := by rw [beq_eq_false_iff_ne]; omega)
          first
            | (have q2 : ((s[k].toNat : Int) == 45) = true := by rw [beq_iff_eq]; omega)
            | (have q2 : ((s[k].toNat : Int) == 45) = false := by rw [beq_eq_false_iff_ne]; omega)
          first
            | (have q3 : ((s[k].toNat : Int) == 46) = true := by rw [beq_iff_eq]; omega)
            | (have q3 : ((s[k].toNat : Int) == 46) = false := by rw [beq_eq_false_iff_ne]; omega)
          first
            | (have d0 : decide ((s[k].toNat : Int) ≤ 122) = true := by rw [decide_eq_true_eq]; omega)
            | (have d0 : decide ((s[k].toNat : Int) ≤ 122) = false := by rw [decide_eq_false_iff_not]; omega)
          first
            | (have d1 : decide ((s[k].toNat : Int) ≤ 90) = true := by rw [decide_eq_true_eq]; omega)
            | (have d1 : decide ((s[k].toNat : Int) ≤ 90) = false := by rw [decide_eq_false_iff_not]; omega)
          first
            | (have d2 : decide ((s[k].toNat : Int) ≤ 57) = true := by rw [decide_eq_true_eq]; omega)
            | (have d2 : decide ((s[k].toNat : Int) ≤ 57) = false := by rw [decide_eq_false_iff_not]; omega)
          first
            | (have g0 : decide (97 ≤ (s[k].toNat : Int)) = true := by rw [decide_eq_true_eq]; omega)
            | (have g0 : decide (97 ≤ (s[k].toNat : Int)) = false := by rw [decide_eq_false_iff_not]; omega)
          first
            | (have g1 : decide (65 ≤ (s[k].toNat : Int)) = true := by rw [decide_eq_true_eq]; omega)
            | (have g1 : decide (65 ≤ (s[k].toNat : Int)) = false := by rw [decide_eq_false_iff_not]; omega)
          first
            | (have g2 : decide (48 ≤ (s[k].toNat : Int)) = true := by rw [decide_eq_true_eq]; omega)
            | (have g2 : decide (48 ≤ (s[k].toNat : Int)) = false := by rw [decide_eq_false_iff_not]; omega)
          go_wp2_with fail
          first
            | (go_ret; exact ⟨ret_bool (Hno.out (by omega)).symm, rfl⟩)
            | (go_round
               case rel => exact ⟨k + 1, by go_num, by omega, Hyes.out (by omega)⟩
               case measure => simp [intOf]; omega)
    · have hd : decide ((k : Int) < (s.size : Int)) = false := by rw [decide_eq_false_iff_not]; omega
      have hke : k = s.size := by omega
      have hfin : isName s.data.toList = decide (1 ≤ s.size ∧ s.size ≤ 64) := by
        rw [Bool.eq_iff_iff, Hiff.out, decide_eq_true_eq]
        exact ⟨fun h => h.1, fun h => ⟨h, fun j hj => Hok.out j (by omega)⟩⟩
      have Hfin := Lib.hid hfin
      clear hfin
      clear hke
      go_wp2_with fail
      all_goals
        go_ret
        exact ⟨ret_bool (by rw [Hfin.out, Bool.eq_iff_iff]; simp; try omega), rfl⟩
theorem extract_beq (s x : ByteArray) (p : Nat) (hp : p + x.size ≤ s.size) : ((s.extract p (p + x.size)).toList == x.toList) = Lib.hasPrefix (s.data.toList.drop p) x.data.toList := by
  rw [Bool.eq_iff_iff, beq_iff_eq]
  unfold Lib.hasPrefix
  rw [List.isPrefixOf_iff_prefix, List.prefix_iff_eq_take]
  have hx : x.data.toList.length = x.size := (Lib.size_eq x).symm
  rw [hx, Lib.toList_data, Lib.toList_data, Lib.extract_data, Nat.add_sub_cancel_left]
  exact eq_comm
set_option maxRecDepth 100000 in
theorem rBegins_any (s x : ByteArray) (p : Nat) (w : World) (hs : s.size ≤ 1048576) (hp : p ≤ s.size) (hx : x.size ≤ 1048576) :
    Calls Tryz.prog 29 #[.string s, .int .i64 p, .string x] w fun e w' => e = .returned (.bool (Lib.hasPrefix (s.data.toList.drop p) x.data.toList)) ∧ w = w' := by
  by_cases h : p + x.size ≤ s.size
  · have hb := extract_beq s x p h
    have hcut : ∀ wx, (Instr.slice 9 (.string s) (some (.int .i64 p)) (some (.int .i64 ((p : Int) + (x.size : Int)))) none).run Tryz.prog wx = .ok (.string (s.extract p (p + x.size))) wx := fun wx => by
      have := slice_mid s p (p + x.size) (by omega) h wx
      rw [← this]; congr 4
    generalize Lib.hasPrefix (s.data.toList.drop p) x.data.toList = r at hb
    have hd : decide ((p : Int) ≤ (s.size : Int) - (x.size : Int)) = true := by rw [decide_eq_true_eq]; omega
    generalize s.extract p (p + x.size) = t at hcut hb
    have Hb := Lib.hid hb
    clear hb
    go_enter Tryz.func29, Tryz.ntmps29
    go_wp2_with fail
    go_ret
    exact ⟨ret_bool Hb.out, rfl⟩
  · have hb : Lib.hasPrefix (s.data.toList.drop p) x.data.toList = false := by
      cases hx : Lib.hasPrefix (s.data.toList.drop p) x.data.toList with
      | false => rfl
      | true =>
        have := hasPrefix_le hx
        rw [List.length_drop, ← Lib.size_eq, ← Lib.size_eq] at this
        omega
    have hd : decide ((p : Int) ≤ (s.size : Int) - (x.size : Int)) = false := by rw [decide_eq_false_iff_not]; omega
    have Hb := Lib.hid hb
    clear hb
    go_enter Tryz.func29, Tryz.ntmps29
    go_wp2_with fail
    go_ret
    exact ⟨ret_bool Hb.out.symm, rfl⟩
/-- what find answers -/
def findZ (l x : Bytes) (p : Nat) : Int := if Lib.index (l.drop p) x = -1 then -1 else p + Lib.index (l.drop p) x
theorem findZ_none {l x : Bytes} {p : Nat} (h : ∀ j, p ≤ j → j ≤ l.length → Lib.hasPrefix (l.drop j) x = false) (hp : p ≤ l.length) : findZ l x p = -1 := by
  unfold findZ
  rw [if_pos]
  refine Lib.index_none fun j hj => ?_
  have := h (p + j) (by omega) (by rw [List.length_drop] at hj; omega)
  unfold Lib.occAt
  rw [List.drop_drop]
  exact this
theorem findZ_some {l x : Bytes} {p k : Nat} (h : ∀ j, p ≤ j → j < k → Lib.hasPrefix (l.drop j) x = false) (hpk : p ≤ k) (hk : k ≤ l.length) (hh : Lib.hasPrefix (l.drop k) x = true) : findZ l x p = k := by
  have : Lib.index (l.drop p) x = (k - p : Nat) := by
    refine Lib.index_first (by rw [List.length_drop]; omega) ?_ fun j hj => ?_
    · unfold Lib.occAt; rw [List.drop_drop, show p + (k - p) = k by omega]; exact hh
    · unfold Lib.occAt; rw [List.drop_drop]; exact h (p + j) (by omega) (by omega)
  unfold findZ
  rw [this, if_neg (by omega)]
  omega
set_option maxRecDepth 100000 in
theorem rFind_any (s x : ByteArray) (p : Nat) (w : World) (hs : s.size ≤ 1048576) (hp : p ≤ s.size) (hx : x.size ≤ 1048576) :
    Calls Tryz.prog 30 #[.string s, .int .i64 p, .string x] w fun e w' => e = .returned (.int .i64 (findZ s.data.toList x.data.toList p)) ∧ w = w' := by
  have hlen : s.data.toList.length = s.size := (Lib.size_eq s).symm
  have Hlen := Lib.hid hlen
  clear hlen
  go_enter Tryz.func30, Tryz.ntmps30
  go_wp2_with fail
  go_loop [7] (fun i => ∃ k : Nat, i = .int .i64 k ∧ p ≤ k ∧ k ≤ s.size + 1 ∧ Hid (∀ j, p ≤ j → j < k → Lib.hasPrefix (s.data.toList.drop j) x.data.toList = false)) (fun i => s.size + 1 - (intOf i).toNat)
  case atStart => exact ⟨p, rfl, Nat.le_refl _, by omega, fun j h1 h2 => by omega⟩
  case round =>
    obtain ⟨k, rfl, hpk, hk, Hno⟩ := hrel
    by_cases hlt : k ≤ s.size
    · have hd : decide ((k : Int) ≤ (s.size : Int)) = true := by rw [decide_eq_true_eq]; omega
      have hc := rBegins_any s x k w hs hlt hx
      cases hb : Lib.hasPrefix (s.data.toList.drop k) x.data.toList with
      | true =>
        rw [hb] at hc
        have hf := findZ_some Hno.out hpk (by rw [Hlen.out]; exact hlt) hb
        have Hf := Lib.hid hf
        clear hb hf
        go_wp2_with fail
        refine hc.mono ?_
        rintro e w' ⟨rfl, rfl⟩
        clear hc
        go_wp2_with fail
        go_ret
        exact ⟨ret_int Hf.out.symm, rfl⟩
      | false =>
        rw [hb] at hc
        have Hno2 : Hid (∀ j, p ≤ j → j < k + 1 → Lib.hasPrefix (s.data.toList.drop j) x.data.toList = false) := by
          intro j h1 h2
          by_cases e : j = k
          · rw [e]; exact hb
          · exact Hno.out j h1 (by omega)
        clear hb
        go_wp2_with fail
        refine hc.mono ?_
        rintro e w' ⟨rfl, rfl⟩
        clear hc
        go_wp2_with fail
        go_round
        case rel => exact ⟨k + 1, by go_num, by omega, by omega, Hno2⟩
        case measure => simp [intOf]; omega
    · have hd : decide ((k : Int) ≤ (s.size : Int)) = false := by rw [decide_eq_false_iff_not]; omega
      have hf := findZ_none (p := p) (fun j h1 h2 => Hno.out j h1 (by rw [Hlen.out] at h2; omega)) (by rw [Hlen.out]; exact hp)
      have Hf := Lib.hid hf
      clear hf
      go_wp2_with fail
      go_ret
      exact ⟨ret_int Hf.out.symm, rfl⟩
set_option maxRecDepth 100000 in
theorem rBlanks_any (s : ByteArray) (p : Nat) (w : World) (hs : s.size ≤ 1048576) (hp : p ≤ s.size) :
    Calls Tryz.prog 32 #[.string s, .int .i64 p] w fun e w' => e = .returned (.int .i64 ((p + blanksN (s.data.toList.drop p) : Nat) : Int)) ∧ w = w' := by
  go_enter Tryz.func32, Tryz.ntmps32
  go_wp2_with fail
  go_loop [1] (fun i => ∃ k : Nat, i = .int .i64 k ∧ p ≤ k ∧ k ≤ s.size ∧ Hid (p + blanksN (s.data.toList.drop p) = k + blanksN (s.data.toList.drop k))) (fun i => s.size - (intOf i).toNat)
  case atStart => exact ⟨p, rfl, Nat.le_refl _, hp, by show _ = _; rfl⟩
  case round =>
    obtain ⟨k, rfl, hpk, hk, HB⟩ := hrel
    by_cases hlt : k < s.size
    · have hd : decide ((k : Int) < (s.size : Int)) = true := by rw [decide_eq_true_eq]; omega
      have hdr := drop_at s k hlt
      have hc := rBlank_any (s[k].toNat : Nat) w
      cases hbl : blankB (s[k].toNat : Nat) with
      | true =>
        have hN : blanksN (s.data.toList.drop k) = 1 + blanksN (s.data.toList.drop (k + 1)) := by
          rw [hdr]; unfold blanksN; rw [List.takeWhile_cons_of_pos (by simpa using hbl)]; simp; omega
        have HN := Lib.hid hN
        rw [hbl] at hc
        clear hN hdr hbl
        go_wp2_with fail
        refine hc.mono ?_
        rintro e w' ⟨rfl, rfl⟩
        clear hc
        go_wp2_with fail
        go_round
        case rel => exact ⟨k + 1, by go_num, by omega, by omega, by have := HB.out; have := HN.out; show _ = _; omega⟩
        case measure => simp [intOf]; omega
      | false =>
        have hN : blanksN (s.data.toList.drop k) = 0 := by
          rw [hdr]; unfold blanksN; rw [List.takeWhile_cons_of_neg (by simp [hbl])]; rfl
        have HN := Lib.hid hN
        rw [hbl] at hc
        clear hN hdr hbl
        go_wp2_with fail
        refine hc.mono ?_
        rintro e w' ⟨rfl, rfl⟩
        clear hc
        go_wp2_with fail
        go_ret
        exact ⟨ret_int (by have := HB.out; have := HN.out; omega), rfl⟩
    · have hd : decide ((k : Int) < (s.size : Int)) = false := by rw [decide_eq_false_iff_not]; omega
      have hN : blanksN (s.data.toList.drop k) = 0 := by rw [drop_end s k (by omega)]; rfl
      have HN := Lib.hid hN
      clear hN
      go_wp2_with fail
      go_ret
      exact ⟨ret_int (by have := HB.out; have := HN.out; omega), rfl⟩
theorem name_probe (c : UInt8) : isName [97, c] = partB (c.toNat : Nat) := by
  have h1 : letterB ((97 : UInt8).toNat : Nat) = true := by decide
  have h2 : partB ((97 : UInt8).toNat : Nat) = true := by decide
  unfold isName allB
  simp only [List.length_cons, List.length_nil, List.headD_cons, List.all_cons, List.all_nil, h1, h2, Bool.true_and, Bool.and_true]
  rfl
set_option maxRecDepth 100000 in
theorem rName_any (s : ByteArray) (p : Nat) (w : World) (hs : s.size ≤ 1048576) (hp : p ≤ s.size) :
    Calls Tryz.prog 31 #[.string s, .int .i64 p] w fun e w' => e = .returned (.int .i64 (if isName ((s.data.toList.drop p).take (partN (s.data.toList.drop p))) = true then ((p + partN (s.data.toList.drop p) : Nat) : Int) else -1)) ∧ w = w' := by
  obtain ⟨R, hR⟩ : ∃ R, R = (if isName ((s.data.toList.drop p).take (partN (s.data.toList.drop p))) = true then ((p + partN (s.data.toList.drop p) : Nat) : Int) else -1) := ⟨_, rfl⟩
  rw [← hR]
  have HR := Lib.hid hR
  clear hR
  go_enter Tryz.func31, Tryz.ntmps31
  go_wp2_with fail
  go_loop [5] (fun i => ∃ k : Nat, i = .int .i64 k ∧ p ≤ k ∧ k ≤ s.size ∧ Hid (p + partN (s.data.toList.drop p) = k + partN (s.data.toList.drop k))) (fun i => s.size - (intOf i).toNat)
  case atStart => exact ⟨p, rfl, Nat.le_refl _, hp, by show _ = _; rfl⟩
  case round =>
    obtain ⟨k, rfl, hpk, hk, HB⟩ := hrel
    have hend : partN (s.data.toList.drop k) = 0 → R = if isName (s.extract p k).data.toList = true then (k : Int) else -1 := by
      intro h0
      have := HB.out
      rw [h0] at this
      rw [HR.out, Lib.extract_data, this, show partN (s.data.toList.drop p) = k - p by omega]
      rfl
    have Hend := Lib.hid hend
    clear hend
    have hcutE : ∀ wx, (Instr.slice 9 (.string s) (some (.int .i64 p)) (some (.int .i64 k)) none).run Tryz.prog wx = .ok (.string (s.extract p k)) wx := fun wx => slice_mid s p k (by omega) (by omega) wx
    have hcE := rNIs_any (s.extract p k) w (by rw [ByteArray.size_extract]; omega)
    by_cases hlt : k < s.size
    · have hd : decide ((k : Int) < (s.size : Int)) = true := by rw [decide_eq_true_eq]; omega
      have hdr := drop_at s k hlt
      have hcut : ∀ wx, (Instr.slice 9 (.string s) (some (.int .i64 k)) (some (.int .i64 ((k : Int) + 1))) none).run Tryz.prog wx = .ok (.string (s.extract k (k + 1))) wx := fun wx => slice_mid s k (k + 1) (by omega) (by omega) wx
      have hcat : (⟨#[97]⟩ ++ s.extract k (k + 1) : ByteArray).data.toList = [97, s[k]] := by
        have := byte_piece s k hlt
        rw [ByteArray.data_append, Array.toList_append, this]; rfl
      have hcz : (⟨#[97]⟩ ++ s.extract k (k + 1) : ByteArray).size ≤ 1048577 := by
        rw [Lib.size_eq, hcat]; simp
      have hc := rNIs_any (⟨#[97]⟩ ++ s.extract k (k + 1)) w hcz
      rw [hcat, name_probe] at hc
      have Hcat := Lib.hid hcat
      clear hcat hcz
      cases hbl : partB (s[k].toNat : Nat) with
      | true =>
        have hN : partN (s.data.toList.drop k) = 1 + partN (s.data.toList.drop (k + 1)) := by
          rw [hdr]; unfold partN; rw [List.takeWhile_cons_of_pos (by simpa using hbl)]; simp; omega
        have HN := Lib.hid hN
        rw [hbl] at hc
        clear hN hdr hbl hcutE hcE
        go_wp2_with fail
        refine hc.mono ?_
        rintro e w' ⟨rfl, rfl⟩
        clear hc
        go_wp2_with fail
        go_round
        case rel => exact ⟨k + 1, by go_num, by omega, by omega, by have := HB.out; have := HN.out; show _ = _; omega⟩
        case measure => simp [intOf]; omega
      | false =>
        have hN : partN (s.data.toList.drop k) = 0 := by
          rw [hdr]; unfold partN; rw [List.takeWhile_cons_of_neg (by simp [hbl])]; rfl
        have HE := Lib.hid (Hend.out hN)
        rw [hbl] at hc
        clear hN hdr hbl Hend
        cases hn : isName (s.extract p k).data.toList with
        | true =>
          rw [hn] at hcE
          have Hn := Lib.hid hn
          clear hn
          go_wp2_with fail
          refine hc.mono ?_
          rintro e w' ⟨rfl, rfl⟩
          clear hc
          go_wp2_with fail
          refine hcE.mono ?_
          rintro e w' ⟨rfl, rfl⟩
          go_wp2_with fail
          go_ret
          exact ⟨ret_int (by rw [HE.out, if_pos Hn.out]), rfl⟩
        | false =>
          rw [hn] at hcE
          have Hn := Lib.hid hn
          clear hn
          go_wp2_with fail
          refine hc.mono ?_
          rintro e w' ⟨rfl, rfl⟩
          clear hc
          go_wp2_with fail
          refine hcE.mono ?_
          rintro e w' ⟨rfl, rfl⟩
          go_wp2_with fail
          go_ret
          exact ⟨ret_int (by rw [HE.out, if_neg (by rw [Hn.out]; simp)]), rfl⟩
    · have hd : decide ((k : Int) < (s.size : Int)) = false := by rw [decide_eq_false_iff_not]; omega
      have hN : partN (s.data.toList.drop k) = 0 := by rw [drop_end s k (by omega)]; rfl
      have HE := Lib.hid (Hend.out hN)
      clear hN Hend
      cases hn : isName (s.extract p k).data.toList with
      | true =>
        rw [hn] at hcE
        have Hn := Lib.hid hn
        clear hn
        go_wp2_with fail
        refine hcE.mono ?_
        rintro e w' ⟨rfl, rfl⟩
        go_wp2_with fail
        go_ret
        exact ⟨ret_int (by rw [HE.out, if_pos Hn.out]), rfl⟩
      | false =>
        rw [hn] at hcE
        have Hn := Lib.hid hn
        clear hn
        go_wp2_with fail
        refine hcE.mono ?_
        rintro e w' ⟨rfl, rfl⟩
        go_wp2_with fail
        go_ret
        exact ⟨ret_int (by rw [HE.out, if_neg (by rw [Hn.out]; simp)]), rfl⟩
end Go.Proofs.YtkehbepopegboaaGreatDoor
