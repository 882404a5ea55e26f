/-
  The document's answer, layer 3: an attribute's value: its walk, for every text of at most 65536 bytes.
-/
import Derived.Test.YtkehbepopegboaaGreatDoorRUnesc
namespace Go.Proofs.YtkehbepopegboaaGreatDoor
open Go.RowKit
set_option linter.unusedVariables false
/-- what value answers -/
def vlV (p : Nat) : Option (Bytes × Nat) → Value
  | none => .tuple #[.string ⟨#[]⟩, .int .i64 (-1)]
  | some (v, k) => .tuple #[.string ⟨v.toArray⟩, .int .i64 ((p + k : Nat) : Int)]
theorem valueR_at (s : ByteArray) (p : Nat) (hp : p < s.size) (hm : s[p] = 34 ∨ s[p] = 39) : valueR (s.data.toList.drop p) =
    if Lib.index (s.data.toList.drop (p + 1)) [s[p]] < 0 then none else
      if (unescF ((s.data.toList.drop (p + 1)).take (Lib.index (s.data.toList.drop (p + 1)) [s[p]]).toNat).length [] (spaces ((s.data.toList.drop (p + 1)).take (Lib.index (s.data.toList.drop (p + 1)) [s[p]]).toNat))).1 = 0 then
        some ((unescF ((s.data.toList.drop (p + 1)).take (Lib.index (s.data.toList.drop (p + 1)) [s[p]]).toNat).length [] (spaces ((s.data.toList.drop (p + 1)).take (Lib.index (s.data.toList.drop (p + 1)) [s[p]]).toNat))).2, 1 + (Lib.index (s.data.toList.drop (p + 1)) [s[p]]).toNat + 1) else none := by
  rw [drop_at s p hp]
  unfold valueR
  simp only
  rw [if_pos hm]
theorem spaces_snoc (l : Bytes) (c : UInt8) : u8s (spaces l) ++ [Value.int .u8 (((if c = 9 ∨ c = 10 then 32 else c : UInt8).toNat : Nat) : Int)] = u8s (spaces (l ++ [c])) := by
  unfold spaces u8s
  simp
set_option maxHeartbeats 4000000 in
set_option maxRecDepth 100000 in
theorem rValue_any (s : ByteArray) (p : Nat) (w : World) (hs : s.size ≤ 65536) (hp : p ≤ s.size) :
    Calls Tryz.prog 72 #[.string s, .int .i64 p] w fun e w' => e = .returned (vlV p (valueR (s.data.toList.drop p))) ∧ Below w.heap.size w w' := by
  have hlen : s.data.toList.length = s.size := (Lib.size_eq s).symm
  have Hlen := Lib.hid hlen
  clear hlen
  by_cases hlt : p < s.size
  · have hd : decide ((p : Int) ≥ (s.size : Int)) = false := by rw [decide_eq_false_iff_not]; omega
    have hd' : decide ((s.size : Int) ≤ (p : Int)) = false := by rw [decide_eq_false_iff_not]; omega
    by_cases hq : s[p] = 34 ∨ s[p] = 39
    · have hv := valueR_at s p hlt hq
      have hcut : ∀ wx, (Instr.slice 9 (.string s) (some (.int .i64 p)) (some (.int .i64 ((p : Int) + 1))) none).run Tryz.prog wx = .ok (.string (s.extract p (p + 1))) wx := fun wx => slice_mid s p (p + 1) (by omega) (by omega) wx
      have hbp := byte_piece s p hlt
      have hfd := fun w => rFind_any s (s.extract p (p + 1)) (p + 1) w (by omega) (by omega) (by rw [ByteArray.size_extract]; omega)
      rw [hbp] at hfd
      clear hbp
      generalize valueR (s.data.toList.drop p) = V at hv
      generalize s.extract p (p + 1) = mk at hcut hfd
      have hroom := Lib.index_room (s.data.toList.drop (p + 1)) [s[p]]
      have hge := Lib.index_ge (s.data.toList.drop (p + 1)) [s[p]]
      unfold findZ at hfd
      rw [List.length_drop, Hlen.out] at hroom
      simp only [List.length_cons, List.length_nil] at hroom
      have hbq : ((s[p].toNat : Int) != 34) = false ∨ (((s[p].toNat : Int) != 34) = true ∧ ((s[p].toNat : Int) != 39) = false) := by
        rcases hq with h | h
        · exact .inl (by rw [h]; rfl)
        · exact .inr ⟨by rw [h]; rfl, by rw [h]; rfl⟩
      generalize Lib.index (s.data.toList.drop (p + 1)) [s[p]] = ix at hv hfd hroom hge
      clear hq
      by_cases hix : ix = -1
      · rw [if_pos (by omega)] at hv
        rw [if_pos hix] at hfd
        have Hv := Lib.hid hv
        clear hv hix hroom hge
        rcases hbq with hbq | ⟨hbq, hbq2⟩
        all_goals
          go_enter Tryz.func72, Tryz.ntmps72
          go_wp2_with fail
          refine (hfd _).mono ?_
          rintro e w' ⟨rfl, rfl⟩
          clear hfd
          go_wp2_with fail
          go_ret2
          exact ⟨by rw [Hv.out]; rfl, Below.refl _ _⟩
      · have hroom := hroom (by omega)
        obtain ⟨i, rfl⟩ : ∃ i : Nat, ix = i := ⟨ix.toNat, by omega⟩
        rw [if_neg (by omega), Int.toNat_natCast] at hv
        rw [if_neg hix] at hfd
        have hfd' : ∀ w, Calls Tryz.prog 30 #[.string s, .int .i64 ((p + 1 : Nat) : Int), .string mk] w fun e w' => e = .returned (.int .i64 ((p + 1 + i : Nat) : Int)) ∧ w = w' := fun w => by
          have := hfd w
          rwa [show (((p + 1 : Nat) : Int) + (i : Int)) = ((p + 1 + i : Nat) : Int) by omega] at this
        clear hfd hix hge
        have hrl : ((s.data.toList.drop (p + 1)).take i).length = i := by rw [List.length_take, List.length_drop, Hlen.out]; omega
        rw [hrl] at hv
        have Hv := Lib.hid hv
        clear hv hrl
        obtain ⟨i0, hi, hz0, hz1, hz2⟩ := info_parts info_u8
        obtain ⟨E, hE⟩ : ∃ E, E = p + 1 + i := ⟨_, rfl⟩
        rw [← hE] at hfd'
        have hE1 := Nat.le_of_eq hE
        have hE2 := Nat.le_of_eq hE.symm
        have HE := Lib.hid hE
        clear hE
        rcases hbq with hbq | ⟨hbq, hbq2⟩
        all_goals
          go_enter Tryz.func72, Tryz.ntmps72
          go_wp2_with fail
          refine (hfd' _).mono ?_
          rintro e w' ⟨rfl, rfl⟩
          clear hfd'
          have hE0 : decide ((E : Int) < 0) = false := by rw [decide_eq_false_iff_not]; omega
          go_wp2_with fail
          go_loopw [7, 8] (fun v x wr => ∃ (k n : Nat), x = .int .i64 k ∧ p + 1 ≤ k ∧ k ≤ E ∧ n ≤ k ∧ wr.ownsRow w.heap.size 5 1 v n (u8s (spaces ((s.data.toList.drop (p + 1)).take (k - (p + 1))))) ∧ Below w.heap.size w wr) (fun _ x _ => E - (intOf x).toNat)
          case atStart => exact ⟨p + 1, 0, by go_num, Nat.le_refl _, by omega, by omega, by rw [Nat.sub_self]; exact World.ownsRow_nil w _ _ _, Below.refl _ _⟩
          case round =>
            obtain ⟨k, n, rfl, hpk, hkE, hnk, hown, hbe⟩ := hrel
            by_cases hke : k < E
            · have hdk : decide ((k : Int) < (E : Int)) = true := by rw [decide_eq_true_eq]; omega
              have htk : (s.data.toList.drop (p + 1)).take (k + 1 - (p + 1)) = (s.data.toList.drop (p + 1)).take (k - (p + 1)) ++ [s[k]'(by omega)] := by
                rw [show k + 1 - (p + 1) = (k - (p + 1)) + 1 by omega, List.take_add_one, List.getElem?_drop, show p + 1 + (k - (p + 1)) = k by omega, Lib.data_getElem? s k (by omega)]
                rfl
              have hsn := spaces_snoc ((s.data.toList.drop (p + 1)).take (k - (p + 1))) (s[k]'(by omega))
              rw [← htk] at hsn
              have hks : k < s.size := by omega
              by_cases h9 : (s[k]'(by omega)).toNat = 9
              · have b9 : (((s[k]'(by omega)).toNat : Int) == 9) = true := by rw [beq_iff_eq]; omega
                rw [if_pos (.inl (UInt8.toNat_inj.1 h9))] at hsn
                have Hsn := Lib.hid hsn
                clear hsn htk h9
                go_wp2_with (first
                  | (at_builtin; refine wpList_append_own _ rfl (.tmp 55) (.tmp 57) 22 rfl w.heap.size 5 i0 (.int .u8 0) 1 1 Tryz.underlying22 hi hz0 hz1 hz2 rfl (by decide) _ _ _ rfl (hown.alloc _) ⟨wr.heap.size, 0, none⟩ 1 1 [.int .u8 32] rfl rfl (cells_new _ [.int .u8 32] _ _ rfl) (fun z hz => by simp at hz; subst hz; rfl) (by unfold maxLen; omega) (by omega) (by have := hbe.size; simp; omega) ?_; intro v1 w1 hown1 hg1 hnil1)
                  | go_in)
                go_roundw
                case rel => exact ⟨k + 1, n + 1, by go_num, by omega, by omega, by omega, by rw [← Hsn.out]; exact hown1, ((hbe.alloc hbe.size _).grown hg1 (by have := hbe.size; simp; omega) (fun k e => (hown.lt k e).1))⟩
                case measure => simp [intOf]; omega
              have b9 : (((s[k]'(by omega)).toNat : Int) == 9) = false := by rw [beq_eq_false_iff_ne]; omega
              by_cases h10 : (s[k]'(by omega)).toNat = 10
              · have b10 : (((s[k]'(by omega)).toNat : Int) == 10) = true := by rw [beq_iff_eq]; omega
                rw [if_pos (.inr (UInt8.toNat_inj.1 h10))] at hsn
                have Hsn := Lib.hid hsn
                clear hsn htk h9 h10
                go_wp2_with (first
                  | (at_builtin; refine wpList_append_own _ rfl (.tmp 55) (.tmp 57) 22 rfl w.heap.size 5 i0 (.int .u8 0) 1 1 Tryz.underlying22 hi hz0 hz1 hz2 rfl (by decide) _ _ _ rfl (hown.alloc _) ⟨wr.heap.size, 0, none⟩ 1 1 [.int .u8 32] rfl rfl (cells_new _ [.int .u8 32] _ _ rfl) (fun z hz => by simp at hz; subst hz; rfl) (by unfold maxLen; omega) (by omega) (by have := hbe.size; simp; omega) ?_; intro v1 w1 hown1 hg1 hnil1)
                  | go_in)
                go_roundw
                case rel => exact ⟨k + 1, n + 1, by go_num, by omega, by omega, by omega, by rw [← Hsn.out]; exact hown1, ((hbe.alloc hbe.size _).grown hg1 (by have := hbe.size; simp; omega) (fun k e => (hown.lt k e).1))⟩
                case measure => simp [intOf]; omega
              have b10 : (((s[k]'(by omega)).toNat : Int) == 10) = false := by rw [beq_eq_false_iff_ne]; omega
              rw [if_neg (by rintro (h | h); exact h9 (by rw [h]; rfl); exact h10 (by rw [h]; rfl))] at hsn
              have Hsn := Lib.hid hsn
              clear hsn htk h9 h10
              go_wp2_with (first
                | (at_builtin; refine wpList_append_own _ rfl (.tmp 55) (.tmp 57) 22 rfl w.heap.size 5 i0 (.int .u8 0) 1 1 Tryz.underlying22 hi hz0 hz1 hz2 rfl (by decide) _ _ _ rfl (hown.alloc _) ⟨wr.heap.size, 0, none⟩ 1 1 [.int .u8 (((s[k]'(by omega)).toNat : Nat) : Int)] rfl rfl (cells_new _ [.int .u8 (((s[k]'(by omega)).toNat : Nat) : Int)] _ _ rfl) (fun z hz => by simp at hz; subst hz; rfl) (by unfold maxLen; omega) (by omega) (by have := hbe.size; simp; omega) ?_; intro v1 w1 hown1 hg1 hnil1)
                | go_in)
              go_roundw
              case rel => exact ⟨k + 1, n + 1, by go_num, by omega, by omega, by omega, by rw [← Hsn.out]; exact hown1, ((hbe.alloc hbe.size _).grown hg1 (by have := hbe.size; simp; omega) (fun k e => (hown.lt k e).1))⟩
              case measure => simp [intOf]; omega
            · have hdk : decide ((k : Int) < (E : Int)) = false := by rw [decide_eq_false_iff_not]; omega
              have hki : k - (p + 1) = i := by omega
              rw [hki] at hown
              obtain ⟨hn1, o2, cap2, rfl, hv2⟩ := BytesV.of_row hown
              have hcv := convert_v hv2
              obtain ⟨t, ht⟩ : ∃ t : ByteArray, t = ⟨(spaces ((s.data.toList.drop (p + 1)).take i)).toArray⟩ := ⟨_, rfl⟩
              have htl : t.data.toList = spaces ((s.data.toList.drop (p + 1)).take i) := by rw [ht]
              have hts : t.size = i := by rw [Lib.size_eq, htl, spaces_length, List.length_take, List.length_drop, Hlen.out]; omega
              rw [← ht] at hcv
              have hun := rUnesc_any t wr (by omega)
              rw [hts, htl] at hun
              have hv := Hv.out
              clear ht htl hts hki
              generalize unescF i [] (spaces ((s.data.toList.drop (p + 1)).take i)) = U at hun hv
              obtain ⟨u1, u2⟩ := U
              simp only at hv
              unfold unV at hun
              simp only at hun
              by_cases hu : u1 = 0
              · have hb : (u1 != 0) = false := by simpa using hu
                rw [if_pos hu] at hv
                have Hv2 := Lib.hid hv
                clear hv Hv hu
                go_wp2_with fail
                refine hun.mono ?_
                rintro e w' ⟨rfl, hb2⟩
                clear hun
                go_wp2_with fail
                go_ret2
                exact ⟨by rw [Hv2.out]; unfold vlV; simp; omega, hbe.trans (hb2.mono hbe.size)⟩
              · have hb : (u1 != 0) = true := by simpa using hu
                rw [if_neg hu] at hv
                have Hv2 := Lib.hid hv
                clear hv Hv hu
                go_wp2_with fail
                refine hun.mono ?_
                rintro e w' ⟨rfl, hb2⟩
                clear hun
                go_wp2_with fail
                go_ret2
                exact ⟨by rw [Hv2.out]; rfl, hbe.trans (hb2.mono hbe.size)⟩
    · have hv : valueR (s.data.toList.drop p) = none := by
        rw [drop_at s p hlt]; unfold valueR; simp only; rw [if_neg hq]
      have b1 : ((s[p].toNat : Int) != 34) = true := by
        rw [bne_iff_ne]; intro h; apply hq; exact .inl (UInt8.toNat_inj.1 (by show s[p].toNat = 34; omega))
      have b2 : ((s[p].toNat : Int) != 39) = true := by
        rw [bne_iff_ne]; intro h; apply hq; exact .inr (UInt8.toNat_inj.1 (by show s[p].toNat = 39; omega))
      have Hv := Lib.hid hv
      clear hv hq
      go_enter Tryz.func72, Tryz.ntmps72
      go_wp2_with fail
      go_ret2
      exact ⟨by rw [Hv.out]; rfl, Below.refl _ _⟩
  · have hd : decide ((p : Int) ≥ (s.size : Int)) = true := by rw [decide_eq_true_eq]; omega
    have hd' : decide ((s.size : Int) ≤ (p : Int)) = true := by rw [decide_eq_true_eq]; omega
    have hv : valueR (s.data.toList.drop p) = none := by rw [drop_end s p (by omega)]; rfl
    have Hv := Lib.hid hv
    clear hv
    go_enter Tryz.func72, Tryz.ntmps72
    go_wp2_with fail
    go_ret2
    exact ⟨by rw [Hv.out]; rfl, Below.refl _ _⟩
end Go.Proofs.YtkehbepopegboaaGreatDoor
