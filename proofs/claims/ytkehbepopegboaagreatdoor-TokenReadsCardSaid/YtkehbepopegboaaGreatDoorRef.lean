/-
  names.reference answers the character of the reference with which a text begins: its walk, for every text that begins with an ampersand. Condition: the table of spans lies in memory.
-/
import Derived.Test.YtkehbepopegboaaGreatDoorShelf
import Derived.Test.YtkehbepopegboaaGreatDoorNamesIs
import Derived.Test.YtkehbepopegboaaGreatDoorParseU
import Derived.Test.YtkehbepopegboaaGreatDoorCheck
import Derived.Test.YtkehbepopegboaaGreatDoorRefPlain
import Derived.WalkSpells
namespace Go.Proofs.YtkehbepopegboaaGreatDoor
open Go.RowKit
set_option linter.unusedVariables false
set_option maxRecDepth 100000 in
theorem ref_none (s : ByteArray) (w : World) (hi : Lib.indexByte s.data.toList 59 = -1) :
    Calls Tryz.prog 69 #[.string s] w fun e w' => e = .returned (refV none) ∧ w = w' := by
  go_enter Tryz.func69, Tryz.ntmps69
  go_wp2_with fail
  refine (Tryz.strings_IndexByte s 59 _).mono ?_
  rintro e w' ⟨rfl, rfl⟩
  rw [show ((59 : Int).toNat.toUInt8) = 59 from rfl, hi]
  go_wp2_with fail
  go_ret2
  exact ⟨rfl, rfl⟩
set_option maxHeartbeats 4000000 in
set_option maxRecDepth 100000 in
theorem ref_some (s : ByteArray) (w : World) (hs : s.size ≤ 9223372036854775807) (e : Nat) (hi : Lib.indexByte s.data.toList 59 = e) (h1 : 1 ≤ e) (h2 : e < s.size) (h0 : 0 < w.heap.size) (hsp : Spans w) :
    Calls Tryz.prog 69 #[.string s] w fun x w' => x = .returned (refV ((named (s.extract 1 e).data.toList).map fun c => (c, e + 1))) ∧ Below w.heap.size w w' := by
  have hts : (s.extract 1 e).size ≤ 9223372036854775807 := by rw [ByteArray.size_extract]; omega
  have hcut : ∀ wx, (Instr.slice 9 (.string s) (some (.int .i64 1)) (some (.int .i64 e)) none).run Tryz.prog wx = .ok (.string (s.extract 1 e)) wx := fun wx => slice_mid s 1 e h1 (by omega) wx
  generalize s.extract 1 e = t at hcut hts
  go_enter Tryz.func69, Tryz.ntmps69
  go_wp2_with fail
  refine (Tryz.strings_IndexByte s 59 _).mono ?_
  rintro x w' ⟨rfl, rfl⟩
  rw [show ((59 : Int).toNat.toUInt8) = 59 from rfl, hi]
  clear hi
  go_wp2_with fail
  · go_ret2
    have h : t.toList = [97, 109, 112] := by simpa using ‹(t.toList == [97, 109, 112]) = true›
    exact ⟨by rw [← Lib.toList_data, h]; rfl, Below.refl _ _⟩
  · go_ret2
    have h : t.toList = [108, 116] := by simpa using ‹(t.toList == [108, 116]) = true›
    exact ⟨by rw [← Lib.toList_data, h]; rfl, Below.refl _ _⟩
  · go_ret2
    have h : t.toList = [103, 116] := by simpa using ‹(t.toList == [103, 116]) = true›
    exact ⟨by rw [← Lib.toList_data, h]; rfl, Below.refl _ _⟩
  · go_ret2
    have h : t.toList = [113, 117, 111, 116] := by simpa using ‹(t.toList == [113, 117, 111, 116]) = true›
    exact ⟨by rw [← Lib.toList_data, h]; rfl, Below.refl _ _⟩
  · go_ret2
    have h : t.toList = [97, 112, 111, 115] := by simpa using ‹(t.toList == [97, 112, 111, 115]) = true›
    exact ⟨by rw [← Lib.toList_data, h]; rfl, Below.refl _ _⟩
  · have hN := named_rest ‹(t.toList == [97, 109, 112]) = false› ‹(t.toList == [108, 116]) = false› ‹(t.toList == [103, 116]) = false› ‹(t.toList == [113, 117, 111, 116]) = false› ‹(t.toList == [97, 112, 111, 115]) = false›
    rw [Lib.toList_data] at hN
    refine (Tryz.strings_HasPrefix t ⟨#[35, 120]⟩ _).mono ?_
    rintro x w' ⟨rfl, rfl⟩
    have htl : t.data.toList.length = t.size := (Lib.size_eq t).symm
    cases hp2 : Lib.hasPrefix t.data.toList [35, 120] with
    | true =>
      have hsz2 : 2 ≤ t.size := by have := hasPrefix_le hp2; simp only [List.length_cons, List.length_nil] at this; omega
      rw [if_pos hp2] at hN
      clear hp2
      have hd : ∃ d : ByteArray, d = t.extract 2 t.size := ⟨_, rfl⟩
      obtain ⟨d, hd⟩ := hd
      have hsl : ∀ wx, (Instr.slice 9 (.string t) (some (.int .i64 2)) none none).run Tryz.prog wx = .ok (.string d) wx := fun wx => by rw [hd]; exact slice_from t 2 hsz2 wx
      have hdd : t.data.toList.drop 2 = d.data.toList := by rw [hd, Lib.extract_to_end]
      have hds : d.size ≤ 9223372036854775807 := by rw [hd, ByteArray.size_extract]; omega
      rw [hdd] at hN
      have hdl : d.data.toList.length = d.size := (Lib.size_eq d).symm
      unfold numb at hN
      rw [hdl] at hN
      clear hd hdd hdl
      by_cases hl1 : 1 ≤ d.size
      · by_cases hl8 : d.size ≤ 8
        · cases hall : allB hexB d.data.toList with
          | false =>
            rw [if_neg (by simp [hall])] at hN
            have HN := Lib.hid hN
            have Hall := Lib.hid hall
            clear hN hall
            go_wp2_with fail
            refine (all_any _ _ kind_hexadecimal d _ hds).mono ?_
            rintro x w' ⟨rfl, hb⟩
            rw [Hall.out]
            go_wp2_with fail
            go_ret2
            exact ⟨by rw [HN.out]; rfl, hb⟩
          | true =>
            rw [if_pos ⟨hl1, hl8, hall⟩] at hN
            have hv0 := valB_nonneg 16 (by omega) hexB (by simp) d.data.toList 0 (by omega) hall
            have Hall := Lib.hid hall
            have HN := Lib.hid hN
            clear hN hall
            go_wp2_with fail
            refine (all_any _ _ kind_hexadecimal d _ hds).mono ?_
            rintro x w1 ⟨rfl, hb1⟩
            rw [Hall.out]
            go_wp2_with fail
            refine (parse_hex d (by omega) hl8 Hall.out _).mono ?_
            rintro x w2 ⟨rfl, hb2⟩
            have hb3 := hb1.trans (hb2.mono hb1.size)
            generalize valB 16 0 d.data.toList = v at HN hv0
            by_cases hv : v ≤ 1114111
            · go_wp2_with fail
              refine (is_any v _ (by have := hb3.size; omega) (hsp.below h0 hb3)).mono ?_
              rintro x w3 ⟨rfl, hb4⟩
              have hb5 := hb3.trans (hb4.mono hb3.size)
              have hN2 := HN.out
              cases hch : isCh v with
              | true =>
                rw [if_pos ⟨hv, hch⟩] at hN2
                have HN2 := Lib.hid hN2
                clear hN2 hch
                go_wp2_with fail
                go_ret2
                exact ⟨by rw [HN2.out]; rfl, hb5⟩
              | false =>
                rw [if_neg (by simp [hch])] at hN2
                have HN2 := Lib.hid hN2
                clear hN2 hch
                go_wp2_with fail
                go_ret2
                exact ⟨by rw [HN2.out]; rfl, hb5⟩
            · have hN2 := HN.out
              rw [if_neg (fun h => hv h.1)] at hN2
              have HN2 := Lib.hid hN2
              clear hN2
              go_wp2_with fail
              go_ret2
              exact ⟨by rw [HN2.out]; rfl, hb3⟩
        · rw [if_neg (by omega)] at hN
          have HN := Lib.hid hN
          clear hN
          go_wp2_with fail
          go_ret2
          exact ⟨by rw [HN.out]; rfl, Below.refl _ _⟩
      · rw [if_neg (by omega)] at hN
        have HN := Lib.hid hN
        clear hN
        go_wp2_with fail
        go_ret2
        exact ⟨by rw [HN.out]; rfl, Below.refl _ _⟩
    | false =>
      rw [if_neg (by simp [hp2])] at hN
      clear hp2
      cases hp1 : Lib.hasPrefix t.data.toList [35] with
      | true =>
        have hsz2 : 1 ≤ t.size := by have := hasPrefix_le hp1; simp only [List.length_cons, List.length_nil] at this; omega
        rw [if_pos hp1] at hN
        have hp1' : Lib.hasPrefix t.data.toList (#[35] : Array UInt8).toList = true := hp1
        have Hp1 := Lib.hid hp1'
        clear hp1 hp1'
        have hd : ∃ d : ByteArray, d = t.extract 1 t.size := ⟨_, rfl⟩
        obtain ⟨d, hd⟩ := hd
        have hsl : ∀ wx, (Instr.slice 9 (.string t) (some (.int .i64 1)) none none).run Tryz.prog wx = .ok (.string d) wx := fun wx => by rw [hd]; exact slice_from t 1 hsz2 wx
        have hdd : t.data.toList.drop 1 = d.data.toList := by rw [hd, Lib.extract_to_end]
        have hds : d.size ≤ 9223372036854775807 := by rw [hd, ByteArray.size_extract]; omega
        rw [hdd] at hN
        have hdl : d.data.toList.length = d.size := (Lib.size_eq d).symm
        unfold numb at hN
        rw [hdl] at hN
        clear hd hdd hdl
        by_cases hl1 : 1 ≤ d.size
        · by_cases hl8 : d.size ≤ 8
          · cases hall : allB decB d.data.toList with
            | false =>
              rw [if_neg (by simp [hall])] at hN
              have HN := Lib.hid hN
              have Hall := Lib.hid hall
              clear hN hall
              go_wp2_with fail
              refine (Tryz.strings_HasPrefix t ⟨#[35]⟩ _).mono ?_
              rintro x w' ⟨rfl, rfl⟩
              rw [Hp1.out]
              go_wp2_with fail
              refine (all_any _ _ kind_decimal d _ hds).mono ?_
              rintro x w' ⟨rfl, hb⟩
              rw [Hall.out]
              go_wp2_with fail
              go_ret2
              exact ⟨by rw [HN.out]; rfl, hb⟩
            | true =>
              rw [if_pos ⟨hl1, hl8, hall⟩] at hN
              have hv0 := valB_nonneg 10 (by omega) decB (by simp) d.data.toList 0 (by omega) hall
              have Hall := Lib.hid hall
              have HN := Lib.hid hN
              clear hN hall
              go_wp2_with fail
              refine (Tryz.strings_HasPrefix t ⟨#[35]⟩ _).mono ?_
              rintro x w' ⟨rfl, rfl⟩
              rw [Hp1.out]
              go_wp2_with fail
              refine (all_any _ _ kind_decimal d _ hds).mono ?_
              rintro x w1 ⟨rfl, hb1⟩
              rw [Hall.out]
              go_wp2_with fail
              refine (parse_ten d (by omega) hl8 Hall.out _).mono ?_
              rintro x w2 ⟨rfl, hb2⟩
              have hb3 := hb1.trans (hb2.mono hb1.size)
              generalize valB 10 0 d.data.toList = v at HN hv0
              by_cases hv : v ≤ 1114111
              · go_wp2_with fail
                refine (is_any v _ (by have := hb3.size; omega) (hsp.below h0 hb3)).mono ?_
                rintro x w3 ⟨rfl, hb4⟩
                have hb5 := hb3.trans (hb4.mono hb3.size)
                have hN2 := HN.out
                cases hch : isCh v with
                | true =>
                  rw [if_pos ⟨hv, hch⟩] at hN2
                  have HN2 := Lib.hid hN2
                  clear hN2 hch
                  go_wp2_with fail
                  go_ret2
                  exact ⟨by rw [HN2.out]; rfl, hb5⟩
                | false =>
                  rw [if_neg (by simp [hch])] at hN2
                  have HN2 := Lib.hid hN2
                  clear hN2 hch
                  go_wp2_with fail
                  go_ret2
                  exact ⟨by rw [HN2.out]; rfl, hb5⟩
              · have hN2 := HN.out
                rw [if_neg (fun h => hv h.1)] at hN2
                have HN2 := Lib.hid hN2
                clear hN2
                go_wp2_with fail
                go_ret2
                exact ⟨by rw [HN2.out]; rfl, hb3⟩
          · rw [if_neg (by omega)] at hN
            have HN := Lib.hid hN
            clear hN
            go_wp2_with fail
            refine (Tryz.strings_HasPrefix t ⟨#[35]⟩ _).mono ?_
            rintro x w' ⟨rfl, rfl⟩
            rw [Hp1.out]
            go_wp2_with fail
            go_ret2
            exact ⟨by rw [HN.out]; rfl, Below.refl _ _⟩
        · rw [if_neg (by omega)] at hN
          have HN := Lib.hid hN
          clear hN
          go_wp2_with fail
          refine (Tryz.strings_HasPrefix t ⟨#[35]⟩ _).mono ?_
          rintro x w' ⟨rfl, rfl⟩
          rw [Hp1.out]
          go_wp2_with fail
          go_ret2
          exact ⟨by rw [HN.out]; rfl, Below.refl _ _⟩
      | false =>
        rw [if_neg (by simp [hp1])] at hN
        have hp1' : Lib.hasPrefix t.data.toList (#[35] : Array UInt8).toList = false := hp1
        have Hp1 := Lib.hid hp1'
        have HN := Lib.hid hN
        clear hp1 hp1' hN
        go_wp2_with fail
        refine (Tryz.strings_HasPrefix t ⟨#[35]⟩ _).mono ?_
        rintro x w' ⟨rfl, rfl⟩
        rw [Hp1.out]
        go_wp2_with fail
        go_ret2
        exact ⟨by rw [HN.out]; rfl, Below.refl _ _⟩
theorem indexByte_cases (l : Bytes) (c : UInt8) : Lib.indexByte l c = -1 ∨ ∃ e : Nat, Lib.indexByte l c = e ∧ e < l.length ∧ l[e]? = some c ∧ ∀ k, k < e → l[k]? ≠ some c := by
  have h := Lib.indexByte_ge l c
  by_cases hn : Lib.indexByte l c = -1
  · exact .inl hn
  · refine .inr ⟨(Lib.indexByte l c).toNat, by omega, ?_⟩
    have hs := Lib.indexByte_some (l := l) (c := c) (o := (Lib.indexByte l c).toNat) (by omega)
    exact ⟨(List.getElem?_eq_some_iff.1 hs.1).1, hs⟩
theorem reference_any (s : ByteArray) (w : World) (hs : s.size ≤ 9223372036854775807) (ha : s.data.toList.headD 0 = 38) (h0 : 0 < w.heap.size) (hsp : Spans w) :
    Calls Tryz.prog 69 #[.string s] w fun x w' => x = .returned (refV (refr s.data.toList)) ∧ Below w.heap.size w w' := by
  rcases indexByte_cases s.data.toList 59 with h | ⟨e, he, hlt, hget, _⟩
  · refine (ref_none s w h).mono ?_
    rintro x w' ⟨rfl, rfl⟩
    refine ⟨?_, Below.refl _ _⟩
    unfold refr
    rw [h, if_pos (by omega)]
  · have h1 : 1 ≤ e := by
      rcases Nat.eq_zero_or_pos e with rfl | h
      · rw [List.headD_eq_head?_getD, List.head?_eq_getElem?, hget] at ha
        simp at ha
      · exact h
    rw [← Lib.size_eq] at hlt
    refine (ref_some s w hs e he h1 hlt h0 hsp).mono ?_
    rintro x w' ⟨rfl, hb⟩
    refine ⟨?_, hb⟩
    unfold refr
    rw [he, if_neg (by omega), Int.toNat_natCast, Lib.extract_data]
end Go.Proofs.YtkehbepopegboaaGreatDoor
