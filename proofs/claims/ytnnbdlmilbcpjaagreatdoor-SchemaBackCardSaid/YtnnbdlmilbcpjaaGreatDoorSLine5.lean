/-
  Layer 9 (schema): a line's method content: its walk. Conditions as before.
-/
import Derived.Test.YtnnbdlmilbcpjaaGreatDoorSLine4
namespace Go.Proofs.YtnnbdlmilbcpjaaGreatDoor
open Go.RowKit
set_option linter.unusedVariables false
theorem getLast_rev (l : Bytes) : l.getLast? = l.reverse.head? := by rw [List.head?_reverse]
theorem suffix_one (l : Bytes) (c : UInt8) : Lib.hasSuffix l [c] = (l.getLast? == some c) := by
  unfold Lib.hasSuffix
  rw [Bool.eq_iff_iff, List.isSuffixOf_iff_suffix, beq_iff_eq]
  constructor
  · rintro ⟨t, rfl⟩; simp
  · intro h
    obtain ⟨h1, h2⟩ := List.getLast?_eq_some_iff.1 h
    exact ⟨h1, h2.symm⟩
theorem cut_brace (l : Bytes) (w : World) (hl : l.length ≤ 1048576) : Calls Tryz.prog 116 #[.string ⟨l.toArray⟩, .string ⟨#[125]⟩] w fun e w' => e = .returned (.tuple #[.string ⟨(if (l.getLast? == some 125) = true then l.dropLast else l).toArray⟩, .bool (l.getLast? == some 125)]) ∧ w' = w := by
  refine (Tryz.strings_CutSuffix ⟨l.toArray⟩ ⟨#[125]⟩ w (by rw [bytes_size]; omega)).mono ?_
  rintro e w' ⟨rfl, rfl⟩
  refine ⟨?_, rfl⟩
  have e1 : (⟨l.toArray⟩ : ByteArray).data.toList = l := rfl
  have e2 : (⟨#[125]⟩ : ByteArray).data.toList = [125] := rfl
  rw [e1, e2]
  unfold Lib.trimSuffix
  rw [suffix_one, List.dropLast_eq_take]
  rfl
theorem trimR_le (l : Bytes) : (trimR l).length ≤ l.length := by
  unfold trimR
  rw [List.length_reverse]
  have := (List.dropWhile_sublist (l := l.reverse) blankU).length_le
  rwa [List.length_reverse] at this
theorem insideL_le (l : Bytes) : (insideL l).length ≤ l.length := by
  have h := trimR_le (l.drop 1)
  rw [List.length_drop] at h
  unfold insideL
  split
  · rw [List.length_dropLast]; omega
  · omega
/-- what content owes -/
def ContPost (r : Option (Bool × List SNode)) (x : LineV) (b B : Nat) (w : World) (e : Ending) (w' : World) : Prop :=
  e = .returned (.bool r.isSome) ∧ (∃ y : LineV, LnAt w' b y ∧ ∀ t l, r = some (t, l) → x.text = false → x.nv = .slice none 0 0 → ∃ q o c, y = { x with rest := q, text := t, nv := .slice o l.length c } ∧ NodesOwn w' B (.slice o l.length c) l) ∧ Sole b w w'
set_option maxHeartbeats 4000000 in
set_option maxRecDepth 100000 in
theorem content_any (b B : Nat) (x : LineV) (w : World) (hP : LnAt w b x) (hl : x.rest.length ≤ 65536) (ha : Asc x.rest) (hB : B ≤ w.heap.size) (hb : b < B) :
    Calls Tryz.prog 84 #[.pointer (some ⟨b, 0, none⟩)] w (ContPost (contentL x.rest) x b B w) := by
  obtain ⟨R, hR⟩ : ∃ R, R = contentL x.rest := ⟨_, rfl⟩
  rw [← hR]
  have hnx := next_any b x w hP hl
  have hnl := next_le x.rest
  obtain ⟨rest, name, label, av, key, text, nv⟩ := x
  simp only at hl ha hnx hnl hR
  unfold contentL at hR
  by_cases hh : (nextL rest).head? = some 123
  · rw [if_pos hh] at hR
    have hI := headI_of hh
    rw [hI, show (((123 : UInt8).toNat : Nat) : Int) = 123 from rfl] at hnx
    have h1l : 1 ≤ (nextL rest).length := by cases h : nextL rest with | nil => rw [h] at hh; cases hh | cons c t => simp
    have hsl : ∀ w1, (Instr.slice 9 (.string ⟨(nextL rest).toArray⟩) (some (.int .i64 1)) none none).run Tryz.prog w1 = .ok (.string ⟨((nextL rest).drop 1).toArray⟩) w1 := fun w1 => slice_drop (nextL rest) 1 h1l w1
    have htr := fun w1 => trimR_any ((nextL rest).drop 1) w1 (by rw [List.length_drop]; omega)
    have htl := trimR_le ((nextL rest).drop 1)
    rw [List.length_drop] at htl
    have hct := fun w1 => cut_brace (trimR ((nextL rest).drop 1)) w1 (by omega)
    have hil := insideL_le (nextL rest)
    have hce : ((trimR ((nextL rest).drop 1)).getLast? == some 125) = closedB (nextL rest) := rfl
    rw [hce, show (if closedB (nextL rest) = true then (trimR ((nextL rest).drop 1)).dropLast else trimR ((nextL rest).drop 1)) = insideL (nextL rest) from rfl] at hct
    have hpr := fun w1 => regexParse_any ⟨(insideL (nextL rest)).toArray⟩ w1 (by rw [bytes_size]; omega)
    rw [show (⟨(insideL (nextL rest)).toArray⟩ : ByteArray).data.toList = insideL (nextL rest) from rfl] at hpr
    obtain ⟨ns, en, hre⟩ : ∃ ns en, regexP (insideL (nextL rest)) = (ns, en) := ⟨_, _, rfl⟩
    rw [hre] at hpr hR
    unfold RegexPost at hpr
    simp only at hpr hR
    generalize insideL (nextL rest) = ins at hct hpr
    generalize trimR ((nextL rest).drop 1) = tr at htr hct
    generalize closedB (nextL rest) = cl at hct hR
    generalize (nextL rest).drop 1 = dr at hsl htr
    generalize nextL rest = nr at hnx hsl
    have HR := Lib.hid hR
    clear hR hh hI hce hre htl hil
    go_enter Tryz.func84, Tryz.ntmps84
    go_wp2_with fail
    refine hnx.mono ?_
    rintro e w1 ⟨rfl, hP1, hS1⟩
    have c0 := hP1.c0
    simp only at c0
    clear hnx
    go_wp2_with fail
    refine (htr _).mono ?_
    rintro e w2 ⟨rfl, hb2⟩
    clear htr
    go_wp2_with fail
    refine (hct _).mono ?_
    rintro e w3 ⟨rfl, rfl⟩
    clear hct
    have hpr' := hpr w3
    clear hpr c0
    go_wp2_with fail
    refine hpr'.mono ?_
    rintro e w4 ⟨o, c, rfl, ho4, hb4⟩
    clear hpr'
    have hS4 := (hS1.trans (Sole.of hb2)).trans (Sole.of hb4)
    have hP4 := (hP1.below hb2).below hb4
    have hb5 := (Below.refl w4.heap.size w4).alloc (Nat.le_refl _) (.cells #[.slice o ns.length c] 45)
    have hP5 := hP4.below hb5
    have hfr := hP5.free 6
    have c6 := hP5.c6
    simp only at c6
    have hS5 := hS4.trans (Sole.of hb5)
    have hP6 := hP5.nodes (.slice o ns.length c)
    have hS6 := sole_set hS5 6 (.slice o ns.length c)
    have hown6 : NodesOwn ((w4.alloc (.cells #[.slice o ns.length c] 45)).setCell ⟨b, 6, none⟩ (.slice o ns.length c)) B (.slice o ns.length c) ns := by
      have h1 := World.ownsRow.alloc ho4 (.cells #[.slice o ns.length c] 45)
      have hs3 := (hS1.trans (Sole.of hb2)).size
      refine ownRow_down (World.ownsRow.kept (row := some b) h1 ⟨rfl, rfl, rfl, by simp [World.setCell], fun k hk hb => Below.heap_setCell _ _ _ _ (fun e => hb (by rw [e]))⟩ (.inr (fun e => by have := (World.ownsRow.lt h1 b e).1; omega))) (by omega)
    clear hP1 hS1 hb2 hb4 hS4 hP4 hb5 hP5 hS5 ho4
    cases cl with
    | true =>
      by_cases hen : en = 0
      · have hRe : R = some (false, ns) := by rw [HR.out, hen]; rfl
        have HRe := Lib.hid hRe
        subst hen
        clear hRe HR
        go_wp2_with fail
        go_ret
        refine ⟨by rw [HRe.out]; rfl, ⟨_, hP6, fun t l h ht _ => ?_⟩, hS6⟩
        rw [HRe.out] at h
        injection h with h
        injection h with h1 h2
        subst h1; subst h2
        simp only at ht
        subst ht
        exact ⟨_, o, c, rfl, hown6⟩
      · have hRe : R = none := by rw [HR.out]; simp [hen]
        have HRe := Lib.hid hRe
        have hne : (en == 0) = false := by rw [beq_eq_false_iff_ne]; exact hen
        clear hRe HR hen
        go_wp2_with fail
        go_ret
        exact ⟨by rw [HRe.out]; rfl, ⟨_, hP6, fun t l h => by rw [HRe.out] at h; cases h⟩, hS6⟩
    | false =>
      have hRe : R = none := by rw [HR.out]; rfl
      have HRe := Lib.hid hRe
      clear hRe HR
      go_wp2_with fail
      go_ret
      exact ⟨by rw [HRe.out]; rfl, ⟨_, hP6, fun t l h => by rw [HRe.out] at h; cases h⟩, hS6⟩
  · rw [if_neg hh] at hR
    have hI := headI_ne hh (by decide)
    have hI2 : (headI (nextL rest) == 123) = false := by rw [beq_eq_false_iff_ne]; exact hI
    have hI3 : (headI (nextL rest) != 123) = true := by rw [bne_iff_ne]; exact hI
    have hwd := fun w1 hP1 => word_any b ⟨nextL rest, name, label, av, key, text, nv⟩ w1 hP1 (by show (nextL rest).length ≤ _; omega) ha.next
    simp only [wordW_next, wordR_next] at hwd
    have hrl := wordR_le rest
    have hbk := fun w1 => names_Blank ⟨(wordR rest).toArray⟩ w1 (by rw [bytes_size]; omega)
    rw [show allB blankB (⟨(wordR rest).toArray⟩ : ByteArray).data.toList = (wordR rest).all blankU from rfl] at hbk
    by_cases hw : wordW rest = textW
    · rw [hw] at hwd
      unfold textW at hwd
      have hRe : R = if (wordR rest).all blankU = true then some (true, []) else none := by
        rw [hR]
        by_cases hq : (wordR rest).all blankU = true
        · rw [if_pos ⟨hw, hq⟩, if_pos hq]
        · rw [if_neg (fun h => hq h.2), if_neg hq]
      generalize wordR rest = r2 at hwd hbk hRe
      generalize headI (nextL rest) = hi at hnx hI2 hI3
      generalize nextL rest = nr at hnx hwd
      generalize r2.all blankU = bl at hbk hRe
      have HRe := Lib.hid hRe
      clear hR hRe hh hI hw hrl hnl
      go_enter Tryz.func84, Tryz.ntmps84
      go_wp2_with fail
      refine hnx.mono ?_
      rintro e w1 ⟨rfl, hP1, hS1⟩
      clear hnx
      have hwd' := hwd _ hP1
      clear hwd
      go_wp2_with fail
      refine hwd'.mono ?_
      rintro e w2 ⟨rfl, hP2, hS2⟩
      clear hwd'
      have hfr := hP2.free 5
      have c5 := hP2.c5
      simp only at c5
      have hS := hS1.trans hS2
      have hP3 := hP2.text true
      have hS3 := sole_set hS 5 (.bool true)
      have d0 := hP3.c0
      simp only at d0
      clear hP1 hS1 hS2 hS
      go_wp2_with fail
      refine (hbk _).mono ?_
      rintro e w4 ⟨rfl, hb4⟩
      clear hbk
      have hP4 := hP3.below hb4
      have hS4 := hS3.trans (Sole.of hb4)
      go_wp2_with fail
      go_ret
      refine ⟨?_, ⟨_, hP4, fun t l h ht hn => ?_⟩, hS4⟩
      · rw [HRe.out]; cases bl <;> rfl
      · rw [HRe.out] at h
        split at h
        · injection h with h
          injection h with h1 h2
          subst h1; subst h2
          simp only at hn
          subst hn
          exact ⟨_, none, 0, rfl, World.ownsRow_nil _ _ _ _⟩
        · cases h
    · have hRe : R = none := by rw [hR, if_neg (fun h => hw h.1)]
      have hbq : (wordW rest == [116, 101, 120, 116]) = false := by rw [beq_eq_false_iff_ne]; exact hw
      generalize wordW rest = W at hwd hbq
      generalize wordR rest = r2 at hwd hbk
      generalize headI (nextL rest) = hi at hnx hI2 hI3
      generalize nextL rest = nr at hnx hwd
      have HRe := Lib.hid hRe
      clear hR hRe hh hI hw hrl hnl hbk
      go_enter Tryz.func84, Tryz.ntmps84
      go_wp2_with fail
      refine hnx.mono ?_
      rintro e w1 ⟨rfl, hP1, hS1⟩
      clear hnx
      have hwd' := hwd _ hP1
      clear hwd
      go_wp2_with fail
      refine hwd'.mono ?_
      rintro e w2 ⟨rfl, hP2, hS2⟩
      clear hwd'
      have hfr := hP2.free 5
      have c5 := hP2.c5
      simp only at c5
      have hS := hS1.trans hS2
      have hP3 := hP2.text false
      have hS3 := sole_set hS 5 (.bool false)
      clear hP1 hS1 hS2 hS
      go_wp2_with fail
      go_ret
      exact ⟨by rw [HRe.out]; rfl, ⟨_, hP3, fun t l h => by rw [HRe.out] at h; cases h⟩, hS3⟩
end Go.Proofs.YtnnbdlmilbcpjaaGreatDoor
