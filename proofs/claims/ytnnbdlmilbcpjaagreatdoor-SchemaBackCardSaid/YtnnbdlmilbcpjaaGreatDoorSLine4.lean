/-
  Layer 9 (schema): a line's methods attributes and content: their walks. Conditions as before.
-/
import Derived.Test.YtnnbdlmilbcpjaaGreatDoorSLine3
namespace Go.Proofs.YtnnbdlmilbcpjaaGreatDoor
open Go.RowKit
set_option linter.unusedVariables false
/-- of the blocks below B that of the line alone may turn -/
structure Far (b B : Nat) (w w' : World) : Prop where
  os : w'.os = w.os
  tape : w'.tape = w.tape
  output : w'.output = w.output
  size : w.heap.size ≤ w'.heap.size
  block : ∀ k, k < B → k ≠ b → w'.heap[k]? = w.heap[k]?
theorem Far.refl (b B : Nat) (w : World) : Far b B w w := ⟨rfl, rfl, rfl, Nat.le_refl _, fun _ _ _ => rfl⟩
theorem Far.trans {b B : Nat} {a c d : World} (h : Far b B a c) (k : Far b B c d) : Far b B a d :=
  ⟨k.os.trans h.os, k.tape.trans h.tape, k.output.trans h.output, Nat.le_trans h.size k.size, fun i hi hb => (k.block i hi hb).trans (h.block i hi hb)⟩
theorem Sole.far {b B : Nat} {w w' : World} (h : Sole b w w') (hB : B ≤ w.heap.size) : Far b B w w' := ⟨h.os, h.tape, h.output, h.size, fun k hk hb => h.block k (by omega) hb⟩
theorem grown_far {b B : Nat} {w w' : World} {row : Option Nat} (h : w.grownBy w' row) (hB : B ≤ w.heap.size) (hr : ∀ k, row = some k → B ≤ k) : Far b B w w' :=
  ⟨h.os, h.tape, h.output, h.size, fun k hk hb => h.block k (by omega) (fun e => by have := hr k e.symm; omega)⟩
theorem Far.below {b B C : Nat} {w w' : World} (h : Far b B w w') (hC : C ≤ b) (hB : C ≤ B) (hs : C ≤ w.heap.size) : Below C w w' := ⟨h.os, h.tape, h.output, h.size, fun k hk => h.block k (by omega) (by omega)⟩
theorem nextL_cons {r : Bytes} {c : UInt8} {t : Bytes} (h : nextL r = c :: t) : blankU c = false := by
  unfold nextL at h
  have := List.head?_dropWhile_not blankU r
  rw [h] at this
  simpa using this
theorem nextL_idem (r : Bytes) : nextL (nextL r) = nextL r := by
  cases h : nextL r with
  | nil => rfl
  | cons c t =>
    have := nextL_cons h
    show List.dropWhile blankU (c :: t) = _
    rw [List.dropWhile_cons_of_neg (by simp [this])]
theorem wordW_next (r : Bytes) : wordW (nextL r) = wordW r := by unfold wordW; rw [nextL_idem]
theorem wordR_next (r : Bytes) : wordR (nextL r) = wordR r := by unfold wordR; rw [nextL_idem]
theorem wordR_lt {r : Bytes} (h : (nextL r).head? = some 64) : (wordR (nextL r)).length < r.length := by
  cases hn : nextL r with
  | nil => rw [hn] at h; cases h
  | cons c t =>
    rw [hn] at h
    simp only [List.head?_cons, Option.some.injEq] at h
    subst h
    have h1 := next_le r
    rw [hn] at h1
    have h2 : wordR (64 :: t) = t.dropWhile inWord := by
      unfold wordR
      rw [show nextL (64 :: t) = 64 :: t from by unfold nextL; rw [List.dropWhile_cons_of_neg (by decide)], List.dropWhile_cons_of_pos (by decide)]
    rw [h2]
    have := (List.dropWhile_sublist (l := t) inWord).length_le
    simp at h1
    omega
theorem headI_eq (l : Bytes) (c : UInt8) : (headI l == ((c.toNat : Nat) : Int)) = true → c ≠ 0 → l.head? = some c := by
  intro h hc
  cases l with
  | nil => simp [headI] at h; exact absurd (UInt8.toNat_inj.1 (by simpa using h.symm)) hc
  | cons d t =>
    simp only [headI, beq_iff_eq] at h
    have : d = c := UInt8.toNat_inj.1 (by exact_mod_cast h)
    rw [this]; rfl
theorem headI_ne {l : Bytes} {c : UInt8} (h : l.head? ≠ some c) (hc : c ≠ 0) : headI l ≠ ((c.toNat : Nat) : Int) := fun e => h (headI_eq l c (by simpa using e) hc)
theorem headI_of {l : Bytes} {c : UInt8} (h : l.head? = some c) : headI l = ((c.toNat : Nat) : Int) := by
  cases l with
  | nil => cases h
  | cons d t => simp at h; subst h; rfl
theorem info_str2 : (Tryz.prog.info? 9).map (fun i => (i.zero, i.size, i.bytes)) = some (some (.string ⟨#[]⟩), 1, 16) := by kernel_rfl
theorem attrsL_yes {f : Nat} {acc : List Bytes} {r : Bytes} (h : (nextL r).head? = some 64) (hb : attrB (nextL r) = true) : attrsL (f + 1) acc r = attrsL f (acc ++ [attrW (nextL r)]) (wordR (nextL r)) := by
  conv => lhs; unfold attrsL
  rw [if_pos h, if_pos hb]
theorem attrsL_no {f : Nat} {acc : List Bytes} {r : Bytes} (h : (nextL r).head? = some 64) (hb : attrB (nextL r) = false) : attrsL (f + 1) acc r = none := by
  unfold attrsL
  rw [if_pos h, if_neg (by simp [hb])]
theorem attrsL_end {f : Nat} {acc : List Bytes} {r : Bytes} (h : (nextL r).head? ≠ some 64) : attrsL f acc r = some (acc, nextL r) := by
  cases f with
  | zero => rfl
  | succ f => unfold attrsL; rw [if_neg h]
/-- what attributes owes -/
def AttrPost (r : Option (List Bytes × Bytes)) (x : LineV) (b B : Nat) (w : World) (e : Ending) (w' : World) : Prop :=
  e = .returned (.bool r.isSome) ∧ (∃ y : LineV, LnAt w' b y ∧ ∀ l q, r = some (l, q) → ∃ v, y = { x with rest := q, av := v } ∧ WordsOwn w' B v l) ∧ Far b B w w'
set_option maxHeartbeats 4000000 in
set_option maxRecDepth 100000 in
theorem attributes_any (b B : Nat) (x : LineV) (w : World) (hP : LnAt w b x) (hl : x.rest.length ≤ 65536) (ha : Asc x.rest) (hB : B ≤ w.heap.size) (hb : b < B) (hav : WordsOwn w B x.av []) :
    Calls Tryz.prog 82 #[.pointer (some ⟨b, 0, none⟩)] w (AttrPost (attrsL x.rest.length [] x.rest) x b B w) := by
  obtain ⟨R, hR⟩ : ∃ R, R = attrsL x.rest.length [] x.rest := ⟨_, rfl⟩
  rw [← hR]
  have HR := Lib.hid hR
  obtain ⟨i0, hi, hz1, hz2, hz3⟩ := info_parts info_str2
  obtain ⟨rest, name, label, av, key, text, nv⟩ := x
  simp only at hl ha hav
  clear hR
  go_enter Tryz.func82, Tryz.ntmps82
  go_wp2_with fail
  go_loopg [] rest.length (fun k wr => ∃ (acc : List Bytes) (v : Value) (r : Bytes) (f : Nat), r.length = k ∧ k ≤ f ∧ k ≤ 65536 ∧ acc.length + k ≤ 65536 ∧ LnAt wr b ⟨r, name, label, v, key, text, nv⟩ ∧ WordsOwn wr B v acc ∧ Hid (Asc r) ∧ Far b B w wr ∧ Hid (R = attrsL f acc r))
  case atStart => exact ⟨[], av, rest, rest.length, rfl, Nat.le_refl _, hl, by simp; omega, hP, hav, ha, Far.refl _ _ _, HR.out⟩
  case round =>
    obtain ⟨acc, v, r, f, rfl, hf, hk, hacc, hLn, hown, Ha, hF, HK⟩ := hrel
    clear HR hP
    have hnx := next_any b ⟨r, name, label, v, key, text, nv⟩ wr hLn hk
    have hnl := next_le r
    simp only at hnx
    have hszr := hF.size
    have hst := HK.out
    by_cases hh : (nextL r).head? = some 64
    · have hI := headI_of hh
      have hlt := wordR_lt hh
      obtain ⟨f, rfl⟩ : ∃ f', f = f' + 1 := ⟨f - 1, by omega⟩
      rw [hI, show (((64 : UInt8).toNat : Nat) : Int) = 64 from rfl] at hnx
      have hat := fun w1 hP1 => attribute_any b ⟨nextL r, name, label, v, key, text, nv⟩ w1 hP1 (by show (nextL r).length ≤ _; omega) Ha.out.next
      simp only at hat
      have Hasc := Lib.hid (Ha.out.next.rest)
      obtain ⟨vo, vc, rfl⟩ := ownRow_shape hown
      have hbn : b < wr.heap.size := hLn.lt
      cases hb : attrB (nextL r) with
      | true =>
        rw [attrsL_yes hh hb] at hst
        rw [hb] at hat
        have hal : (attrW (nextL r)).length ≤ 65536 := by
          have h1 := wordW_le (nextL r)
          unfold attrW
          split
          · simp
          · rename_i c t e
            rw [e] at h1
            simp at h1
            split <;> simp <;> omega
        generalize attrW (nextL r) = a at hat hst hal
        generalize wordR (nextL r) = r2 at hat hst hlt Hasc
        have Hst := Lib.hid hst
        clear hst hb hh hI HK Ha
        go_wp2_with fail
        refine hnx.mono ?_
        rintro e w1 ⟨rfl, hP1, hS1⟩
        clear hnx
        have hat' := hat _ hP1
        clear hat
        go_wp2_with fail
        refine hat'.mono ?_
        rintro e w2 ⟨rfl, hP2, hS2⟩
        clear hat'
        have hS := hS1.trans hS2
        have hsz2 := hS.size
        have c3 := hP2.c3
        simp only at c3
        have hown2 : w2.ownsRow B 9 1 (.slice vo acc.length vc) acc.length (acc.map encStr) := World.ownsRow.kept hown hS.grownBy (.inr (fun e => by have := (World.ownsRow.lt hown b e).1; omega))
        clear hown hP1 hS1 hS2
        go_wp2_with (first
          | (at_builtin; go_must (refine wpList_append_own _ rfl _ _ 37 rfl B 9 i0 (.string ⟨#[]⟩) 1 16 Tryz.underlying37 hi hz1 hz2 hz3 rfl (by decide) _ _ _ rfl (World.ownsRow.alloc hown2 _) ⟨w2.heap.size, 0, none⟩ 1 1 [.string ⟨a.toArray⟩] rfl rfl (row_cells_new _ [.string ⟨a.toArray⟩] _ _ rfl) (fun z hz => by simp at hz; subst hz; rfl) (by unfold maxLen; omega) (by omega) (by simp; omega) ?_); intro v3 w3 hown3 hg3 hnil3; have hP3 : LnAt w3 b ⟨r2, name, label, .slice vo acc.length vc, key, text, nv⟩ := (hg3.block b (by have := hP2.lt; simp; omega) (fun e => by have := (World.ownsRow.lt hown2 b e.symm).1; omega)).trans (hP2.below ((Below.refl _ w2).alloc (Nat.le_refl _) _)); have hfr := hP3.free 3; obtain ⟨o3, c3', rfl⟩ := ownRow_shape hown3; have c3'' := hP3.c3; simp only at c3'')
          | fail)
        have hF3 : Far b B w w3 := (hF.trans (hS.far (by omega))).trans (grown_far (grown_of_alloc hg3) (by omega) (fun k e => (World.ownsRow.lt hown2 k e).1))
        have hP4 := hP3.attrs (.slice o3 (acc.length + 1) c3')
        have hown4 : WordsOwn (w3.setCell ⟨b, 3, none⟩ (.slice o3 (acc.length + 1) c3')) B (.slice o3 (acc.length + 1) c3') (acc ++ [a]) := by
          have h1 := World.ownsRow.kept (row := some b) (w' := w3.setCell ⟨b, 3, none⟩ (.slice o3 (acc.length + 1) c3')) hown3 ⟨rfl, rfl, rfl, by simp [World.setCell], fun k hk hb => Below.heap_setCell _ _ _ _ (fun e => hb (by rw [e]))⟩ (.inr (fun e => by have := (World.ownsRow.lt hown3 b e).1; omega))
          unfold WordsOwn
          rw [List.length_append, List.map_append]
          simpa [encStr] using h1
        have hF4 : Far b B w (w3.setCell ⟨b, 3, none⟩ (.slice o3 (acc.length + 1) c3')) := hF3.trans ⟨rfl, rfl, rfl, by simp [World.setCell], fun k _ hb => Below.heap_setCell _ _ _ _ hb⟩
        go_roundg r2.length
        case rel => exact ⟨acc ++ [a], _, r2, f, rfl, by omega, by omega, by simp; omega, hP4, hown4, Hasc.out, hF4, Hst.out⟩
        case measure => omega
      | false =>
        rw [attrsL_no hh hb] at hst
        rw [hb] at hat
        have Hst := Lib.hid hst
        clear hst hb hh hI HK Ha
        go_wp2_with fail
        refine hnx.mono ?_
        rintro e w1 ⟨rfl, hP1, hS1⟩
        clear hnx
        have hat' := hat _ hP1
        clear hat
        go_wp2_with fail
        refine hat'.mono ?_
        rintro e w2 ⟨rfl, hP2, hS2⟩
        clear hat'
        go_wp2_with fail
        go_ret
        exact ⟨by rw [Hst.out]; rfl, ⟨_, hP2, fun l q h => by rw [Hst.out] at h; cases h⟩, hF.trans ((hS1.trans hS2).far (by omega))⟩
    · rw [attrsL_end hh] at hst
      have hI := headI_ne hh (by decide)
      have hI2 : (headI (nextL r) == 64) = false := by rw [beq_eq_false_iff_ne]; exact hI
      have Hst := Lib.hid hst
      clear hst hI hh HK Ha
      go_wp2_with fail
      refine hnx.mono ?_
      rintro e w1 ⟨rfl, hP1, hS1⟩
      clear hnx
      go_wp2_with fail
      go_ret
      refine ⟨by rw [Hst.out]; rfl, ⟨_, hP1, fun l q h => ?_⟩, hF.trans (hS1.far (by omega))⟩
      rw [Hst.out] at h
      injection h with h
      injection h with h1 h2
      subst h1; subst h2
      exact ⟨v, rfl, World.ownsRow.kept hown hS1.grownBy (.inr (fun e => by have := (World.ownsRow.lt hown b e).1; omega))⟩
end Go.Proofs.YtnnbdlmilbcpjaaGreatDoor
