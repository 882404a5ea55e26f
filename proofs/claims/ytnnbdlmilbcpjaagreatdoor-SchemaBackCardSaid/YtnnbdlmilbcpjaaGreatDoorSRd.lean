/-
  Layer 7 (regex): the reader of a text: frames, what its block holds, and the walks of its small methods: blanks, mark, word. Conditions: reading is within the text, which has at most 65536 bytes.
-/
import Derived.Test.YtnnbdlmilbcpjaaGreatDoorNamesIs
import Derived.Test.YtnnbdlmilbcpjaaGreatDoorSMem
import Derived.Test.YtnnbdlmilbcpjaaGreatDoorSPPlain
import Derived.Deep.QuietTactic
import Derived.BigQuiet
import Derived.Deep.RegionHeld3
import Derived.StillTailTactics
import Derived.Deep.LoopGhost
namespace Go.Proofs.YtnnbdlmilbcpjaaGreatDoor
open Go.RowKit
set_option linter.unusedVariables false

/-- of all blocks of w that one alone may hold something else in w' -/
structure Sole (b : Nat) (w w' : World) : Prop where
  os : w'.os = w.os
  tape : w'.tape = w.tape
  output : w'.output = w.output
  size : w.heap.size ≤ w'.heap.size
  block : ∀ k, k < w.heap.size → k ≠ b → w'.heap[k]? = w.heap[k]?
theorem Sole.refl (b : Nat) (w : World) : Sole b w w := ⟨rfl, rfl, rfl, Nat.le_refl _, fun _ _ _ => rfl⟩
theorem Sole.trans {b : Nat} {a c d : World} (h : Sole b a c) (k : Sole b c d) : Sole b a d :=
  ⟨k.os.trans h.os, k.tape.trans h.tape, k.output.trans h.output, Nat.le_trans h.size k.size, fun i hi hb => (k.block i (Nat.lt_of_lt_of_le hi h.size) hb).trans (h.block i hi hb)⟩
theorem Sole.of {b : Nat} {w w' : World} (h : Below w.heap.size w w') : Sole b w w' := ⟨h.os, h.tape, h.output, h.size, fun k hk _ => h.block k hk⟩
theorem Sole.below {b B : Nat} {w w' : World} (h : Sole b w w') (hB : B ≤ b) (hw : B ≤ w.heap.size) : Below B w w' :=
  ⟨h.os, h.tape, h.output, h.size, fun k hk => h.block k (by omega) (by omega)⟩
theorem Sole.alloc {b : Nat} {a w : World} (h : Sole b a w) (o : Obj) : Sole b a (w.alloc o) := h.trans (Sole.of ((Below.refl _ _).alloc (Nat.le_refl _) _))
theorem Sole.drew {b : Nat} {a w : World} (h : Sole b a w) : Sole b a w.drew := h.trans (Sole.of (Below.refl _ _).drew)
theorem Sole.setCell {b : Nat} {a w : World} (h : Sole b a w) (o : Nat) (v : Value) : Sole b a (w.setCell ⟨b, o, none⟩ v) :=
  h.trans ⟨rfl, rfl, rfl, by simp [World.setCell], fun k hk hb => Below.heap_setCell _ _ _ _ hb⟩
theorem Sole.drewN {b : Nat} {w : World} (n : Nat) : Sole b w (w.drewN n) := ⟨rfl, rfl, rfl, Nat.le_refl _, fun _ _ _ => rfl⟩
theorem Sole.grownBy {b : Nat} {w w' : World} (h : Sole b w w') : w.grownBy w' (some b) :=
  ⟨h.os, h.tape, h.output, h.size, fun k hk hb => h.block k hk (fun e => hb (by rw [e]))⟩

/-- a reader lies in block b: the text, where reading is, whether a word was too long, whether a part was too big -/
def RdAt (w : World) (b : Nat) (doc : ByteArray) (p : Nat) (lo bi : Bool) : Prop := w.heap[b]? = some (.cells #[.string doc, .int .i64 p, .bool lo, .bool bi] 163 (0, 0))
section
variable {w w' : World} {b p : Nat} {doc : ByteArray} {lo bi : Bool}
theorem RdAt.lt (h : RdAt w b doc p lo bi) : b < w.heap.size := lt_of_block h
theorem RdAt.cDoc (h : RdAt w b doc p lo bi) : w.cell? ⟨b, 0, none⟩ = some (.string doc) := cell_of_row w b 0 _ _ _ h
theorem RdAt.cPos (h : RdAt w b doc p lo bi) : w.cell? ⟨b, 1, none⟩ = some (.int .i64 p) := cell_of_row w b 1 _ _ _ h
theorem RdAt.cLo (h : RdAt w b doc p lo bi) : w.cell? ⟨b, 2, none⟩ = some (.bool lo) := cell_of_row w b 2 _ _ _ h
theorem RdAt.cBi (h : RdAt w b doc p lo bi) : w.cell? ⟨b, 3, none⟩ = some (.bool bi) := cell_of_row w b 3 _ _ _ h
theorem RdAt.free (h : RdAt w b doc p lo bi) (o : Nat) : w.frozen? ⟨b, o, none⟩ = false := by
  unfold RdAt at h; simp [World.frozen?, h]
theorem RdAt.below (h : RdAt w b doc p lo bi) (hb : Below w.heap.size w w') : RdAt w' b doc p lo bi := (hb.block b h.lt).trans h
theorem RdAt.drew (h : RdAt w b doc p lo bi) : RdAt w.drew b doc p lo bi := h
theorem rd_set (h : RdAt w b doc p lo bi) (o : Nat) (v : Value) : (w.setCell ⟨b, o, none⟩ v).heap[b]? = some (.cells ((#[.string doc, .int .i64 p, .bool lo, .bool bi] : Array Value).setIfInBounds o v) 163 (0, 0)) := by
  have hlt := h.lt
  have h' : w.heap[b] = .cells #[.string doc, .int .i64 p, .bool lo, .bool bi] 163 (0, 0) := by unfold RdAt at h; simpa [Array.getElem?_eq_getElem hlt] using h
  show (w.heap.modify b _)[b]? = _
  rw [Array.getElem?_eq_getElem (by simpa using hlt), Array.getElem_modify_self, h']
  rfl
theorem RdAt.set (h : RdAt w b doc p lo bi) (q : Nat) (v : Value) (hv : v = .int .i64 q) : RdAt (w.setCell ⟨b, 1, none⟩ v) b doc q lo bi := by
  subst hv; exact rd_set h 1 _
theorem RdAt.setLo (h : RdAt w b doc p lo bi) (x : Bool) : RdAt (w.setCell ⟨b, 2, none⟩ (.bool x)) b doc p x bi := rd_set h 2 _
theorem RdAt.setBi (h : RdAt w b doc p lo bi) (x : Bool) : RdAt (w.setCell ⟨b, 3, none⟩ (.bool x)) b doc p lo x := rd_set h 3 _
end
theorem byte_piece (doc : ByteArray) (p : Nat) (h : p < doc.size) : (doc.extract p (p + 1)).data.toList = [doc[p]] := by
  rw [Lib.extract_data, Nat.add_sub_cancel_left]
  have hl : p < doc.data.toList.length := by rw [← Lib.size_eq]; exact h
  rw [List.drop_eq_getElem_cons hl]
  rfl
theorem drop_at (doc : ByteArray) (p : Nat) (h : p < doc.size) : doc.data.toList.drop p = doc[p] :: doc.data.toList.drop (p + 1) := by
  have hl : p < doc.data.toList.length := by rw [← Lib.size_eq]; exact h
  rw [List.drop_eq_getElem_cons hl]
  rfl
theorem drop_end (doc : ByteArray) (p : Nat) (h : doc.size ≤ p) : doc.data.toList.drop p = [] := List.drop_of_length_le (by rw [← Lib.size_eq]; exact h)
theorem get_at (doc : ByteArray) (p : Nat) (h : p < doc.size) : doc.data.toList[p]? = some doc[p] := by
  have hl : p < doc.data.toList.length := by rw [← Lib.size_eq]; exact h
  rw [List.getElem?_eq_getElem hl]
  rfl
theorem get_end (doc : ByteArray) (p : Nat) (h : doc.size ≤ p) : doc.data.toList[p]? = none := List.getElem?_eq_none (by rw [← Lib.size_eq]; exact h)
set_option maxHeartbeats 4000000 in
set_option maxRecDepth 100000 in
theorem rblanks_any (b p : Nat) (doc : ByteArray) (lo bi : Bool) (w : World) (hP : RdAt w b doc p lo bi) (hp : p ≤ doc.size) (hd : doc.size ≤ 65536) :
    Calls Tryz.prog 137 #[.pointer (some ⟨b, 0, none⟩)] w fun e w' => (∃ v, e = .returned v) ∧ RdAt w' b doc (blanksAt doc.data.toList p) lo bi ∧ Sole b w w' := by
  have h1 := hP.cPos
  unfold blanksAt
  go_enter Tryz.func137, Tryz.ntmps137
  go_wp2_with fail
  clear h1
  go_loopg [] (doc.size - p) (fun k wr => ∃ q : Nat, p ≤ q ∧ q ≤ doc.size ∧ k = doc.size - q ∧ RdAt wr b doc q lo bi ∧ Sole b w wr ∧ Hid (blanksN (doc.data.toList.drop p) = (q - p) + blanksN (doc.data.toList.drop q)))
  case atStart => exact ⟨p, Nat.le_refl _, hp, rfl, hP, Sole.refl _ _, by show _ = _; omega⟩
  case round =>
    obtain ⟨q, hpq, hqd, rfl, hPq, hS, hB⟩ := hrel
    have h0 := hPq.cDoc
    have h1 := hPq.cPos
    have hf := hPq.free 1
    by_cases hlt : q < doc.size
    · have hcut : ∀ wx, (Instr.slice 9 (.string doc) (some (.int .i64 q)) (some (.int .i64 (q + 1))) none).run Tryz.prog wx = .ok (.string (doc.extract q (q + 1))) wx := fun wx => slice_mid doc q (q + 1) (by omega) (by omega) wx
      have hbp := byte_piece doc q hlt
      have hts : (doc.extract q (q + 1)).size ≤ 9223372036854775807 := by rw [ByteArray.size_extract]; omega
      generalize doc.extract q (q + 1) = t at hcut hbp hts
      have Hbp := Lib.hid hbp
      clear hbp
      have e1 : IntKind.i64.wrap ((q : Int) + 1) = (q : Int) + 1 := IntWalk.i64_in _ (by omega)
      have hdec : decide ((q : Int) < (doc.size : Int)) = true := by rw [decide_eq_true_eq]; omega
      go_wp2_with fail
      go_still_tail 25, (by kernel_rfl)
      have hPd := hPq.drew
      have hSd := hS.drew
      change wpList _ _ _ _ _ wr.drew
      generalize wr.drew = w2 at hPd hSd
      go_wp2_with fail
      refine (names_Blank t _ hts).mono ?_
      rintro e w3 ⟨rfl, hb3⟩
      rw [Hbp.out]
      have hP3 := hPd.below hb3
      have hS3 := hSd.trans (Sole.of hb3)
      have hdr := drop_at doc q hlt
      cases hbl : blankB (doc[q].toNat : Nat) with
      | true =>
        have ht : allB blankB [doc[q]] = true := by unfold allB; simp [hbl]
        have hN : blanksN (doc.data.toList.drop q) = 1 + blanksN (doc.data.toList.drop (q + 1)) := by
          rw [hdr]; unfold blanksN; rw [List.takeWhile_cons_of_pos (by simpa [blankU] using hbl)]; simp; omega
        have HN := Lib.hid hN
        rw [ht]
        have h13 := hP3.cPos
        have hf3 := hP3.free 1
        clear hN hdr hbl ht
        go_wp2_with fail
        go_roundg (doc.size - (q + 1))
        case rel => exact ⟨q + 1, by omega, by omega, rfl, hP3.set _ _ (by go_num), hS3.setCell _ _, by have := hB.out; have := HN.out; show _ = _; omega⟩
        case measure => omega
      | false =>
        have ht : allB blankB [doc[q]] = false := by unfold allB; simp [hbl]
        have hN : blanksN (doc.data.toList.drop q) = 0 := by
          rw [hdr]; unfold blanksN; rw [List.takeWhile_cons_of_neg (by simp [blankU, hbl])]; rfl
        have hT : blanksN (doc.data.toList.drop p) = q - p := by have := hB.out; omega
        have HT := Lib.hid hT
        rw [ht]
        have h13 := hP3.cPos
        clear hN hdr hbl ht hT
        go_wp2_with fail
        go_end0
        rw [HT.out, show p + (q - p) = q from by omega]
        exact ⟨⟨_, rfl⟩, hP3, hS3⟩
    · have hdec : decide ((q : Int) < (doc.size : Int)) = false := by rw [decide_eq_false_iff_not]; omega
      have hN : blanksN (doc.data.toList.drop q) = 0 := by rw [drop_end doc q (by omega)]; rfl
      have hT : blanksN (doc.data.toList.drop p) = q - p := by have := hB.out; omega
      have HT := Lib.hid hT
      clear hN hT
      go_wp2_with fail
      go_quiet (fail)
      go_wp2_with fail
      go_end0
      rw [HT.out, show p + (q - p) = q from by omega]
      exact ⟨⟨_, rfl⟩, hPq, hS.trans (Sole.drewN _)⟩
end Go.Proofs.YtnnbdlmilbcpjaaGreatDoor
