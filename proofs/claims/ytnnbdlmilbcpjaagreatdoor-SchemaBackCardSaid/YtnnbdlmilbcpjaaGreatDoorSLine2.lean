/-
  Layer 9 (schema): a line's methods next, word, attribute, begin, equals, name, label, key: their walks. Conditions as before.
-/
import Derived.Test.YtnnbdlmilbcpjaaGreatDoorSLine
namespace Go.Proofs.YtnnbdlmilbcpjaaGreatDoor
open Go.RowKit
set_option linter.unusedVariables false
/-- a line: what is not read of it, and its type, as far as it is (its rows as values) -/
structure LineV where
  rest : Bytes
  name : Bytes
  label : Bytes
  av : Value
  key : Bytes
  text : Bool
  nv : Value
def lineRow (x : LineV) : Array Value := #[.string ⟨x.rest.toArray⟩, .string ⟨x.name.toArray⟩, .string ⟨x.label.toArray⟩, x.av, .string ⟨x.key.toArray⟩, .bool x.text, x.nv]
def LnAt (w : World) (b : Nat) (x : LineV) : Prop := w.heap[b]? = some (.cells (lineRow x) 121 (0, 0))
section
variable {w w' : World} {b : Nat} {x : LineV}
theorem LnAt.lt (h : LnAt w b x) : b < w.heap.size := lt_of_block h
theorem LnAt.c0 (h : LnAt w b x) : w.cell? ⟨b, 0, none⟩ = some (.string ⟨x.rest.toArray⟩) := cell_of_row w b 0 _ _ _ h
theorem LnAt.c1 (h : LnAt w b x) : w.cell? ⟨b, 1, none⟩ = some (.string ⟨x.name.toArray⟩) := cell_of_row w b 1 _ _ _ h
theorem LnAt.c2 (h : LnAt w b x) : w.cell? ⟨b, 2, none⟩ = some (.string ⟨x.label.toArray⟩) := cell_of_row w b 2 _ _ _ h
theorem LnAt.c3 (h : LnAt w b x) : w.cell? ⟨b, 3, none⟩ = some x.av := cell_of_row w b 3 _ _ _ h
theorem LnAt.c4 (h : LnAt w b x) : w.cell? ⟨b, 4, none⟩ = some (.string ⟨x.key.toArray⟩) := cell_of_row w b 4 _ _ _ h
theorem LnAt.c5 (h : LnAt w b x) : w.cell? ⟨b, 5, none⟩ = some (.bool x.text) := cell_of_row w b 5 _ _ _ h
theorem LnAt.c6 (h : LnAt w b x) : w.cell? ⟨b, 6, none⟩ = some x.nv := cell_of_row w b 6 _ _ _ h
theorem LnAt.free (h : LnAt w b x) (o : Nat) : w.frozen? ⟨b, o, none⟩ = false := by
  unfold LnAt at h; simp [World.frozen?, h]
theorem LnAt.below (h : LnAt w b x) (hb : Below w.heap.size w w') : LnAt w' b x := (hb.block b h.lt).trans h
theorem ln_set (h : LnAt w b x) (o : Nat) (v : Value) : (w.setCell ⟨b, o, none⟩ v).heap[b]? = some (.cells ((lineRow x).setIfInBounds o v) 121 (0, 0)) := by
  have hlt := h.lt
  have h' : w.heap[b] = .cells (lineRow x) 121 (0, 0) := by unfold LnAt at h; simpa [Array.getElem?_eq_getElem hlt] using h
  show (w.heap.modify b _)[b]? = _
  rw [Array.getElem?_eq_getElem (by simpa using hlt), Array.getElem_modify_self, h']
  rfl
theorem LnAt.rest (h : LnAt w b x) (r : Bytes) : LnAt (w.setCell ⟨b, 0, none⟩ (.string ⟨r.toArray⟩)) b { x with rest := r } := ln_set h 0 _
theorem LnAt.name (h : LnAt w b x) (r : Bytes) : LnAt (w.setCell ⟨b, 1, none⟩ (.string ⟨r.toArray⟩)) b { x with name := r } := ln_set h 1 _
theorem LnAt.label (h : LnAt w b x) (r : Bytes) : LnAt (w.setCell ⟨b, 2, none⟩ (.string ⟨r.toArray⟩)) b { x with label := r } := ln_set h 2 _
theorem LnAt.attrs (h : LnAt w b x) (v : Value) : LnAt (w.setCell ⟨b, 3, none⟩ v) b { x with av := v } := ln_set h 3 _
theorem LnAt.key (h : LnAt w b x) (r : Bytes) : LnAt (w.setCell ⟨b, 4, none⟩ (.string ⟨r.toArray⟩)) b { x with key := r } := ln_set h 4 _
theorem LnAt.text (h : LnAt w b x) (r : Bool) : LnAt (w.setCell ⟨b, 5, none⟩ (.bool r)) b { x with text := r } := ln_set h 5 _
theorem LnAt.nodes (h : LnAt w b x) (v : Value) : LnAt (w.setCell ⟨b, 6, none⟩ v) b { x with nv := v } := ln_set h 6 _
end
theorem sole_set {b : Nat} {w0 w : World} (h : Sole b w0 w) (o : Nat) (v : Value) : Sole b w0 (w.setCell ⟨b, o, none⟩ v) := h.setCell o v
/-- the first byte, or 0 -/
def headI (l : Bytes) : Int := match l with | [] => 0 | c :: _ => (c.toNat : Nat)
theorem trimL_any (l : Bytes) (w : World) : Calls Tryz.prog 38 #[.string ⟨l.toArray⟩, .string ⟨#[9, 10, 13, 32]⟩] w fun e w' => e = .returned (.string ⟨(nextL l).toArray⟩) ∧ Below w.heap.size w w' := by
  have h := Any.strings_TrimLeft_laid Tryz.lays161 (by kernel_rfl) ⟨l.toArray⟩ ⟨#[9, 10, 13, 32]⟩ w (by decide) (by intro j b hj; have := List.mem_of_getElem? hj; simp at this; rcases this with rfl | rfl | rfl | rfl <;> decide)
  refine h.mono ?_
  rintro e w' ⟨rfl, hb⟩
  have e1 := trimLeft_eq l
  unfold blanks4 at e1
  exact ⟨by rw [e1], hb⟩
theorem trimR_any (l : Bytes) (w : World) (hl : l.length ≤ 1048576) : Calls Tryz.prog 117 #[.string ⟨l.toArray⟩, .string ⟨#[9, 10, 13, 32]⟩] w fun e w' => e = .returned (.string ⟨(trimR l).toArray⟩) ∧ Below w.heap.size w w' := by
  have h := Any.strings_TrimRight_laid Tryz.lays162 (by kernel_rfl) ⟨l.toArray⟩ ⟨#[9, 10, 13, 32]⟩ w (by rw [bytes_size]; omega) (by decide) (by intro j b hj; have := List.mem_of_getElem? hj; simp at this; rcases this with rfl | rfl | rfl | rfl <;> decide)
  refine h.mono ?_
  rintro e w' ⟨rfl, hb⟩
  have e1 := trimRight_eq l
  unfold blanks4 at e1
  exact ⟨by rw [e1], hb⟩
theorem indexAny_any (l : Bytes) (w : World) (hl : l.length ≤ 1048576) (ha : Asc l) : Calls Tryz.prog 130 #[.string ⟨l.toArray⟩, .string ⟨#[9, 10, 13, 32, 123]⟩] w fun e w' => e = .returned (.int .i64 (if (l.takeWhile inWord).length = l.length then -1 else ((l.takeWhile inWord).length : Int))) ∧ Below w.heap.size w w' := by
  have h := Tryz.strings_IndexAny_laid ⟨l.toArray⟩ ⟨#[9, 10, 13, 32, 123]⟩ w (by rw [bytes_size]; omega) (by decide) (by intro j b hj; exact ha b (List.mem_of_getElem? hj)) (by intro j b hj; have := List.mem_of_getElem? hj; simp at this; rcases this with rfl | rfl | rfl | rfl | rfl <;> decide)
  refine h.mono ?_
  rintro e w' ⟨rfl, hb⟩
  have e1 := indexAny_eq l
  unfold stops5 at e1
  exact ⟨by rw [e1], hb⟩
set_option maxHeartbeats 1000000 in
set_option maxRecDepth 100000 in
theorem next_any (b : Nat) (x : LineV) (w : World) (hP : LnAt w b x) (hl : x.rest.length ≤ 65536) :
    Calls Tryz.prog 114 #[.pointer (some ⟨b, 0, none⟩)] w fun e w' => e = .returned (.int .u8 (headI (nextL x.rest))) ∧ LnAt w' b { x with rest := nextL x.rest } ∧ Sole b w w' := by
  have c0 := hP.c0
  have ht := trimL_any x.rest w
  have hnl := next_le x.rest
  obtain ⟨r, hr⟩ : ∃ r, r = nextL x.rest := ⟨_, rfl⟩
  rw [← hr] at ht hnl ⊢
  clear hr
  go_enter Tryz.func114, Tryz.ntmps114
  go_wp2_with fail
  refine ht.mono ?_
  rintro e w1 ⟨rfl, hb1⟩
  have hP1 := hP.below hb1
  have hf := hP1.free 0
  have hc := hP1.c0
  have hP2 := hP1.rest r
  have hS2 := sole_set (Sole.of hb1 (b := b)) 0 (.string ⟨r.toArray⟩)
  clear ht c0
  cases r with
  | nil =>
    go_wp2_with fail
    go_ret
    exact ⟨rfl, hP2, hS2⟩
  | cons c t =>
    have hz : (⟨(c :: t).toArray⟩ : ByteArray).size = t.length + 1 := by rw [bytes_size]; rfl
    have hpos : (0 : Int) < ((⟨(c :: t).toArray⟩ : ByteArray).size : Int) := by rw [hz]; omega
    have hz2 : 0 < (⟨(c :: t).toArray⟩ : ByteArray).size := by omega
    have hget : (⟨(c :: t).toArray⟩ : ByteArray)[0] = c := rfl
    go_wp2_with fail
    go_ret
    exact ⟨rfl, hP2, hS2⟩
theorem wordW_drop (r : Bytes) : (nextL r).drop (wordW r).length = wordR r := drop_tw inWord (nextL r)
theorem wordW_take (r : Bytes) : (nextL r).take (wordW r).length = wordW r := take_tw inWord (nextL r)
theorem wordW_len (r : Bytes) : (wordW r).length ≤ (nextL r).length := (List.takeWhile_sublist _).length_le
set_option maxHeartbeats 1000000 in
set_option maxRecDepth 100000 in
theorem word_any (b : Nat) (x : LineV) (w : World) (hP : LnAt w b x) (hl : x.rest.length ≤ 65536) (ha : Asc x.rest) :
    Calls Tryz.prog 113 #[.pointer (some ⟨b, 0, none⟩)] w fun e w' => e = .returned (.string ⟨(wordW x.rest).toArray⟩) ∧ LnAt w' b { x with rest := wordR x.rest } ∧ Sole b w w' := by
  have hnx := next_any b x w hP hl
  have hnl := next_le x.rest
  have hia := fun w1 => indexAny_any (nextL x.rest) w1 (by omega) ha.next
  have hwl := wordW_len x.rest
  have hwt := fun w1 => slice_take (nextL x.rest) (wordW x.rest).length hwl w1
  have hwd := fun w1 => slice_drop (nextL x.rest) (wordW x.rest).length hwl w1
  rw [wordW_take] at hwt
  rw [wordW_drop] at hwd
  rw [show (nextL x.rest).takeWhile inWord = wordW x.rest from rfl] at hia
  obtain ⟨r, hr⟩ : ∃ r, r = nextL x.rest := ⟨_, rfl⟩
  obtain ⟨W, hW⟩ : ∃ W, W = wordW x.rest := ⟨_, rfl⟩
  obtain ⟨D, hD⟩ : ∃ D, D = wordR x.rest := ⟨_, rfl⟩
  rw [← hr] at hnx hnl hia hwl hwt hwd
  rw [← hW] at hia hwl hwt hwd ⊢
  rw [← hD] at hwd ⊢
  have hsz : (⟨r.toArray⟩ : ByteArray).size = r.length := bytes_size r
  clear hr hW hD hP
  by_cases hf : W.length = r.length
  · have hia' := fun w1 => hia w1
    simp only [hf, if_true] at hia'
    rw [hf] at hwt hwd
    have Hsz := Lib.hid hsz
    clear hia hf hsz
    go_enter Tryz.func113, Tryz.ntmps113
    go_wp2_with fail
    refine hnx.mono ?_
    rintro e w1 ⟨rfl, hP1, hS1⟩
    have c0 := hP1.c0
    clear hnx
    go_wp2_with fail
    refine (hia' _).mono ?_
    rintro e w2 ⟨rfl, hb2⟩
    clear hia'
    have hP2 := hP1.below hb2
    have c0 := hP2.c0
    have hf := hP2.free 0
    have hsz := Hsz.out
    go_wp2_with fail
    go_ret
    exact ⟨rfl, hP2.rest D, sole_set (hS1.trans (Sole.of hb2)) 0 _⟩
  · have hia' := fun w1 => hia w1
    simp only [hf, if_false] at hia'
    have hnn : decide ((W.length : Int) < 0) = false := by rw [decide_eq_false_iff_not]; omega
    clear hia hf hsz
    go_enter Tryz.func113, Tryz.ntmps113
    go_wp2_with fail
    refine hnx.mono ?_
    rintro e w1 ⟨rfl, hP1, hS1⟩
    have c0 := hP1.c0
    clear hnx
    go_wp2_with fail
    refine (hia' _).mono ?_
    rintro e w2 ⟨rfl, hb2⟩
    clear hia'
    have hP2 := hP1.below hb2
    have c0 := hP2.c0
    have hf := hP2.free 0
    go_wp2_with fail
    go_ret
    exact ⟨rfl, hP2.rest D, sole_set (hS1.trans (Sole.of hb2)) 0 _⟩
end Go.Proofs.YtnnbdlmilbcpjaaGreatDoor
