/-
  Layer 9 (schema): a line of a text: what its block holds; the walks of next, word, attribute. Conditions: the line is of ASCII, and has at most 65536 bytes.
-/
import Derived.Test.YtnnbdlmilbcpjaaGreatDoorSRParse
import Derived.Test.YtnnbdlmilbcpjaaGreatDoorSTypes
import Derived.Shelf.Strings.SlTrimAscii
namespace Go.Proofs.YtnnbdlmilbcpjaaGreatDoor
open Go.RowKit
set_option linter.unusedVariables false
/-! ### plain facts -/
def blanks4 : Bytes := [9, 10, 13, 32]
def stops5 : Bytes := [9, 10, 13, 32, 123]
theorem blankU_eq (c : UInt8) : blanks4.contains c = blankU c := by
  unfold blankU blankB blanks4
  rw [Bool.eq_iff_iff]
  simp [← UInt8.toNat_inj]
  omega
theorem stops_eq (c : UInt8) : stops5.contains c = !inWord c := by
  unfold inWord blankU blankB stops5
  rw [Bool.not_not, Bool.eq_iff_iff]
  simp [← UInt8.toNat_inj]
  omega
theorem trimLeft_eq (l : Bytes) : Lib.trimLeftS l blanks4 = nextL l := by
  unfold Lib.trimLeftS nextL
  rw [show (fun x => blanks4.contains x) = blankU from funext blankU_eq]
theorem trimRight_eq (l : Bytes) : Lib.trimRightS l blanks4 = trimR l := by
  unfold Lib.trimRightS trimR
  rw [show (fun x => blanks4.contains x) = blankU from funext blankU_eq]
theorem indexAny_eq : ∀ l : Bytes, Lib.indexAny l stops5 = if (l.takeWhile inWord).length = l.length then -1 else ((l.takeWhile inWord).length : Int)
  | [] => rfl
  | c :: l => by
    have ih := indexAny_eq l
    have hge := Lib.indexAny_ge stops5 l
    rw [Lib.indexAny, stops_eq]
    cases h : inWord c with
    | false =>
      rw [List.takeWhile_cons_of_neg (by simp [h])]
      simp
    | true =>
      rw [List.takeWhile_cons_of_pos (by simpa using h), ih]
      simp only [Bool.not_true, Bool.false_eq_true, if_false, List.length_cons]
      by_cases hl : (l.takeWhile inWord).length = l.length
      · simp [hl]
      · rw [if_neg hl]
        have : ¬ (((l.takeWhile inWord).length : Int) == -1) = true := by simp
        rw [if_neg this, if_neg (by omega)]
        omega
theorem takeWhile_full (p : UInt8 → Bool) : ∀ l : Bytes, (l.takeWhile p).length = l.length → l.takeWhile p = l ∧ l.dropWhile p = []
  | [], _ => ⟨rfl, rfl⟩
  | c :: l, h => by
    cases hc : p c with
    | false => rw [List.takeWhile_cons_of_neg (by simp [hc])] at h; simp at h
    | true =>
      rw [List.takeWhile_cons_of_pos (by simpa using hc)] at h ⊢
      rw [List.dropWhile_cons_of_pos (by simpa using hc)]
      have := takeWhile_full p l (by simpa using h)
      rw [this.1]
      exact ⟨rfl, this.2⟩
theorem take_tw (p : UInt8 → Bool) (l : Bytes) : l.take (l.takeWhile p).length = l.takeWhile p := by
  induction l with
  | nil => rfl
  | cons c t ih =>
    by_cases h : p c = true
    · rw [List.takeWhile_cons_of_pos h]; simp [ih]
    · rw [List.takeWhile_cons_of_neg h]; rfl
theorem drop_tw (p : UInt8 → Bool) (l : Bytes) : l.drop (l.takeWhile p).length = l.dropWhile p := by
  induction l with
  | nil => rfl
  | cons c t ih =>
    by_cases h : p c = true
    · rw [List.takeWhile_cons_of_pos h, List.dropWhile_cons_of_pos h]; simp [ih]
    · rw [List.takeWhile_cons_of_neg h, List.dropWhile_cons_of_neg h]; rfl
/-- of ASCII -/
def Asc (l : Bytes) : Prop := ∀ c ∈ l, c.toNat < 128
theorem Asc.next {l : Bytes} (h : Asc l) : Asc (nextL l) := fun c hc => h c ((List.dropWhile_sublist _).subset hc)
theorem Asc.rest {l : Bytes} (h : Asc l) : Asc (wordR l) := fun c hc => h.next c ((List.dropWhile_sublist _).subset hc)
theorem next_le (l : Bytes) : (nextL l).length ≤ l.length := (List.dropWhile_sublist _).length_le
theorem wordR_le (l : Bytes) : (wordR l).length ≤ l.length := Nat.le_trans (List.dropWhile_sublist _).length_le (next_le l)
theorem wordW_le (l : Bytes) : (wordW l).length ≤ l.length := Nat.le_trans (List.takeWhile_sublist _).length_le (next_le l)
theorem bytes_size (l : Bytes) : (⟨l.toArray⟩ : ByteArray).size = l.length := by rw [Lib.size_eq]
theorem slice_take (l : Bytes) (n : Nat) (h : n ≤ l.length) (w : World) : (Instr.slice 9 (.string ⟨l.toArray⟩) none (some (.int .i64 (n : Nat))) none).run Tryz.prog w = .ok (.string ⟨(l.take n).toArray⟩) w := by
  have h2 : n ≤ (⟨l.toArray⟩ : ByteArray).size := by rw [bytes_size]; exact h
  rw [run_slice_string_to_if w _ _ .i64 n Tryz.underlying9, if_pos (by omega)]
  congr 2
  apply ByteArray.ext
  apply Array.ext'
  show ((⟨l.toArray⟩ : ByteArray).extract 0 n).data.toList = _
  rw [Lib.extract_data]
  simp
theorem slice_drop (l : Bytes) (n : Nat) (h : n ≤ l.length) (w : World) : (Instr.slice 9 (.string ⟨l.toArray⟩) (some (.int .i64 (n : Nat))) none none).run Tryz.prog w = .ok (.string ⟨(l.drop n).toArray⟩) w := by
  have h2 : n ≤ (⟨l.toArray⟩ : ByteArray).size := by rw [bytes_size]; exact h
  rw [slice_from _ n h2 w]
  congr 2
  apply ByteArray.ext
  apply Array.ext'
  rw [Lib.extract_to_end]
end Go.Proofs.YtnnbdlmilbcpjaaGreatDoor
