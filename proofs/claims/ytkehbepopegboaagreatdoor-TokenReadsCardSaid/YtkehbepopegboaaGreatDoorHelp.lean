/-
  Small forms of the contracts for marks of known bytes, and for replacing one byte by another. Conditions as before.
-/
import Derived.Test.YtkehbepopegboaaGreatDoorPlace3
namespace Go.Proofs.YtkehbepopegboaaGreatDoor
open Go.RowKit
set_option linter.unusedVariables false
theorem prefix_room {doc : ByteArray} {p : Nat} {m : Bytes} (h : Lib.hasPrefix (doc.data.toList.drop p) m = true) (hm : 1 ≤ m.length) : p + m.length ≤ doc.size := by
  have := hasPrefix_le h
  rw [List.length_drop, ← Lib.size_eq] at this
  omega
theorem skipM_yes (b p : Nat) (doc : ByteArray) (m : Bytes) (n : Nat) (hn : n = m.length) (w : World) (hP : PlaceAt w b doc p) (hp : p ≤ doc.size) (hd : doc.size ≤ 65536) (h : Lib.hasPrefix (doc.data.toList.drop p) m = true) :
    Calls Tryz.prog 44 #[.pointer (some ⟨b, 0, none⟩), .string ⟨m.toArray⟩] w fun e w' => e = .returned (.bool true) ∧ PlaceAt w' b doc (p + n) ∧ Sole b w w' := by
  subst hn
  have hs : (⟨m.toArray⟩ : ByteArray).size = m.length := by rw [Lib.size_eq]
  refine (skip_yes b p doc ⟨m.toArray⟩ w hP hp hd (by simpa using h)).mono ?_
  rintro e w' ⟨rfl, hP', hS⟩
  rw [hs] at hP'
  exact ⟨rfl, hP', hS⟩
theorem skipM_no (b p : Nat) (doc : ByteArray) (m : Bytes) (w : World) (hP : PlaceAt w b doc p) (hp : p ≤ doc.size) (h : Lib.hasPrefix (doc.data.toList.drop p) m = false) :
    Calls Tryz.prog 44 #[.pointer (some ⟨b, 0, none⟩), .string ⟨m.toArray⟩] w fun e w' => e = .returned (.bool false) ∧ PlaceAt w' b doc p ∧ Sole b w w' :=
  skip_no b p doc ⟨m.toArray⟩ w hP hp (by simpa using h)
theorem untilM_no (b p : Nat) (doc : ByteArray) (m : Bytes) (w : World) (hP : PlaceAt w b doc p) (hp : p ≤ doc.size) (hd : doc.size ≤ 65536) (hg : Gl w) (h : Lib.index (doc.data.toList.drop p) m = -1) :
    Calls Tryz.prog 45 #[.pointer (some ⟨b, 0, none⟩), .string ⟨m.toArray⟩] w fun e w' => e = .returned (.tuple #[.string ⟨#[]⟩, .bool false]) ∧ PlaceAt w' b doc p ∧ Sole b w w' :=
  until_no b p doc ⟨m.toArray⟩ w hP hp hd hg (by simpa using h)
theorem untilM_yes (b p i : Nat) (doc : ByteArray) (m : Bytes) (n : Nat) (hn : n = m.length) (w : World) (hP : PlaceAt w b doc p) (hp : p ≤ doc.size) (hd : doc.size ≤ 65536) (hg : Gl w) (h : Lib.index (doc.data.toList.drop p) m = i) :
    Calls Tryz.prog 45 #[.pointer (some ⟨b, 0, none⟩), .string ⟨m.toArray⟩] w fun e w' => e = .returned (.tuple #[.string (doc.extract p (p + i)), .bool true]) ∧ PlaceAt w' b doc (p + (i + n)) ∧ Sole b w w' := by
  subst hn
  have hs : (⟨m.toArray⟩ : ByteArray).size = m.length := by rw [Lib.size_eq]
  refine (until_yes b p i doc ⟨m.toArray⟩ w hP hp hd hg (by simpa using h)).mono ?_
  rintro e w' ⟨rfl, hP', hS⟩
  rw [hs] at hP'
  exact ⟨rfl, hP', hS⟩
theorem index_room_doc {doc : ByteArray} {p i : Nat} {m : Bytes} (h : Lib.index (doc.data.toList.drop p) m = i) (hp : p ≤ doc.size) : p + i + m.length ≤ doc.size := by
  have := Lib.index_room (doc.data.toList.drop p) m (by omega)
  rw [h, List.length_drop, ← Lib.size_eq] at this
  omega
theorem index_cases (l m : Bytes) : Lib.index l m = -1 ∨ ∃ i : Nat, Lib.index l m = i := by
  have := Lib.index_ge l m
  by_cases h : Lib.index l m = -1
  · exact .inl h
  · exact .inr ⟨(Lib.index l m).toNat, by omega⟩
/-- strings.ReplaceAll of one byte by another -/
theorem replace1_any (l : Bytes) (x y : UInt8) (hxy : x ≠ y) (w : World) (hl : l.length ≤ 1048576) (hg : Gl w) :
    Calls Tryz.prog 12 #[.string ⟨l.toArray⟩, .string ⟨#[x]⟩, .string ⟨#[y]⟩] w fun e w' => e = .returned (.string ⟨(Lib.replaceAll l [x] [y]).toArray⟩) ∧ Below w.heap.size w w' := by
  obtain ⟨m, hm⟩ := hg.maxlen
  have hs : (⟨l.toArray⟩ : ByteArray).size = l.length := by rw [Lib.size_eq]
  have hc := Lib.countB_le (⟨#[x]⟩ : ByteArray) (by show 1 ≤ 1; omega) (⟨l.toArray⟩ : ByteArray).size ⟨l.toArray⟩ (Nat.le_refl _)
  refine (Tryz.strings_ReplaceAll ⟨l.toArray⟩ ⟨#[x]⟩ ⟨#[y]⟩ m w (by rw [hs]; omega) hm (by show 1 ≤ 1; omega) ?_).mono ?_
  · rw [show (⟨#[y]⟩ : ByteArray).size = 1 from rfl]; omega
  · rintro e w' ⟨rfl, hb⟩
    exact ⟨by simp, hb⟩
end Go.Proofs.YtkehbepopegboaaGreatDoor
