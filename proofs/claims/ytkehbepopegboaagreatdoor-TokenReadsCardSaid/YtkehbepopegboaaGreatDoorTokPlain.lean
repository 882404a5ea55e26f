/-
  The plain functions of layer 3 (token) on lists of bytes: lines, attributes, pieces, all pieces: no program in sight. No condition.
-/
import Derived.Test.YtkehbepopegboaaGreatDoorRefPlain
import Derived.Lib.CountLaws
import Derived.Lib.Replace
open Go
namespace Go.Proofs.YtkehbepopegboaaGreatDoor
/-- so many blanks stand at the head -/
def blanksN (l : Bytes) : Nat := (l.takeWhile fun c => blankB (c.toNat : Nat)).length
/-- so many bytes that names may have stand at the head -/
def partN (l : Bytes) : Nat := (l.takeWhile fun c => partB (c.toNat : Nat)).length
theorem blanksN_le (l : Bytes) : blanksN l ≤ l.length := by unfold blanksN; exact (List.takeWhile_sublist _).length_le
theorem partN_le (l : Bytes) : partN l ≤ l.length := by unfold partN; exact (List.takeWhile_sublist _).length_le
theorem take_partN (l : Bytes) : l.take (partN l) = l.takeWhile fun c => partB (c.toNat : Nat) := by
  unfold partN
  induction l with
  | nil => rfl
  | cons c t ih =>
    by_cases h : partB (c.toNat : Nat) = true
    · rw [List.takeWhile_cons_of_pos (by simpa using h)]; simp [ih]
    · rw [List.takeWhile_cons_of_neg (by simpa using h)]; rfl

/-! ### replacing -/
theorem replace_miss {s old : Bytes} (new : Bytes) (h : Lib.index s old = -1) : Lib.replaceAll s old new = s := by
  unfold Lib.replaceAll Lib.replace Lib.replaceNum
  split
  · rfl
  · rw [if_pos (by omega), Lib.count_miss h]; rfl
theorem replace_hit {s old new : Bytes} {i : Nat} (hne : (old == new) = false) (ho : old ≠ []) (h : Lib.index s old = i) :
    Lib.replaceAll s old new = s.take i ++ new ++ Lib.replaceAll (s.drop (i + old.length)) old new := by
  unfold Lib.replaceAll Lib.replace Lib.replaceNum
  rw [hne]
  simp only [Bool.false_eq_true, if_false]
  rw [if_pos (by omega), if_pos (by omega), Lib.count_hit ho h, Nat.add_comm, Lib.replaceK_hit _ _ _ _ _ h]
theorem replace_nil (old new : Bytes) (ho : old ≠ []) : Lib.replaceAll [] old new = [] := by
  refine replace_miss new ?_
  unfold Lib.index
  rw [if_neg (by simpa using ho)]
theorem index_cons_no {c : UInt8} {t old : Bytes} (h : old.isPrefixOf (c :: t) = false) : Lib.index (c :: t) old = if Lib.index t old = -1 then -1 else Lib.index t old + 1 := by
  rw [Lib.index, if_neg (by simp [h])]
  by_cases hm : Lib.index t old = -1
  · simp [hm]
  · rw [if_neg (by simpa using hm), if_neg hm]
theorem replace_cons_no {c : UInt8} {t old new : Bytes} (hne : (old == new) = false) (ho : old ≠ []) (h : old.isPrefixOf (c :: t) = false) :
    Lib.replaceAll (c :: t) old new = c :: Lib.replaceAll t old new := by
  have hi := index_cons_no h
  have hge := Lib.index_ge t old
  by_cases hm : Lib.index t old = -1
  · rw [if_pos hm] at hi
    rw [replace_miss new hi, replace_miss new hm]
  · rw [if_neg hm] at hi
    have h1 : Lib.index t old = ((Lib.index t old).toNat : Nat) := by omega
    have h2 : Lib.index (c :: t) old = (((Lib.index t old).toNat + 1 : Nat) : Int) := by omega
    rw [replace_hit hne ho h1, replace_hit hne ho h2, Nat.add_right_comm]
    simp
theorem replace_cons_yes {t old new : Bytes} (hne : (old == new) = false) (ho : old ≠ []) : Lib.replaceAll (old ++ t) old new = new ++ Lib.replaceAll t old new := by
  have hi : Lib.index (old ++ t) old = (0 : Nat) := by
    cases old with
    | nil => exact absurd rfl ho
    | cons c o => rw [List.cons_append, Lib.index, if_pos (by simp)]; rfl
  rw [replace_hit hne ho hi]
  simp
theorem replace_one (a b : UInt8) (hab : a ≠ b) (l : Bytes) : Lib.replaceAll l [a] [b] = l.map fun c => if c = a then b else c := by
  have hne : (([a] : Bytes) == [b]) = false := by simpa using hab
  induction l with
  | nil => exact replace_nil _ _ (by simp)
  | cons c t ih =>
    by_cases h : c = a
    · subst h
      have := replace_cons_yes (t := t) (old := [c]) (new := [b]) hne (by simp)
      rw [List.singleton_append] at this
      rw [this, ih]; simp
    · rw [replace_cons_no hne (by simp) (by simp [List.isPrefixOf]; exact fun e => h e.symm), ih]; simp [h]
/-- 32 in place of each 9 and 10 -/
def spaces (l : Bytes) : Bytes := l.map fun c => if c = 9 ∨ c = 10 then 32 else c
theorem spaces_eq (l : Bytes) : Lib.replaceAll (Lib.replaceAll l [9] [32]) [10] [32] = spaces l := by
  rw [replace_one 9 32 (by decide), replace_one 10 32 (by decide), List.map_map]
  unfold spaces
  refine List.map_congr_left fun c _ => ?_
  simp only [Function.comp]
  by_cases h : c = 9
  · subst h; simp
  · by_cases h2 : c = 10 <;> simp [h, h2]
/-- lines that end with 10 -/
def lines : Bytes → Bytes
  | [] => []
  | c :: t => if c = 13 then (match t with | [] => [10] | d :: _ => if d = 10 then lines t else 10 :: lines t) else c :: lines t
theorem lines_eq (l : Bytes) : Lib.replaceAll (Lib.replaceAll l [13, 10] [10]) [13] [10] = lines l := by
  rw [replace_one 13 10 (by decide)]
  have hne : (([13, 10] : Bytes) == [10]) = false := by decide
  induction l with
  | nil => rw [replace_nil _ _ (by simp)]; rfl
  | cons c t ih =>
    cases t with
    | nil =>
      rw [replace_cons_no hne (by simp) (by simp [List.isPrefixOf]), replace_nil _ _ (by simp)]
      by_cases h : c = 13
      · subst h; simp [lines]
      · simp [lines, h]
    | cons d r =>
      by_cases h : c = 13
      · subst h
        by_cases h2 : d = 10
        · subst h2
          have h1 := replace_cons_yes (t := r) (old := [13, 10]) (new := [10]) hne (by simp)
          rw [show ([13, 10] : Bytes) ++ r = 13 :: 10 :: r from rfl] at h1
          rw [replace_cons_no hne (by simp) (by simp [List.isPrefixOf])] at ih
          rw [h1]
          simp only [lines, if_pos, List.map_cons] at ih ⊢
          simpa using ih
        · rw [replace_cons_no hne (by simp) (by simp [List.isPrefixOf]; exact fun e => h2 e.symm)]
          rw [List.map_cons, ih]
          simp [lines, h2]
      · rw [replace_cons_no hne (by simp) (by simp [List.isPrefixOf]; exact fun e => absurd e.symm h), List.map_cons, ih]
        simp [lines, h]

/-! ### attributes and pieces: what is read, and how many bytes that has -/
/-- an attribute at the head -/
def attrP (l : Bytes) : Option ((Bytes × Bytes) × Nat) :=
  let n := partN l
  if isName (l.take n) = false then none else
  let a := n + blanksN (l.drop n)
  if Lib.hasPrefix (l.drop a) [61] = false then none else
  let b := a + 1 + blanksN (l.drop (a + 1))
  match (if Lib.hasPrefix (l.drop b) [34] then some (34 : UInt8) else if Lib.hasPrefix (l.drop b) [39] then some 39 else none) with
  | none => none
  | some m =>
    let i := Lib.index (l.drop (b + 1)) [m]
    if i < 0 then none else
    let raw := (l.drop (b + 1)).take i.toNat
    if 0 ≤ Lib.indexByte raw 60 then none else
    if (unescape (spaces raw)).1 = 0 then some ((l.take n, (unescape (spaces raw)).2), b + 1 + i.toNat + 1) else none
/-- a piece of a document -/
structure Tok where
  kind : Nat
  name : Bytes := []
  text : Bytes := []
  attrs : List (Bytes × Bytes) := []
  empty : Bool := false
def plainD : Bytes := [60, 63, 120, 109, 108, 32, 118, 101, 114, 115, 105, 111, 110, 61, 34, 49, 46, 48, 34, 63, 62]
def encodedD : Bytes := [60, 63, 120, 109, 108, 32, 118, 101, 114, 115, 105, 111, 110, 61, 34, 49, 46, 48, 34, 32, 101, 110, 99, 111, 100, 105, 110, 103, 61, 34, 85, 84, 70, 45, 56, 34, 63, 62]
def utf8D : Bytes := [85, 84, 70, 45, 56]
def declP (first : Bool) (l : Bytes) : Option (Tok × Nat) :=
  if first = false then none else if Lib.hasPrefix l plainD then some ({ kind := 1 }, 21) else if Lib.hasPrefix l encodedD then some ({ kind := 1, text := utf8D }, 38) else none
def commentP (l : Bytes) : Option (Tok × Nat) :=
  let i := Lib.index (l.drop 4) [45, 45]
  if i < 0 then none else
  if Lib.hasPrefix (l.drop (4 + i.toNat + 2)) [62] = false then none else some ({ kind := 5, text := (l.drop 4).take i.toNat }, 4 + i.toNat + 2 + 1)
def dataP (l : Bytes) : Option (Tok × Nat) :=
  let i := Lib.index (l.drop 9) [93, 93, 62]
  if i < 0 then none else some ({ kind := 4, text := (l.drop 9).take i.toNat }, 9 + i.toNat + 3)
def endP (l : Bytes) : Option (Tok × Nat) :=
  let n := partN (l.drop 2)
  if isName ((l.drop 2).take n) = false then none else
  let a := 2 + n + blanksN (l.drop (2 + n))
  if Lib.hasPrefix (l.drop a) [62] = false then none else some ({ kind := 3, name := (l.drop 2).take n }, a + 1)
/-- attributes, up to the end of the piece: behind those that are there; so many bytes have been read -/
def attrsF : Nat → List (Bytes × Bytes) → Bytes → Option (List (Bytes × Bytes) × Bool × Nat)
  | 0, _, _ => none
  | f + 1, acc, l =>
    let g := blanksN l
    if Lib.hasPrefix (l.drop g) [62] then some (acc, false, g + 1)
    else if Lib.hasPrefix (l.drop g) [47, 62] then some (acc, true, g + 2)
    else if g = 0 then none else
    match attrP (l.drop g) with
    | none => none
    | some (x, k) => if acc.any (fun y => y.1 == x.1) then none else
      match attrsF f (acc ++ [x]) (l.drop (g + k)) with
      | none => none
      | some (r, e, q) => some (r, e, g + k + q)
def beginP (l : Bytes) : Option (Tok × Nat) :=
  let n := partN (l.drop 1)
  if isName ((l.drop 1).take n) = false then none else
  match attrsF (l.length + 1) [] (l.drop (1 + n)) with
  | none => none
  | some (r, e, q) => some ({ kind := 2, name := (l.drop 1).take n, attrs := r, empty := e }, 1 + n + q)
def wordsP (l : Bytes) : Option (Tok × Nat) :=
  let i := Lib.indexByte l 60
  let raw := if i < 0 then l else l.take i.toNat
  if Lib.contains raw [93, 93, 62] then none else
  if (unescape raw).1 = 0 then some ({ kind := 4, text := (unescape raw).2 }, raw.length) else none
def pieceP (first : Bool) (l : Bytes) : Option (Tok × Nat) :=
  if Lib.hasPrefix l [60, 63, 120, 109, 108] then declP first l
  else if Lib.hasPrefix l [60, 33, 45, 45] then commentP l
  else if Lib.hasPrefix l [60, 33, 91, 67, 68, 65, 84, 65, 91] then dataP l
  else if Lib.hasPrefix l [60, 47] then endP l
  else if Lib.hasPrefix l [60] then beginP l
  else wordsP l
/-- all pieces, or the place (counted from the head) where there is none -/
def allF : Nat → Bool → Nat → List Tok → Bytes → Sum Nat (List Tok)
  | 0, _, _, acc, _ => .inr acc
  | f + 1, first, p, acc, l =>
    if l = [] then .inr acc else
    match pieceP first l with
    | none => .inl p
    | some (t, k) => allF f false (p + k) (acc ++ [t]) (l.drop k)
/-- what All answers: the pieces, the place, the error's number -/
def allP (b : Bytes) : List Tok × Nat × Int :=
  if 65536 < b.length then ([], 0, 17) else
  if chk b < b.length then ([], chk b, 10) else
  match allF ((lines b).length + 1) true 0 [] (lines b) with
  | .inl p => ([], p, 12)
  | .inr l => (l, 0, 0)
end Go.Proofs.YtkehbepopegboaaGreatDoor
