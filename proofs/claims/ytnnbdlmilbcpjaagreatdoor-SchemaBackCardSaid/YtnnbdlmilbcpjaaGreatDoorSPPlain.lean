/-
  The plain functions of layers 7 and 9 that read texts: what regex.Parse and schema.Parse compute: no program in sight. No condition.
-/
import Derived.Test.YtnnbdlmilbcpjaaGreatDoorSPlain
namespace Go.Proofs.YtnnbdlmilbcpjaaGreatDoor
set_option linter.unusedVariables false
def blankU (c : UInt8) : Bool := blankB (c.toNat : Nat)
def partU (c : UInt8) : Bool := partB (c.toNat : Nat)
/-- so many blanks stand at the head -/
def blanksN (l : Bytes) : Nat := (l.takeWhile blankU).length
/-- so many bytes that names may have stand at the head -/
def partN (l : Bytes) : Nat := (l.takeWhile partU).length
theorem blanksN_le (l : Bytes) : blanksN l ≤ l.length := by unfold blanksN; exact (List.takeWhile_sublist _).length_le
theorem partN_le (l : Bytes) : partN l ≤ l.length := by unfold partN; exact (List.takeWhile_sublist _).length_le
theorem take_partN (l : Bytes) : l.take (partN l) = l.takeWhile partU := by
  unfold partN
  induction l with
  | nil => rfl
  | cons c t ih =>
    by_cases h : partU c = true
    · rw [List.takeWhile_cons_of_pos (by simpa using h)]; simp [ih]
    · rw [List.takeWhile_cons_of_neg (by simpa using h)]; rfl
/-- where reading is, whether a word was too long, whether a part had too many nodes -/
structure RSt where
  p : Nat
  long : Bool
  big : Bool
abbrev PartR := Option (List SNode × RSt)
def blanksAt (l : Bytes) (p : Nat) : Nat := p + blanksN (l.drop p)
/-- a mark behind blanks, and where reading is then -/
def markB (l : Bytes) (c : UInt8) (p : Nat) : Bool := l[blanksAt l p]? == some c
def markP (l : Bytes) (c : UInt8) (p : Nat) : Nat := if markB l c p then blanksAt l p + 1 else blanksAt l p
def noneN : SNode := ⟨0, [], 0, 0⟩
def emptyN : SNode := ⟨1, [], 0, 0⟩
def movedS (by_ : Nat) (n : SNode) : SNode := if n.op = 3 ∨ n.op = 4 then { n with a := n.a + by_, b := n.b + by_ } else if n.op = 5 then { n with a := n.a + by_ } else n
/-- parts made one by nodes of an op, behind what there is -/
def foldGo (op : Int) : Nat → List SNode → List (List SNode) → List SNode
  | _, out, [] => out
  | i, out, p :: ps => foldGo op (i + 1) (if i = 0 then out ++ p.map (movedS out.length) else out ++ p.map (movedS out.length) ++ [⟨op, [], (out.length : Int) - 1, ((out ++ p.map (movedS out.length)).length : Int) - 1⟩]) ps
def sumS (parts : List (List SNode)) : Nat := (parts.map List.length).sum
def foldS (op none_ : Int) (parts : List (List SNode)) : Option (List SNode) :=
  if parts = [] then some [⟨none_, [], 0, 0⟩] else if 1024 < parts.length - 1 + sumS parts then none else some (foldGo op 0 [] parts)
/-- what is kept of nodes, and whether they were too many -/
def keepS (big : Bool) (r : Option (List SNode)) : List SNode × Bool :=
  match r with
  | none => ([noneN], true)
  | some l => if big = true ∨ 1024 < l.length then ([noneN], true) else (l, false)
def manyS (l : List SNode) : List SNode := l ++ [⟨5, [], (l.length : Int) - 1, 0⟩]
/-- parts with a mark between each two -/
def rowS (l : Bytes) (c : UInt8) (op none_ : Int) (part : RSt → PartR) : Nat → List (List SNode) → RSt → PartR
  | 0, _, _ => none
  | f + 1, parts, st =>
    match part st with
    | none => none
    | some (ns, st1) =>
      if markB l c st1.p then rowS l c op none_ part f (parts ++ [ns]) { st1 with p := markP l c st1.p }
      else if parts = [] then some (ns, { st1 with p := markP l c st1.p })
      else some ((keepS st1.big (foldS op none_ (parts ++ [ns]))).1, { p := markP l c st1.p, long := st1.long, big := (keepS st1.big (foldS op none_ (parts ++ [ns]))).2 })
/-- the marks behind an atom -/
def marksS (l : Bytes) : Nat → List SNode → RSt → List SNode × RSt
  | 0, ns, st => (ns, st)
  | f + 1, ns, st =>
    if markB l 42 st.p then marksS l f (keepS st.big (some (manyS ns))).1 { st with p := markP l 42 st.p, big := (keepS st.big (some (manyS ns))).2 }
    else if markB l 43 (markP l 42 st.p) then marksS l f (keepS st.big (foldS 3 1 [ns, manyS ns])).1 { st with p := markP l 43 (markP l 42 st.p), big := (keepS st.big (foldS 3 1 [ns, manyS ns])).2 }
    else if markB l 63 (markP l 43 (markP l 42 st.p)) then marksS l f (keepS st.big (foldS 4 0 [ns, [emptyN]])).1 { st with p := markP l 63 (markP l 43 (markP l 42 st.p)), big := (keepS st.big (foldS 4 0 [ns, [emptyN]])).2 }
    else (ns, { st with p := markP l 63 (markP l 43 (markP l 42 st.p)) })
/-- the word that stands at a place; none: nothing -/
def wordAt (l : Bytes) (q : Nat) : Bytes :=
  match l[q]? with
  | none => []
  | some x => if isName [x] then (l.drop q).takeWhile partU else []
def atomS (l : Bytes) (E : RSt → PartR) (st : RSt) : PartR :=
  if markB l 33 st.p then some ([noneN], { st with p := markP l 33 st.p })
  else if markB l 40 (markP l 33 st.p) then
    (if markB l 41 (markP l 40 (markP l 33 st.p)) then some ([emptyN], { st with p := markP l 41 (markP l 40 (markP l 33 st.p)) })
     else match E { st with p := markP l 41 (markP l 40 (markP l 33 st.p)) } with
      | none => none
      | some (ns, st1) => if markB l 41 st1.p then some (ns, { st1 with p := markP l 41 st1.p }) else none)
  else if wordAt l (markP l 40 (markP l 33 st.p)) = [] then none
  else some ([⟨2, wordAt l (markP l 40 (markP l 33 st.p)), 0, 0⟩], { p := markP l 40 (markP l 33 st.p) + (wordAt l (markP l 40 (markP l 33 st.p))).length, long := st.long || !isName (wordAt l (markP l 40 (markP l 33 st.p))), big := st.big })
def itemS (l : Bytes) (E : RSt → PartR) (st : RSt) : PartR :=
  match atomS l E st with
  | none => none
  | some (ns, st1) => some (marksS l (l.length + 1) ns st1)
def seqS (l : Bytes) (E : RSt → PartR) (st : RSt) : PartR := rowS l 44 3 1 (itemS l E) (l.length + 1) [] st
def exprS (l : Bytes) : Nat → RSt → PartR
  | 0, _ => none
  | n + 1, st => rowS l 124 4 0 (seqS l (exprS l n)) (l.length + 1) [] st
/-- regex.Parse: the nodes, and what is wrong -/
def regexP (l : Bytes) : List SNode × Int :=
  if 65536 < l.length then ([], 17) else
  match exprS l (l.length + 1) ⟨0, false, false⟩ with
  | none => ([], 12)
  | some (ns, st) => if blanksAt l st.p < l.length then ([], 12) else if st.long then ([], 11) else if st.big then ([], 17) else (ns, 0)
/-! ### lines of a schema -/
def nextL (r : Bytes) : Bytes := r.dropWhile blankU
def inWord (c : UInt8) : Bool := !(blankU c || c == 123)
def wordW (r : Bytes) : Bytes := (nextL r).takeWhile inWord
def wordR (r : Bytes) : Bytes := (nextL r).dropWhile inWord
def attrW (r : Bytes) : Bytes := match wordW r with | [] => [] | c :: t => if c = 64 then t else c :: t
def attrB (r : Bytes) : Bool := match wordW r with | [] => false | c :: t => if c = 64 then isName t else false
/-- attributes, and what is left; none: one is none -/
def attrsL : Nat → List Bytes → Bytes → Option (List Bytes × Bytes)
  | 0, acc, r => some (acc, nextL r)
  | f + 1, acc, r => if (nextL r).head? = some 64 then (if attrB (nextL r) then attrsL f (acc ++ [attrW (nextL r)]) (wordR (nextL r)) else none) else some (acc, nextL r)
def typeW : Bytes := [116, 121, 112, 101]
def keyW : Bytes := [107, 101, 121]
def textW : Bytes := [116, 101, 120, 116]
/-- what stands between braces; and whether it is closed -/
def trimR (r : Bytes) : Bytes := (r.reverse.dropWhile blankU).reverse
def closedB (r : Bytes) : Bool := (trimR (r.drop 1)).getLast? == some 125
def insideL (r : Bytes) : Bytes := if closedB r then (trimR (r.drop 1)).dropLast else trimR (r.drop 1)
/-- the Key, and what is left -/
def keyL (r : Bytes) : Option (Bytes × Bytes) := if wordW r = keyW then (if attrB (wordR r) then some (attrW (wordR r), wordR (wordR r)) else none) else some ([], r)
/-- what is in the elements -/
def contentL (r : Bytes) : Option (Bool × List SNode) :=
  if (nextL r).head? = some 123 then (if closedB (nextL r) && decide ((regexP (insideL (nextL r))).2 = 0) then some (false, (regexP (insideL (nextL r))).1) else none)
  else if wordW r = textW ∧ (wordR r).all blankU = true then some (true, []) else none
/-- a line's type -/
def readL (s : Bytes) : Option SType :=
  if wordW s ≠ typeW then none else
  let r1 := wordR s
  if isName (wordW r1) = false then none else
  let r2 := wordR r1
  if wordW r2 ≠ [61] then none else
  let r3 := wordR r2
  if isName (wordW r3) = false then none else
  match attrsL (wordR r3).length [] (wordR r3) with
  | none => none
  | some (as, r4) => match keyL r4 with
    | none => none
    | some (k, r5) => match contentL r5 with
      | none => none
      | some (t, ns) => some ⟨wordW r1, wordW r3, as, k, t, ns⟩
/-- lines, each up to a byte 10 or the end -/
def linesL : Bytes → List Bytes
  | [] => [[]]
  | c :: t => if c = 10 then [] :: linesL t else match linesL t with | [] => [[c]] | h :: r => (c :: h) :: r
def countsL (s : Bytes) : Bool := !s.all blankU && (nextL s).head? != some 35
/-- the types of lines, or the number of the first one that is none -/
def typesL : Nat → List SType → List Bytes → List SType × Nat
  | _, acc, [] => (acc, 0)
  | n, acc, s :: r => if countsL s then (match readL s with | some t => typesL (n + 1) (acc ++ [t]) r | none => (acc, n + 1)) else typesL (n + 1) acc r
/-- schema.Parse -/
def parseL (s : Bytes) : List SType × Nat × Int :=
  if 65536 < s.length then ([], 0, 17) else
  if (typesL 0 [] (linesL s)).2 ≠ 0 then ([], (typesL 0 [] (linesL s)).2, 12) else
  if chkS (typesL 0 [] (linesL s)).1 ≠ 0 then ([], 0, chkS (typesL 0 [] (linesL s)).1) else ((typesL 0 [] (linesL s)).1, 0, 0)
end Go.Proofs.YtnnbdlmilbcpjaaGreatDoor
