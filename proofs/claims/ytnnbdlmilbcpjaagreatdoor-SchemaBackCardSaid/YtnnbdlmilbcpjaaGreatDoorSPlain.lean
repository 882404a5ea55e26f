/-
  The plain functions of layers 7 and 9 (regular expressions, schemas) on lists: what Check, Symbols, Find and Child compute: no program in sight. No condition.
-/
import Derived.Test.YtnnbdlmilbcpjaaGreatDoorNamesPlain
namespace Go.Proofs.YtnnbdlmilbcpjaaGreatDoor
set_option linter.unusedVariables false
/-- a node of a regular expression -/
structure SNode where
  op : Int
  sym : Bytes
  a : Int
  b : Int
/-- a type of a schema -/
structure SType where
  name : Bytes
  label : Bytes
  attrs : List Bytes
  key : Bytes
  text : Bool
  nodes : List SNode
/-- a part stands ahead of a place -/
def partOk (i : Nat) (x : Int) : Bool := decide (0 ≤ x) && decide (x < (i : Int))
/-- a node at a place may be -/
def nodeOk (i : Nat) (n : SNode) : Bool :=
  if n.op = 0 ∨ n.op = 1 then n.sym.isEmpty && decide (n.a = 0) && decide (n.b = 0)
  else if n.op = 2 then decide (n.a = 0) && decide (n.b = 0)
  else if n.op = 3 ∨ n.op = 4 then n.sym.isEmpty && partOk i n.a && partOk i n.b
  else if n.op = 5 then n.sym.isEmpty && partOk i n.a && decide (n.b = 0)
  else false
/-- the places of a node's parts -/
def refsN (n : SNode) : List Nat := if n.op = 3 ∨ n.op = 4 then [n.a.toNat, n.b.toNat] else if n.op = 5 then [n.a.toNat] else []
/-- so many parts of these nodes stand at a place -/
def usedS (l : List SNode) (j : Nat) : Nat := (l.flatMap refsN).count j
def nodesOk : Nat → List SNode → Bool
  | _, [] => true
  | i, n :: l => nodeOk i n && nodesOk (i + 1) l
/-- nodes may be a regular expression, but for the words -/
def formedS (l : List SNode) : Bool := nodesOk 0 l && (List.range (l.length - 1)).all (fun j => usedS l j == 1) && !l.isEmpty
/-- what is wrong with a regular expression -/
def regexE (l : List SNode) : Int := if 1024 < l.length then 17 else if formedS l = false then 12 else if l.any (fun n => decide (n.op = 2) && !isName n.sym) = true then 11 else 0
theorem nodesOk_append (i : Nat) (a b : List SNode) : nodesOk i (a ++ b) = (nodesOk i a && nodesOk (i + a.length) b) := by
  induction a generalizing i with
  | nil => simp [nodesOk]
  | cons n t ih =>
    simp only [List.cons_append, nodesOk, ih, List.length_cons, Bool.and_assoc]
    rw [show i + 1 + t.length = i + (t.length + 1) by omega]
theorem nodesOk_snoc {l : List SNode} {k : Nat} {n : SNode} (h : l[k]? = some n) : nodesOk 0 (l.take (k + 1)) = (nodesOk 0 (l.take k) && nodeOk k n) := by
  have hk := (List.getElem?_eq_some_iff.1 h).1
  rw [List.take_add_one, h, Option.toList_some, nodesOk_append, List.length_take, Nat.min_eq_left (by omega), Nat.zero_add]
  simp [nodesOk]
theorem usedS_snoc {l : List SNode} {k : Nat} {n : SNode} (h : l[k]? = some n) (j : Nat) : usedS (l.take (k + 1)) j = usedS (l.take k) j + (refsN n).count j := by
  unfold usedS
  rw [List.take_add_one, h, Option.toList_some, List.flatMap_append, List.count_append]
  simp
theorem nodesOk_no {l : List SNode} {k : Nat} {n : SNode} (h : l[k]? = some n) (hn : nodeOk k n = false) : formedS l = false := by
  have h1 : nodesOk 0 (l.take (k + 1)) = false := by rw [nodesOk_snoc h, hn, Bool.and_false]
  have h2 : nodesOk 0 l = (nodesOk 0 (l.take (k + 1)) && nodesOk (0 + (l.take (k + 1)).length) (l.drop (k + 1))) := by
    conv => lhs; rw [← List.take_append_drop (k + 1) l]
    rw [nodesOk_append]
  unfold formedS
  rw [h2, h1]
  simp
/-! ### words that stand in a content, rising; types, by their names; children -/
/-- one of equal neighbours -/
def compactB : List Bytes → List Bytes
  | [] => []
  | [a] => [a]
  | a :: b :: t => if a = b then compactB (b :: t) else a :: compactB (b :: t)
def leS (x y : Bytes) : Bool := decide (x ≤ y)
def symsOf (l : List SNode) : List Bytes := l.filterMap fun n => if n.op = 2 then some n.sym else none
def symsS (l : List SNode) : List Bytes := if regexE l = 0 then compactB ((symsOf l).mergeSort leS) else []
/-- the place of the last type of a name -/
def placeF : Nat → List SType → Bytes → Option Nat → Option Nat
  | _, [], _, r => r
  | i, t :: ts, n, r => placeF (i + 1) ts n (if t.name = n then some i else r)
def placeS (ts : List SType) (n : Bytes) : Option Nat := placeF 0 ts n none
/-- the places of the types that stand in a content -/
def kidsS (ts : List SType) (t : SType) : List Nat := (symsS t.nodes).map fun n => (placeS ts n).getD 0
def unnamedS (t : SType) : Bool := !isName t.name || !isName t.label || t.attrs.any (fun a => !isName a) || (!t.key.isEmpty && !isName t.key)
/-- a row does not rise -/
def fallsS : List Bytes → Bool
  | [] => false
  | [_] => false
  | a :: b :: t => leS b a || fallsS (b :: t)
def labelAt (ts : List SType) (k : Nat) : Bytes := match ts[k]? with | some t => t.label | none => []
def attrsAt (ts : List SType) (k : Nat) : List Bytes := match ts[k]? with | some t => t.attrs | none => []
def twiceB : List Bytes → Bool
  | [] => false
  | a :: t => t.contains a || twiceB t
/-- what is wrong with the contents -/
def contentE : List SType → Int
  | [] => 0
  | t :: ts => if t.text = false ∧ regexE t.nodes ≠ 0 then regexE t.nodes else contentE ts
/-- what is wrong with a schema -/
def chkS (ts : List SType) : Int :=
  if 64 < ts.length then 17 else if ts.length = 0 then 18 else if ts.any unnamedS = true then 11 else
  if twiceB (ts.map SType.name) = true then 15 else if ts.any (fun t => fallsS t.attrs) = true then 14 else
  if ts.any (fun t => t.text && (!t.nodes.isEmpty || !t.key.isEmpty)) = true then 12 else
  if contentE ts ≠ 0 then contentE ts else
  if ts.any (fun t => (symsS t.nodes).any fun n => (placeS ts n).isNone) = true then 16 else
  if ts.any (fun t => twiceB ((kidsS ts t).map (labelAt ts))) = true then 24 else
  if ts.any (fun t => !t.key.isEmpty && !(kidsS ts t).any fun k => (attrsAt ts k).contains t.key) = true then 23 else 0
/-- what Find answers -/
def findS (ts : List SType) (n : Bytes) : Int × Int := if chkS ts = 0 then (match placeS ts n with | some k => ((k : Int), 0) | none => (0, 16)) else (0, chkS ts)
/-- what Child answers -/
def childS (ts : List SType) (n label : Bytes) : Int × Int :=
  if chkS ts = 0 then (match placeS ts n with
    | none => (0, 16)
    | some k => match ts[k]? with
      | none => (0, 16)
      | some t => match (kidsS ts t).find? (fun j => labelAt ts j == label) with | some j => ((j : Int), 0) | none => (0, 16))
  else (0, chkS ts)
end Go.Proofs.YtnnbdlmilbcpjaaGreatDoor
