/-
  The plain functions of layer 2 (names) on lists of bytes: no program in sight. No condition.
-/
import Derived.Test.YtnnbdlmilbcpjaaGreatDoorPlain
namespace Go.Proofs.YtnnbdlmilbcpjaaGreatDoor
/-- kinds of bytes -/
def letterB (c : Int) : Bool := decide ((97 ≤ c ∧ c ≤ 122) ∨ (65 ≤ c ∧ c ≤ 90) ∨ c = 95)
def decB (c : Int) : Bool := decide (48 ≤ c ∧ c ≤ 57)
def partB (c : Int) : Bool := letterB c || decB c || decide (c = 45 ∨ c = 46)
def blankB (c : Int) : Bool := decide (c = 9 ∨ c = 10 ∨ c = 13 ∨ c = 32)
def hexB (c : Int) : Bool := decB c || decide ((97 ≤ c ∧ c ≤ 102) ∨ (65 ≤ c ∧ c ≤ 70))
/-- all bytes are of a kind -/
def allB (k : Int → Bool) (l : Bytes) : Bool := l.all fun c => k (c.toNat : Nat)
/-- a digit's number -/
def digV (c : Int) : Int := if c ≤ 57 then c - 48 else if c ≤ 70 then c - 55 else c - 87
/-- what digits tell by a base -/
def valB (base : Int) : Int → Bytes → Int
  | a, [] => a
  | a, c :: l => valB base (a * base + digV (c.toNat : Nat)) l
/-- a name -/
def isName (l : Bytes) : Bool := decide (1 ≤ l.length ∧ l.length ≤ 64) && letterB ((l.headD 0).toNat : Nat) && allB partB l
end Go.Proofs.YtnnbdlmilbcpjaaGreatDoor
