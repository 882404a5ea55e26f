/-
  TypesLeast: WHATEVER COMES IN, the statement's function returns true, and what came in reads behind the call as it read before. The listed package-level variables are tied to the program's text by the given ties. No further condition.
-/
import Derived.Test.YtfeidcmojcijpaaGreatDoorLeastRowA
import Derived.Test.YtfeidcmojcijpaaGreatDoorRows
import Derived.Test.YtfeidcmojcijpaaGreatDoorTie
import Derived.Test.YtfeidcmojcijpaaGreatDoorCards
import Derived.SevenTiedAt
set_option linter.all false
set_option maxRecDepth 100000
set_option maxHeartbeats 0
namespace Go.Proofs.YtfeidcmojcijpaaGreatDoor
open Go.RowKit Go.Proofs.Tryz
open Go.RowKit Go.ChangeShapes Go.WideShapes Go.Deep
def Wo:prog.funcNamed "spyglass/spyglasslaw10.TypesLeast" =some 3:=az
def Wp:prog.wantsStandIn 24=false:=az
def Wq:prog.wantsStandIn 9=false:=az
theorem least_card:Rows.TypesLeastCardSaid:=
 Claim7.holds_tied_plain_at .later [] _ _ _ _ Wn (fun _ b=>by cases b) az (fun _ b=>by cases b) typesLeast_row_tie rfl ⟨rfl,rfl⟩ az rfl
  (fun f fn d e=>by
    obtain rfl:f=3:=Option.some.inj (Wo.zy.Z d)|>.zy
    obtain rfl:fn=f3:=(Option.some.inj (func3.zy.Z e)).zy;exact⟨az,fun j t a=>by
     rw[params3]at a;have c:t=24∨t=9:=by
      rcases j with _|_|j
      exact .inl (by simpa using a.zy);exact .inr (by simpa using a.zy);simp at a
     rcases c with rfl|rfl
     exact Wp;exact Wq⟩)
  az
#print axioms least_card
end Go.Proofs.YtfeidcmojcijpaaGreatDoor
