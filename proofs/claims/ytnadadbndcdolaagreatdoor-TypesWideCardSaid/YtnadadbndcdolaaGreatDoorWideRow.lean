/-
  TypesWide: WHATEVER COMES IN, the statement's function returns true, and what came in reads behind the call as it read before. The listed package-level variables are tied to the program's text by the given ties. No further condition.
-/
import Derived.Test.YtnadadbndcdolaaGreatDoorWideRowA
import Derived.Test.YtnadadbndcdolaaGreatDoorRows
import Derived.Test.YtnadadbndcdolaaGreatDoorTie
import Derived.Test.YtnadadbndcdolaaGreatDoorCards
import Derived.SevenTiedAt
set_option linter.unusedVariables false
set_option linter.unusedSimpArgs false
set_option maxRecDepth 100000
set_option maxHeartbeats 0
namespace Go.Proofs.YtnadadbndcdolaaGreatDoor
open Go.RowKit Go.Proofs.Tryz
open Go.RowKit Go.ChangeShapes Go.WideShapes Go.Deep
theorem wa:prog.funcNamed "spyglass/spyglasslaw10.TypesWide" =some 4:=by kernel_rfl
theorem wb:prog.wantsStandIn 24=false:=by kernel_rfl
theorem wc:prog.wantsStandIn 3=false:=by kernel_rfl
theorem wide_card:Rows.TypesWideCardSaid:=
 Claim7.holds_tied_plain_at .later [] _ _ _ _ S9 (fun _ b=>by cases b) aA (fun _ b=>by cases b) typesWide_row_tie rfl ⟨rfl,rfl⟩ aA rfl
  (fun f fn d e=>by
    obtain rfl:f=4:=Option.some.inj (wa.symm.trans d)|>.symm
    obtain rfl:fn=f4:=(Option.some.inj (func4.symm.trans e)).symm;exact⟨aA,fun j t a=>by
     rw[params4]at a;have c:t=24∨t=3:=by
      rcases j with _|_|j
      ·exact .inl (by simpa using a.symm)
      ·exact .inr (by simpa using a.symm)
      ·simp at a
     rcases c with rfl|rfl
     ·exact wb
     ·exact wc⟩)
  aA
#print axioms wide_card
end Go.Proofs.YtnadadbndcdolaaGreatDoor
