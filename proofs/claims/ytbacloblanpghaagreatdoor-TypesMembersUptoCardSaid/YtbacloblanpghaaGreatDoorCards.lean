/-
  DERIVED. GIVEN WITH THE SEED: THE CARDS: each row of YtbacloblanpghaaGreatDoorRows.lean that lists a variable, with what it lists TIED to the program's text (the seventh form; the later family's looks); each row that meets fmt, with fmt's text TOLD by the authors' own Lean function (tested against real Go, not proved from fmt's source: count such statements apart). THE CARD IS WHAT COUNTS. Prove the row's statement (the work); the ties are given (YtbacloblanpghaaGreatDoorTie.lean); close each card by the builder's one call (the guide's Derived/Test/ToyasCard.lean, 'card_holds'). Laid BY PROGRAM, IN A SANDBOX (cutbox-door.mjs). By AI agents, Wed Nov 11 2026. No macro, syntax, notation, axiom, sorry.
-/
import Derived.Test.YtbacloblanpghaaGreatDoorRows
import GoSem.ClaimSeven
namespace Go.Proofs.YtbacloblanpghaaGreatDoor
namespace Rows

/-- THE TIED CARD OF 'spyglasslaw10.TypesMembers'. -/
def typesMembersCard : Claim7 := { stood := { row := typesMembersRow, standIns := [], harness := (true, "8a4cce8c2e1eb81140f7faf3f5f2068b4e2e10d77168fbc9a490807cee7f9966"), looks := true }, kinds := [], alts := [], laidByText := true, laidKinds := [.data, .data, .data, .data, .data, .pinned], laidTests := true, laidLooks := .later }
def TypesMembersCardSaid : Prop := Claim7.holds Tryz.pinned (.plain (OpenSpec.ofChange typesMembersSpec)) typesMembersCard

/-- THE TIED CARD OF 'spyglasslaw10.TypesLeast'. -/
def typesLeastCard : Claim7 := { stood := { row := typesLeastRow, standIns := [], harness := (true, "8a4cce8c2e1eb81140f7faf3f5f2068b4e2e10d77168fbc9a490807cee7f9966"), looks := true }, kinds := [], alts := [], laidByText := true, laidKinds := [.data, .data, .data, .data, .data, .pinned], laidTests := true, laidLooks := .later }
def TypesLeastCardSaid : Prop := Claim7.holds Tryz.pinned (.plain (OpenSpec.ofChange typesLeastSpec)) typesLeastCard

/-- THE SECOND FORM's CARD OF 'spyglasslaw10.TypesMembers'. -/
def typesMembersUptoCard : Claim7 := { stood := { row := typesMembersUptoRow, standIns := [], harness := (true, "8a4cce8c2e1eb81140f7faf3f5f2068b4e2e10d77168fbc9a490807cee7f9966"), looks := true }, kinds := [], alts := [], laidByText := true, laidKinds := [.data, .data, .data, .data, .data, .pinned], laidTests := true, laidLooks := .later }
def TypesMembersUptoCardSaid : Prop := Claim7.holds Tryz.pinned (.plain (OpenSpec.upto typesMembersSpec)) typesMembersUptoCard

/-- THE SECOND FORM's CARD OF 'spyglasslaw10.TypesLeast'. -/
def typesLeastUptoCard : Claim7 := { stood := { row := typesLeastUptoRow, standIns := [], harness := (true, "8a4cce8c2e1eb81140f7faf3f5f2068b4e2e10d77168fbc9a490807cee7f9966"), looks := true }, kinds := [], alts := [], laidByText := true, laidKinds := [.data, .data, .data, .data, .data, .pinned], laidTests := true, laidLooks := .later }
def TypesLeastUptoCardSaid : Prop := Claim7.holds Tryz.pinned (.plain (OpenSpec.upto typesLeastSpec)) typesLeastUptoCard
end Rows
end Go.Proofs.YtbacloblanpghaaGreatDoor
