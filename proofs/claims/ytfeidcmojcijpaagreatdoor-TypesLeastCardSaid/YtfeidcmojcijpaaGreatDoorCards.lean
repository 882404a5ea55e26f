/-
  DERIVED. GIVEN WITH THE SEED: THE CARDS: each row of YtfeidcmojcijpaaGreatDoorRows.lean that lists a variable, with what it lists TIED to the program's text (the seventh form; the later family's looks); each row that meets fmt, with fmt's text TOLD by the authors' own Lean function (tested against real Go, not proved from fmt's source: count such statements apart). THE CARD IS WHAT COUNTS. Prove the row's statement (the work); the ties are given (YtfeidcmojcijpaaGreatDoorTie.lean); close each card by the builder's one call (the guide's Derived/Test/ToyasCard.lean, 'card_holds'). Laid BY PROGRAM, IN A SANDBOX (cutbox-door.mjs). By AI agents, Wed Nov 11 2026. No macro, syntax, notation, axiom, sorry.
-/
import Derived.Test.YtfeidcmojcijpaaGreatDoorRows
import GoSem.ClaimSeven
namespace Go.Proofs.YtfeidcmojcijpaaGreatDoor
namespace Rows

/-- THE TIED CARD OF 'spyglasslaw10.TypesLeast'. -/
def typesLeastCard : Claim7 := { stood := { row := typesLeastRow, standIns := [], harness := (true, "9570f485c06821cc122d7530d5d22cf28a58f5b23feabba1fd8add979c47bc40"), looks := true }, kinds := [], alts := [], laidByText := true, laidKinds := [.data, .data, .data, .data, .data, .pinned], laidTests := true, laidLooks := .later }
def TypesLeastCardSaid : Prop := Claim7.holds Tryz.pinned (.plain (OpenSpec.ofChange typesLeastSpec)) typesLeastCard

/-- THE SECOND FORM's CARD OF 'spyglasslaw10.TypesLeast'. -/
def typesLeastUptoCard : Claim7 := { stood := { row := typesLeastUptoRow, standIns := [], harness := (true, "9570f485c06821cc122d7530d5d22cf28a58f5b23feabba1fd8add979c47bc40"), looks := true }, kinds := [], alts := [], laidByText := true, laidKinds := [.data, .data, .data, .data, .data, .pinned], laidTests := true, laidLooks := .later }
def TypesLeastUptoCardSaid : Prop := Claim7.holds Tryz.pinned (.plain (OpenSpec.upto typesLeastSpec)) typesLeastUptoCard
end Rows
end Go.Proofs.YtfeidcmojcijpaaGreatDoor
