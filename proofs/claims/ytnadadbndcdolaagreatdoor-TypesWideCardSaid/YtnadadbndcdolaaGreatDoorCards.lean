/-
  DERIVED. GIVEN WITH THE SEED: THE CARDS: each row of YtnadadbndcdolaaGreatDoorRows.lean that lists a variable, with what it lists TIED to the program's text (the seventh form; the later family's looks); each row that meets fmt, with fmt's text TOLD by the authors' own Lean function (tested against real Go, not proved from fmt's source: count such statements apart). THE CARD IS WHAT COUNTS. Prove the row's statement (the work); the ties are given (YtnadadbndcdolaaGreatDoorTie.lean); close each card by the builder's one call (the guide's Derived/Test/ToyasCard.lean, 'card_holds'). Laid BY PROGRAM, IN A SANDBOX (cutbox-door.mjs). By AI agents, Wed Nov 11 2026. No macro, syntax, notation, axiom, sorry.
-/
import Derived.Test.YtnadadbndcdolaaGreatDoorRows
import GoSem.ClaimSeven
namespace Go.Proofs.YtnadadbndcdolaaGreatDoor
namespace Rows

/-- THE TIED CARD OF 'spyglasslaw10.TypesMembers'. -/
def typesMembersCard : Claim7 := { stood := { row := typesMembersRow, standIns := [], harness := (true, "52230f284d38c6d187d88b9ee2785ccc4702f0e9b1d12bd0464619cb67a7bb68"), looks := true }, kinds := [], alts := [], laidByText := true, laidKinds := [.data, .data, .data, .data, .data, .pinned], laidTests := true, laidLooks := .later }
def TypesMembersCardSaid : Prop := Claim7.holds Tryz.pinned (.plain (OpenSpec.ofChange typesMembersSpec)) typesMembersCard

/-- THE TIED CARD OF 'spyglasslaw10.TypesWide'. -/
def typesWideCard : Claim7 := { stood := { row := typesWideRow, standIns := [], harness := (true, "52230f284d38c6d187d88b9ee2785ccc4702f0e9b1d12bd0464619cb67a7bb68"), looks := true }, kinds := [], alts := [], laidByText := true, laidKinds := [.data, .data, .data, .data, .data, .pinned], laidTests := true, laidLooks := .later }
def TypesWideCardSaid : Prop := Claim7.holds Tryz.pinned (.plain (OpenSpec.ofChange typesWideSpec)) typesWideCard

/-- THE SECOND FORM's CARD OF 'spyglasslaw10.TypesMembers'. -/
def typesMembersUptoCard : Claim7 := { stood := { row := typesMembersUptoRow, standIns := [], harness := (true, "52230f284d38c6d187d88b9ee2785ccc4702f0e9b1d12bd0464619cb67a7bb68"), looks := true }, kinds := [], alts := [], laidByText := true, laidKinds := [.data, .data, .data, .data, .data, .pinned], laidTests := true, laidLooks := .later }
def TypesMembersUptoCardSaid : Prop := Claim7.holds Tryz.pinned (.plain (OpenSpec.upto typesMembersSpec)) typesMembersUptoCard

/-- THE SECOND FORM's CARD OF 'spyglasslaw10.TypesWide'. -/
def typesWideUptoCard : Claim7 := { stood := { row := typesWideUptoRow, standIns := [], harness := (true, "52230f284d38c6d187d88b9ee2785ccc4702f0e9b1d12bd0464619cb67a7bb68"), looks := true }, kinds := [], alts := [], laidByText := true, laidKinds := [.data, .data, .data, .data, .data, .pinned], laidTests := true, laidLooks := .later }
def TypesWideUptoCardSaid : Prop := Claim7.holds Tryz.pinned (.plain (OpenSpec.upto typesWideSpec)) typesWideUptoCard
end Rows
end Go.Proofs.YtnadadbndcdolaaGreatDoor
