/-
  DERIVED. GIVEN WITH THE SEED: THE CARDS: each row of YtnnbdlmilbcpjaaGreatDoorRows.lean that lists a variable, with what it lists TIED to the program's text (the seventh form; the later family's looks); each row that meets fmt, with fmt's text TOLD by the authors' own Lean function (tested against real Go, not proved from fmt's source: count such statements apart). THE CARD IS WHAT COUNTS. Prove the row's statement (the work); the ties are given (YtnnbdlmilbcpjaaGreatDoorTie.lean); close each card by the builder's one call (the guide's Derived/Test/ToyasCard.lean, 'card_holds'). Laid BY PROGRAM, IN A SANDBOX (cutbox-door.mjs). By AI agents, Wed Nov 11 2026. No macro, syntax, notation, axiom, sorry.
-/
import Derived.Test.YtnnbdlmilbcpjaaGreatDoorRows
import GoSem.ClaimSeven
namespace Go.Proofs.YtnnbdlmilbcpjaaGreatDoor
namespace Rows

/-- THE TIED CARD OF 'spyglasslaw09.SchemaFinds'. -/
def schemaFindsCard : Claim7 := { stood := { row := schemaFindsRow, standIns := [], harness := (true, "1dc49f45932a6aa3c811f670b4cf6089820340aba73e94b42f13877beac16fa3"), looks := false }, kinds := [], alts := [], laidByText := true, laidKinds := [.data, .pinned], laidTests := true, laidLooks := .later }
def SchemaFindsCardSaid : Prop := Claim7.holds Tryz.pinned (.plain (OpenSpec.ofChange schemaFindsSpec)) schemaFindsCard

/-- THE TIED CARD OF 'spyglasslaw09.SchemaKids'. -/
def schemaKidsCard : Claim7 := { stood := { row := schemaKidsRow, standIns := [], harness := (true, "1dc49f45932a6aa3c811f670b4cf6089820340aba73e94b42f13877beac16fa3"), looks := false }, kinds := [], alts := [], laidByText := true, laidKinds := [.data, .pinned], laidTests := true, laidLooks := .later }
def SchemaKidsCardSaid : Prop := Claim7.holds Tryz.pinned (.plain (OpenSpec.ofChange schemaKidsSpec)) schemaKidsCard

/-- THE TIED CARD OF 'spyglasslaw09.SchemaBack'. -/
def schemaBackCard : Claim7 := { stood := { row := schemaBackRow, standIns := [], harness := (true, "1dc49f45932a6aa3c811f670b4cf6089820340aba73e94b42f13877beac16fa3"), looks := false }, kinds := [], alts := [], laidByText := true, laidKinds := [.data, .pinned], laidTests := true, laidLooks := .later }
def SchemaBackCardSaid : Prop := Claim7.holds Tryz.pinned (.plain (OpenSpec.ofChange schemaBackSpec)) schemaBackCard

/-- THE SECOND FORM's CARD OF 'spyglasslaw09.SchemaFinds'. -/
def schemaFindsUptoCard : Claim7 := { stood := { row := schemaFindsUptoRow, standIns := [], harness := (true, "1dc49f45932a6aa3c811f670b4cf6089820340aba73e94b42f13877beac16fa3"), looks := false }, kinds := [], alts := [], laidByText := true, laidKinds := [.data, .pinned], laidTests := true, laidLooks := .later }
def SchemaFindsUptoCardSaid : Prop := Claim7.holds Tryz.pinned (.plain (OpenSpec.upto schemaFindsSpec)) schemaFindsUptoCard

/-- THE SECOND FORM's CARD OF 'spyglasslaw09.SchemaKids'. -/
def schemaKidsUptoCard : Claim7 := { stood := { row := schemaKidsUptoRow, standIns := [], harness := (true, "1dc49f45932a6aa3c811f670b4cf6089820340aba73e94b42f13877beac16fa3"), looks := false }, kinds := [], alts := [], laidByText := true, laidKinds := [.data, .pinned], laidTests := true, laidLooks := .later }
def SchemaKidsUptoCardSaid : Prop := Claim7.holds Tryz.pinned (.plain (OpenSpec.upto schemaKidsSpec)) schemaKidsUptoCard

/-- THE SECOND FORM's CARD OF 'spyglasslaw09.SchemaBack'. -/
def schemaBackUptoCard : Claim7 := { stood := { row := schemaBackUptoRow, standIns := [], harness := (true, "1dc49f45932a6aa3c811f670b4cf6089820340aba73e94b42f13877beac16fa3"), looks := false }, kinds := [], alts := [], laidByText := true, laidKinds := [.data, .pinned], laidTests := true, laidLooks := .later }
def SchemaBackUptoCardSaid : Prop := Claim7.holds Tryz.pinned (.plain (OpenSpec.upto schemaBackSpec)) schemaBackUptoCard
end Rows
end Go.Proofs.YtnnbdlmilbcpjaaGreatDoor
