/-
  DERIVED. GIVEN WITH THE SEED: THE CARDS: each row of YtlhjonbjbiafaaaGreatDoorRows.lean that lists a variable, with what it lists TIED to the program's text (the seventh form; the later family's looks); each row that meets fmt, with fmt's text TOLD by the authors' own Lean function (tested against real Go, not proved from fmt's source: count such statements apart). THE CARD IS WHAT COUNTS. Prove the row's statement (the work); the ties are given (YtlhjonbjbiafaaaGreatDoorTie.lean); close each card by the builder's one call (the guide's Derived/Test/ToyasCard.lean, 'card_holds'). Laid BY PROGRAM, IN A SANDBOX (cutbox-door.mjs). By AI agents, Wed Nov 11 2026. No macro, syntax, notation, axiom, sorry.
-/
import Derived.Test.YtlhjonbjbiafaaaGreatDoorRows
import GoSem.ClaimSeven
namespace Go.Proofs.YtlhjonbjbiafaaaGreatDoor
namespace Rows

/-- THE TIED CARD OF 'sealwrighttop.TopAlternatives'. -/
def topAlternativesCard : Claim7 := { stood := { row := topAlternativesRow, standIns := [], harness := (true, "c8c0222e43d7616cf0a624281a4b1c095cd8b732f3e52d48fa91a6e7add95932"), looks := false }, kinds := [], alts := [], laidByText := true, laidKinds := [.data, .widerDeep, .data, .data, .pinned], laidTests := true, laidLooks := .later }
def TopAlternativesCardSaid : Prop := Claim7.holds Tryz.pinned (.plain (OpenSpec.ofChange topAlternativesSpec)) topAlternativesCard

/-- THE TIED CARD OF 'sealwrighttop.TopTrial'. -/
def topTrialCard : Claim7 := { stood := { row := topTrialRow, standIns := [], harness := (true, "c8c0222e43d7616cf0a624281a4b1c095cd8b732f3e52d48fa91a6e7add95932"), looks := false }, kinds := [], alts := [], laidByText := true, laidKinds := [.data, .widerDeep, .data, .data, .pinned], laidTests := true, laidLooks := .later }
def TopTrialCardSaid : Prop := Claim7.holds Tryz.pinned (.plain (OpenSpec.ofChange topTrialSpec)) topTrialCard

/-- THE SECOND FORM's CARD OF 'sealwrighttop.TopAlternatives'. -/
def topAlternativesUptoCard : Claim7 := { stood := { row := topAlternativesUptoRow, standIns := [], harness := (true, "c8c0222e43d7616cf0a624281a4b1c095cd8b732f3e52d48fa91a6e7add95932"), looks := false }, kinds := [], alts := [], laidByText := true, laidKinds := [.data, .widerDeep, .data, .data, .pinned], laidTests := true, laidLooks := .later }
def TopAlternativesUptoCardSaid : Prop := Claim7.holds Tryz.pinned (.plain (OpenSpec.upto topAlternativesSpec)) topAlternativesUptoCard

/-- THE SECOND FORM's CARD OF 'sealwrighttop.TopTrial'. -/
def topTrialUptoCard : Claim7 := { stood := { row := topTrialUptoRow, standIns := [], harness := (true, "c8c0222e43d7616cf0a624281a4b1c095cd8b732f3e52d48fa91a6e7add95932"), looks := false }, kinds := [], alts := [], laidByText := true, laidKinds := [.data, .widerDeep, .data, .data, .pinned], laidTests := true, laidLooks := .later }
def TopTrialUptoCardSaid : Prop := Claim7.holds Tryz.pinned (.plain (OpenSpec.upto topTrialSpec)) topTrialUptoCard
end Rows
end Go.Proofs.YtlhjonbjbiafaaaGreatDoor
