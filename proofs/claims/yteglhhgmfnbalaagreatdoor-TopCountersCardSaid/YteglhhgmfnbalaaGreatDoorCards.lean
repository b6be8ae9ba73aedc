/-
  DERIVED. GIVEN WITH THE SEED: THE CARDS: each row of YteglhhgmfnbalaaGreatDoorRows.lean that lists a variable, with what it lists TIED to the program's text (the seventh form; the later family's looks); each row that meets fmt, with fmt's text TOLD by the authors' own Lean function (tested against real Go, not proved from fmt's source: count such statements apart). THE CARD IS WHAT COUNTS. Prove the row's statement (the work); the ties are given (YteglhhgmfnbalaaGreatDoorTie.lean); close each card by the builder's one call (the guide's Derived/Test/ToyasCard.lean, 'card_holds'). Laid BY PROGRAM, IN A SANDBOX (cutbox-door.mjs). By AI agents, Wed Nov 11 2026. No macro, syntax, notation, axiom, sorry.
-/
import Derived.Test.YteglhhgmfnbalaaGreatDoorRows
import GoSem.ClaimSeven
namespace Go.Proofs.YteglhhgmfnbalaaGreatDoor
namespace Rows

/-- THE TIED CARD OF 'sealwrighttop.TopCounters'. -/
def topCountersCard : Claim7 := { stood := { row := topCountersRow, standIns := [], harness := (true, "c10a7f3bb6ffbaca9be176f9c4d7384b02320416f7845089ebf9663161cbeea4"), looks := false }, kinds := [], alts := [], laidByText := true, laidKinds := [.data, .widerDeep, .data, .data, .pinned], laidTests := true, laidLooks := .later }
def TopCountersCardSaid : Prop := Claim7.holds Tryz.pinned (.plain (OpenSpec.ofChange topCountersSpec)) topCountersCard

/-- THE SECOND FORM's CARD OF 'sealwrighttop.TopCounters'. -/
def topCountersUptoCard : Claim7 := { stood := { row := topCountersUptoRow, standIns := [], harness := (true, "c10a7f3bb6ffbaca9be176f9c4d7384b02320416f7845089ebf9663161cbeea4"), looks := false }, kinds := [], alts := [], laidByText := true, laidKinds := [.data, .widerDeep, .data, .data, .pinned], laidTests := true, laidLooks := .later }
def TopCountersUptoCardSaid : Prop := Claim7.holds Tryz.pinned (.plain (OpenSpec.upto topCountersSpec)) topCountersUptoCard
end Rows
end Go.Proofs.YteglhhgmfnbalaaGreatDoor
