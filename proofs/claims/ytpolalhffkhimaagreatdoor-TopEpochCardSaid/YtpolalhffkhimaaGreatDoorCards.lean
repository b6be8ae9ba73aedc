/-
  DERIVED. GIVEN WITH THE SEED: THE CARDS: each row of YtpolalhffkhimaaGreatDoorRows.lean that lists a variable, with what it lists TIED to the program's text (the seventh form; the later family's looks); each row that meets fmt, with fmt's text TOLD by the authors' own Lean function (tested against real Go, not proved from fmt's source: count such statements apart). THE CARD IS WHAT COUNTS. Prove the row's statement (the work); the ties are given (YtpolalhffkhimaaGreatDoorTie.lean); close each card by the builder's one call (the guide's Derived/Test/ToyasCard.lean, 'card_holds'). Laid BY PROGRAM, IN A SANDBOX (cutbox-door.mjs). By AI agents, Wed Nov 11 2026. No macro, syntax, notation, axiom, sorry.
-/
import Derived.Test.YtpolalhffkhimaaGreatDoorRows
import GoSem.ClaimSeven
namespace Go.Proofs.YtpolalhffkhimaaGreatDoor
namespace Rows

/-- THE TIED CARD OF 'sealwrighttop.TopEpoch'. -/
def topEpochCard : Claim7 := { stood := { row := topEpochRow, standIns := [], harness := (true, "8b7016b62ed3b555137f6951e15ec0fa2d83be9f7c267cb428b14a8b0d2b5314"), looks := false }, kinds := [], alts := [], laidByText := true, laidKinds := [.data, .widerDeep, .data, .data, .pinned], laidTests := true, laidLooks := .later }
def TopEpochCardSaid : Prop := Claim7.holds Tryz.pinned (.plain (OpenSpec.ofChange topEpochSpec)) topEpochCard

/-- THE SECOND FORM's CARD OF 'sealwrighttop.TopEpoch'. -/
def topEpochUptoCard : Claim7 := { stood := { row := topEpochUptoRow, standIns := [], harness := (true, "8b7016b62ed3b555137f6951e15ec0fa2d83be9f7c267cb428b14a8b0d2b5314"), looks := false }, kinds := [], alts := [], laidByText := true, laidKinds := [.data, .widerDeep, .data, .data, .pinned], laidTests := true, laidLooks := .later }
def TopEpochUptoCardSaid : Prop := Claim7.holds Tryz.pinned (.plain (OpenSpec.upto topEpochSpec)) topEpochUptoCard
end Rows
end Go.Proofs.YtpolalhffkhimaaGreatDoor
