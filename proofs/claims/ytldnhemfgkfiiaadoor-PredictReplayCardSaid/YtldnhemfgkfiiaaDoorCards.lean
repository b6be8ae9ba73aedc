/-
  DERIVED. GIVEN WITH THE SEED: THE CARDS: each row of YtldnhemfgkfiiaaDoorRows.lean that lists a variable, with what it lists TIED to the program's text (the seventh form; the later family's looks); each row that meets fmt, with fmt's text TOLD by the authors' own Lean function (tested against real Go, not proved from fmt's source: count such statements apart). THE CARD IS WHAT COUNTS. Prove the row's statement (the work); the ties are given (YtldnhemfgkfiiaaDoorTie.lean); close each card by the builder's one call (the guide's Derived/Test/ToyasCard.lean, 'card_holds'). Laid BY PROGRAM, IN A SANDBOX (cutbox-door.mjs). By AI agents, Wed Nov 11 2026. No macro, syntax, notation, axiom, sorry.
-/
import Derived.Test.YtldnhemfgkfiiaaDoorRows
import GoSem.ClaimSeven
namespace Go.Proofs.YtldnhemfgkfiiaaDoor
namespace Rows

/-- THE TIED CARD OF 'sealwrightlaw29.PredictEvents'. -/
def predictEventsCard : Claim7 := { stood := { row := predictEventsRow, standIns := [], harness := (true, "6ceb6f351ff0bda4f78d944c0701c4868cec07ee5bac5a97db972a6b38850b88"), looks := false }, kinds := [], alts := [], laidByText := true, laidKinds := [.data, .data, .data, .data, .data], laidTests := true, laidLooks := .later }
def PredictEventsCardSaid : Prop := Claim7.holds Tryd.pinned (.plain (OpenSpec.ofChange predictEventsSpec)) predictEventsCard

/-- THE TIED CARD OF 'sealwrightlaw29.PredictNames'. -/
def predictNamesCard : Claim7 := { stood := { row := predictNamesRow, standIns := [], harness := (true, "6ceb6f351ff0bda4f78d944c0701c4868cec07ee5bac5a97db972a6b38850b88"), looks := false }, kinds := [], alts := [], laidByText := true, laidKinds := [.data, .data, .data, .data, .data], laidTests := true, laidLooks := .later }
def PredictNamesCardSaid : Prop := Claim7.holds Tryd.pinned (.plain (OpenSpec.ofChange predictNamesSpec)) predictNamesCard

/-- THE TIED CARD OF 'sealwrightlaw29.PredictValid'. -/
def predictValidCard : Claim7 := { stood := { row := predictValidRow, standIns := [], harness := (true, "6ceb6f351ff0bda4f78d944c0701c4868cec07ee5bac5a97db972a6b38850b88"), looks := false }, kinds := [], alts := [], laidByText := true, laidKinds := [.data, .data, .data, .data, .data], laidTests := true, laidLooks := .later }
def PredictValidCardSaid : Prop := Claim7.holds Tryd.pinned (.plain (OpenSpec.ofChange predictValidSpec)) predictValidCard

/-- THE TIED CARD OF 'sealwrightlaw29.PredictReplay'. -/
def predictReplayCard : Claim7 := { stood := { row := predictReplayRow, standIns := [], harness := (true, "6ceb6f351ff0bda4f78d944c0701c4868cec07ee5bac5a97db972a6b38850b88"), looks := false }, kinds := [], alts := [], laidByText := true, laidKinds := [.data, .data, .data, .data, .data], laidTests := true, laidLooks := .later }
def PredictReplayCardSaid : Prop := Claim7.holds Tryd.pinned (.plain (OpenSpec.ofChange predictReplaySpec)) predictReplayCard

/-- THE SECOND FORM's CARD OF 'sealwrightlaw29.PredictEvents'. -/
def predictEventsUptoCard : Claim7 := { stood := { row := predictEventsUptoRow, standIns := [], harness := (true, "6ceb6f351ff0bda4f78d944c0701c4868cec07ee5bac5a97db972a6b38850b88"), looks := false }, kinds := [], alts := [], laidByText := true, laidKinds := [.data, .data, .data, .data, .data], laidTests := true, laidLooks := .later }
def PredictEventsUptoCardSaid : Prop := Claim7.holds Tryd.pinned (.plain (OpenSpec.upto predictEventsSpec)) predictEventsUptoCard

/-- THE SECOND FORM's CARD OF 'sealwrightlaw29.PredictNames'. -/
def predictNamesUptoCard : Claim7 := { stood := { row := predictNamesUptoRow, standIns := [], harness := (true, "6ceb6f351ff0bda4f78d944c0701c4868cec07ee5bac5a97db972a6b38850b88"), looks := false }, kinds := [], alts := [], laidByText := true, laidKinds := [.data, .data, .data, .data, .data], laidTests := true, laidLooks := .later }
def PredictNamesUptoCardSaid : Prop := Claim7.holds Tryd.pinned (.plain (OpenSpec.upto predictNamesSpec)) predictNamesUptoCard

/-- THE SECOND FORM's CARD OF 'sealwrightlaw29.PredictValid'. -/
def predictValidUptoCard : Claim7 := { stood := { row := predictValidUptoRow, standIns := [], harness := (true, "6ceb6f351ff0bda4f78d944c0701c4868cec07ee5bac5a97db972a6b38850b88"), looks := false }, kinds := [], alts := [], laidByText := true, laidKinds := [.data, .data, .data, .data, .data], laidTests := true, laidLooks := .later }
def PredictValidUptoCardSaid : Prop := Claim7.holds Tryd.pinned (.plain (OpenSpec.upto predictValidSpec)) predictValidUptoCard

/-- THE SECOND FORM's CARD OF 'sealwrightlaw29.PredictReplay'. -/
def predictReplayUptoCard : Claim7 := { stood := { row := predictReplayUptoRow, standIns := [], harness := (true, "6ceb6f351ff0bda4f78d944c0701c4868cec07ee5bac5a97db972a6b38850b88"), looks := false }, kinds := [], alts := [], laidByText := true, laidKinds := [.data, .data, .data, .data, .data], laidTests := true, laidLooks := .later }
def PredictReplayUptoCardSaid : Prop := Claim7.holds Tryd.pinned (.plain (OpenSpec.upto predictReplaySpec)) predictReplayUptoCard
end Rows
end Go.Proofs.YtldnhemfgkfiiaaDoor
