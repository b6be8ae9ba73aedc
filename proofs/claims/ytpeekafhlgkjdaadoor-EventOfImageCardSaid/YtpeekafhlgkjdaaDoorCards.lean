/-
  DERIVED. GIVEN WITH THE SEED: THE CARDS: each row of YtpeekafhlgkjdaaDoorRows.lean that lists a variable, with what it lists TIED to the program's text (the seventh form; the later family's looks); each row that meets fmt, with fmt's text TOLD by the authors' own Lean function (tested against real Go, not proved from fmt's source: count such statements apart). THE CARD IS WHAT COUNTS. Prove the row's statement (the work); the ties are given (YtpeekafhlgkjdaaDoorTie.lean); close each card by the builder's one call (the guide's Derived/Test/ToyasCard.lean, 'card_holds'). Laid BY PROGRAM, IN A SANDBOX (cutbox-door.mjs). By AI agents, Wed Nov 11 2026. No macro, syntax, notation, axiom, sorry.
-/
import Derived.Test.YtpeekafhlgkjdaaDoorRows
import GoSem.ClaimSeven
namespace Go.Proofs.YtpeekafhlgkjdaaDoor
namespace Rows

/-- THE TIED CARD OF 'sealwrightlaw26.EventCheck'. -/
def eventCheckCard : Claim7 := { stood := { row := eventCheckRow, standIns := [], harness := (true, "9c14d6437afe84722c7ee2c689c615a4e20b5642c454d307d6a993cd59a465dd"), looks := false }, kinds := [], alts := [], laidByText := true, laidKinds := [.data], laidTests := true, laidLooks := .later }
def EventCheckCardSaid : Prop := Claim7.holds Tryd.pinned (.plain (OpenSpec.ofChange eventCheckSpec)) eventCheckCard

/-- THE TIED CARD OF 'sealwrightlaw26.EventMake'. -/
def eventMakeCard : Claim7 := { stood := { row := eventMakeRow, standIns := [], harness := (true, "9c14d6437afe84722c7ee2c689c615a4e20b5642c454d307d6a993cd59a465dd"), looks := false }, kinds := [], alts := [], laidByText := true, laidKinds := [.data], laidTests := true, laidLooks := .later }
def EventMakeCardSaid : Prop := Claim7.holds Tryd.pinned (.plain (OpenSpec.ofChange eventMakeSpec)) eventMakeCard

/-- THE TIED CARD OF 'sealwrightlaw26.EventConsistent'. -/
def eventConsistentCard : Claim7 := { stood := { row := eventConsistentRow, standIns := [], harness := (true, "9c14d6437afe84722c7ee2c689c615a4e20b5642c454d307d6a993cd59a465dd"), looks := false }, kinds := [], alts := [], laidByText := true, laidKinds := [.data], laidTests := true, laidLooks := .later }
def EventConsistentCardSaid : Prop := Claim7.holds Tryd.pinned (.plain (OpenSpec.ofChange eventConsistentSpec)) eventConsistentCard

/-- THE TIED CARD OF 'sealwrightlaw26.EventData'. -/
def eventDataCard : Claim7 := { stood := { row := eventDataRow, standIns := [], harness := (true, "9c14d6437afe84722c7ee2c689c615a4e20b5642c454d307d6a993cd59a465dd"), looks := false }, kinds := [], alts := [], laidByText := true, laidKinds := [.data], laidTests := true, laidLooks := .later }
def EventDataCardSaid : Prop := Claim7.holds Tryd.pinned (.plain (OpenSpec.ofChange eventDataSpec)) eventDataCard

/-- THE TIED CARD OF 'sealwrightlaw26.EventCodec'. -/
def eventCodecCard : Claim7 := { stood := { row := eventCodecRow, standIns := [], harness := (true, "9c14d6437afe84722c7ee2c689c615a4e20b5642c454d307d6a993cd59a465dd"), looks := false }, kinds := [], alts := [], laidByText := true, laidKinds := [.data], laidTests := true, laidLooks := .later }
def EventCodecCardSaid : Prop := Claim7.holds Tryd.pinned (.plain (OpenSpec.ofChange eventCodecSpec)) eventCodecCard

/-- THE TIED CARD OF 'sealwrightlaw26.EventDecode'. -/
def eventDecodeCard : Claim7 := { stood := { row := eventDecodeRow, standIns := [], harness := (true, "9c14d6437afe84722c7ee2c689c615a4e20b5642c454d307d6a993cd59a465dd"), looks := false }, kinds := [], alts := [], laidByText := true, laidKinds := [.data], laidTests := true, laidLooks := .later }
def EventDecodeCardSaid : Prop := Claim7.holds Tryd.pinned (.plain (OpenSpec.ofChange eventDecodeSpec)) eventDecodeCard

/-- THE TIED CARD OF 'sealwrightlaw26.EventOfImage'. -/
def eventOfImageCard : Claim7 := { stood := { row := eventOfImageRow, standIns := [], harness := (true, "9c14d6437afe84722c7ee2c689c615a4e20b5642c454d307d6a993cd59a465dd"), looks := false }, kinds := [], alts := [], laidByText := true, laidKinds := [.data, .data, .data, .data, .data], laidTests := true, laidLooks := .later }
def EventOfImageCardSaid : Prop := Claim7.holds Tryd.pinned (.plain (OpenSpec.ofChange eventOfImageSpec)) eventOfImageCard

/-- THE SECOND FORM's CARD OF 'sealwrightlaw26.EventCheck'. -/
def eventCheckUptoCard : Claim7 := { stood := { row := eventCheckUptoRow, standIns := [], harness := (true, "9c14d6437afe84722c7ee2c689c615a4e20b5642c454d307d6a993cd59a465dd"), looks := false }, kinds := [], alts := [], laidByText := true, laidKinds := [.data], laidTests := true, laidLooks := .later }
def EventCheckUptoCardSaid : Prop := Claim7.holds Tryd.pinned (.plain (OpenSpec.upto eventCheckSpec)) eventCheckUptoCard

/-- THE SECOND FORM's CARD OF 'sealwrightlaw26.EventMake'. -/
def eventMakeUptoCard : Claim7 := { stood := { row := eventMakeUptoRow, standIns := [], harness := (true, "9c14d6437afe84722c7ee2c689c615a4e20b5642c454d307d6a993cd59a465dd"), looks := false }, kinds := [], alts := [], laidByText := true, laidKinds := [.data], laidTests := true, laidLooks := .later }
def EventMakeUptoCardSaid : Prop := Claim7.holds Tryd.pinned (.plain (OpenSpec.upto eventMakeSpec)) eventMakeUptoCard

/-- THE SECOND FORM's CARD OF 'sealwrightlaw26.EventConsistent'. -/
def eventConsistentUptoCard : Claim7 := { stood := { row := eventConsistentUptoRow, standIns := [], harness := (true, "9c14d6437afe84722c7ee2c689c615a4e20b5642c454d307d6a993cd59a465dd"), looks := false }, kinds := [], alts := [], laidByText := true, laidKinds := [.data], laidTests := true, laidLooks := .later }
def EventConsistentUptoCardSaid : Prop := Claim7.holds Tryd.pinned (.plain (OpenSpec.upto eventConsistentSpec)) eventConsistentUptoCard

/-- THE SECOND FORM's CARD OF 'sealwrightlaw26.EventData'. -/
def eventDataUptoCard : Claim7 := { stood := { row := eventDataUptoRow, standIns := [], harness := (true, "9c14d6437afe84722c7ee2c689c615a4e20b5642c454d307d6a993cd59a465dd"), looks := false }, kinds := [], alts := [], laidByText := true, laidKinds := [.data], laidTests := true, laidLooks := .later }
def EventDataUptoCardSaid : Prop := Claim7.holds Tryd.pinned (.plain (OpenSpec.upto eventDataSpec)) eventDataUptoCard

/-- THE SECOND FORM's CARD OF 'sealwrightlaw26.EventCodec'. -/
def eventCodecUptoCard : Claim7 := { stood := { row := eventCodecUptoRow, standIns := [], harness := (true, "9c14d6437afe84722c7ee2c689c615a4e20b5642c454d307d6a993cd59a465dd"), looks := false }, kinds := [], alts := [], laidByText := true, laidKinds := [.data], laidTests := true, laidLooks := .later }
def EventCodecUptoCardSaid : Prop := Claim7.holds Tryd.pinned (.plain (OpenSpec.upto eventCodecSpec)) eventCodecUptoCard

/-- THE SECOND FORM's CARD OF 'sealwrightlaw26.EventDecode'. -/
def eventDecodeUptoCard : Claim7 := { stood := { row := eventDecodeUptoRow, standIns := [], harness := (true, "9c14d6437afe84722c7ee2c689c615a4e20b5642c454d307d6a993cd59a465dd"), looks := false }, kinds := [], alts := [], laidByText := true, laidKinds := [.data], laidTests := true, laidLooks := .later }
def EventDecodeUptoCardSaid : Prop := Claim7.holds Tryd.pinned (.plain (OpenSpec.upto eventDecodeSpec)) eventDecodeUptoCard

/-- THE SECOND FORM's CARD OF 'sealwrightlaw26.EventOfImage'. -/
def eventOfImageUptoCard : Claim7 := { stood := { row := eventOfImageUptoRow, standIns := [], harness := (true, "9c14d6437afe84722c7ee2c689c615a4e20b5642c454d307d6a993cd59a465dd"), looks := false }, kinds := [], alts := [], laidByText := true, laidKinds := [.data, .data, .data, .data, .data], laidTests := true, laidLooks := .later }
def EventOfImageUptoCardSaid : Prop := Claim7.holds Tryd.pinned (.plain (OpenSpec.upto eventOfImageSpec)) eventOfImageUptoCard
end Rows
end Go.Proofs.YtpeekafhlgkjdaaDoor
