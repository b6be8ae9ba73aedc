/-
  DERIVED. GIVEN WITH THE SEED: THE CARDS: each row of YtlakkalpdcjpnaaDoorRows.lean that lists a variable, with what it lists TIED to the program's text (the seventh form; the later family's looks); each row that meets fmt, with fmt's text TOLD by the authors' own Lean function (tested against real Go, not proved from fmt's source: count such statements apart). THE CARD IS WHAT COUNTS. Prove the row's statement (the work); the ties are given (YtlakkalpdcjpnaaDoorTie.lean); close each card by the builder's one call (the guide's Derived/Test/ToyasCard.lean, 'card_holds'). Laid BY PROGRAM, IN A SANDBOX (cutbox-door.mjs). By AI agents, Wed Nov 11 2026. No macro, syntax, notation, axiom, sorry.
-/
import Derived.Test.YtlakkalpdcjpnaaDoorRows
import GoSem.ClaimSeven
namespace Go.Proofs.YtlakkalpdcjpnaaDoor
namespace Rows

/-- THE TIED CARD OF 'sealwrightlaw28.ReplayRegisters'. -/
def replayRegistersCard : Claim7 := { stood := { row := replayRegistersRow, standIns := [], harness := (true, "25ade6f4a9079ce832df83fe8d56c0e4a0036b6b1bc049909888e61e62cf568e"), looks := false }, kinds := [], alts := [], laidByText := true, laidKinds := [.data], laidTests := true, laidLooks := .later }
def ReplayRegistersCardSaid : Prop := Claim7.holds Tryd.pinned (.plain (OpenSpec.ofChange replayRegistersSpec)) replayRegistersCard

/-- THE TIED CARD OF 'sealwrightlaw28.ReplayReached'. -/
def replayReachedCard : Claim7 := { stood := { row := replayReachedRow, standIns := [], harness := (true, "25ade6f4a9079ce832df83fe8d56c0e4a0036b6b1bc049909888e61e62cf568e"), looks := false }, kinds := [], alts := [], laidByText := true, laidKinds := [.data], laidTests := true, laidLooks := .later }
def ReplayReachedCardSaid : Prop := Claim7.holds Tryd.pinned (.plain (OpenSpec.ofChange replayReachedSpec)) replayReachedCard

/-- THE TIED CARD OF 'sealwrightlaw28.ReplayFirst'. -/
def replayFirstCard : Claim7 := { stood := { row := replayFirstRow, standIns := [], harness := (true, "25ade6f4a9079ce832df83fe8d56c0e4a0036b6b1bc049909888e61e62cf568e"), looks := false }, kinds := [], alts := [], laidByText := true, laidKinds := [.data], laidTests := true, laidLooks := .later }
def ReplayFirstCardSaid : Prop := Claim7.holds Tryd.pinned (.plain (OpenSpec.ofChange replayFirstSpec)) replayFirstCard

/-- THE TIED CARD OF 'sealwrightlaw28.ReplayWhole'. -/
def replayWholeCard : Claim7 := { stood := { row := replayWholeRow, standIns := [], harness := (true, "25ade6f4a9079ce832df83fe8d56c0e4a0036b6b1bc049909888e61e62cf568e"), looks := false }, kinds := [], alts := [], laidByText := true, laidKinds := [.data], laidTests := true, laidLooks := .later }
def ReplayWholeCardSaid : Prop := Claim7.holds Tryd.pinned (.plain (OpenSpec.ofChange replayWholeSpec)) replayWholeCard

/-- THE TIED CARD OF 'sealwrightlaw28.ReplayOrder'. -/
def replayOrderCard : Claim7 := { stood := { row := replayOrderRow, standIns := [], harness := (true, "25ade6f4a9079ce832df83fe8d56c0e4a0036b6b1bc049909888e61e62cf568e"), looks := false }, kinds := [], alts := [], laidByText := true, laidKinds := [.data], laidTests := true, laidLooks := .later }
def ReplayOrderCardSaid : Prop := Claim7.holds Tryd.pinned (.plain (OpenSpec.ofChange replayOrderSpec)) replayOrderCard

/-- THE TIED CARD OF 'sealwrightlaw28.ReplayLast'. -/
def replayLastCard : Claim7 := { stood := { row := replayLastRow, standIns := [], harness := (true, "25ade6f4a9079ce832df83fe8d56c0e4a0036b6b1bc049909888e61e62cf568e"), looks := false }, kinds := [], alts := [], laidByText := true, laidKinds := [.data], laidTests := true, laidLooks := .later }
def ReplayLastCardSaid : Prop := Claim7.holds Tryd.pinned (.plain (OpenSpec.ofChange replayLastSpec)) replayLastCard

/-- THE TIED CARD OF 'sealwrightlaw28.ReplayDigest'. -/
def replayDigestCard : Claim7 := { stood := { row := replayDigestRow, standIns := [], harness := (true, "25ade6f4a9079ce832df83fe8d56c0e4a0036b6b1bc049909888e61e62cf568e"), looks := false }, kinds := [], alts := [], laidByText := true, laidKinds := [.data], laidTests := true, laidLooks := .later }
def ReplayDigestCardSaid : Prop := Claim7.holds Tryd.pinned (.plain (OpenSpec.ofChange replayDigestSpec)) replayDigestCard

/-- THE SECOND FORM's CARD OF 'sealwrightlaw28.ReplayRegisters'. -/
def replayRegistersUptoCard : Claim7 := { stood := { row := replayRegistersUptoRow, standIns := [], harness := (true, "25ade6f4a9079ce832df83fe8d56c0e4a0036b6b1bc049909888e61e62cf568e"), looks := false }, kinds := [], alts := [], laidByText := true, laidKinds := [.data], laidTests := true, laidLooks := .later }
def ReplayRegistersUptoCardSaid : Prop := Claim7.holds Tryd.pinned (.plain (OpenSpec.upto replayRegistersSpec)) replayRegistersUptoCard

/-- THE SECOND FORM's CARD OF 'sealwrightlaw28.ReplayReached'. -/
def replayReachedUptoCard : Claim7 := { stood := { row := replayReachedUptoRow, standIns := [], harness := (true, "25ade6f4a9079ce832df83fe8d56c0e4a0036b6b1bc049909888e61e62cf568e"), looks := false }, kinds := [], alts := [], laidByText := true, laidKinds := [.data], laidTests := true, laidLooks := .later }
def ReplayReachedUptoCardSaid : Prop := Claim7.holds Tryd.pinned (.plain (OpenSpec.upto replayReachedSpec)) replayReachedUptoCard

/-- THE SECOND FORM's CARD OF 'sealwrightlaw28.ReplayFirst'. -/
def replayFirstUptoCard : Claim7 := { stood := { row := replayFirstUptoRow, standIns := [], harness := (true, "25ade6f4a9079ce832df83fe8d56c0e4a0036b6b1bc049909888e61e62cf568e"), looks := false }, kinds := [], alts := [], laidByText := true, laidKinds := [.data], laidTests := true, laidLooks := .later }
def ReplayFirstUptoCardSaid : Prop := Claim7.holds Tryd.pinned (.plain (OpenSpec.upto replayFirstSpec)) replayFirstUptoCard

/-- THE SECOND FORM's CARD OF 'sealwrightlaw28.ReplayWhole'. -/
def replayWholeUptoCard : Claim7 := { stood := { row := replayWholeUptoRow, standIns := [], harness := (true, "25ade6f4a9079ce832df83fe8d56c0e4a0036b6b1bc049909888e61e62cf568e"), looks := false }, kinds := [], alts := [], laidByText := true, laidKinds := [.data], laidTests := true, laidLooks := .later }
def ReplayWholeUptoCardSaid : Prop := Claim7.holds Tryd.pinned (.plain (OpenSpec.upto replayWholeSpec)) replayWholeUptoCard

/-- THE SECOND FORM's CARD OF 'sealwrightlaw28.ReplayOrder'. -/
def replayOrderUptoCard : Claim7 := { stood := { row := replayOrderUptoRow, standIns := [], harness := (true, "25ade6f4a9079ce832df83fe8d56c0e4a0036b6b1bc049909888e61e62cf568e"), looks := false }, kinds := [], alts := [], laidByText := true, laidKinds := [.data], laidTests := true, laidLooks := .later }
def ReplayOrderUptoCardSaid : Prop := Claim7.holds Tryd.pinned (.plain (OpenSpec.upto replayOrderSpec)) replayOrderUptoCard

/-- THE SECOND FORM's CARD OF 'sealwrightlaw28.ReplayLast'. -/
def replayLastUptoCard : Claim7 := { stood := { row := replayLastUptoRow, standIns := [], harness := (true, "25ade6f4a9079ce832df83fe8d56c0e4a0036b6b1bc049909888e61e62cf568e"), looks := false }, kinds := [], alts := [], laidByText := true, laidKinds := [.data], laidTests := true, laidLooks := .later }
def ReplayLastUptoCardSaid : Prop := Claim7.holds Tryd.pinned (.plain (OpenSpec.upto replayLastSpec)) replayLastUptoCard

/-- THE SECOND FORM's CARD OF 'sealwrightlaw28.ReplayDigest'. -/
def replayDigestUptoCard : Claim7 := { stood := { row := replayDigestUptoRow, standIns := [], harness := (true, "25ade6f4a9079ce832df83fe8d56c0e4a0036b6b1bc049909888e61e62cf568e"), looks := false }, kinds := [], alts := [], laidByText := true, laidKinds := [.data], laidTests := true, laidLooks := .later }
def ReplayDigestUptoCardSaid : Prop := Claim7.holds Tryd.pinned (.plain (OpenSpec.upto replayDigestSpec)) replayDigestUptoCard
end Rows
end Go.Proofs.YtlakkalpdcjpnaaDoor
