/-
  DERIVED. GIVEN WITH THE SEED: THE CARDS: each row of YtekghmfbgbhobaaGreatDoorRows.lean that lists a variable, with what it lists TIED to the program's text (the seventh form; the later family's looks); each row that meets fmt, with fmt's text TOLD by the authors' own Lean function (tested against real Go, not proved from fmt's source: count such statements apart). THE CARD IS WHAT COUNTS. Prove the row's statement (the work); the ties are given (YtekghmfbgbhobaaGreatDoorTie.lean); close each card by the builder's one call (the guide's Derived/Test/ToyasCard.lean, 'card_holds'). Laid BY PROGRAM, IN A SANDBOX (cutbox-door.mjs). By AI agents, Wed Nov 11 2026. No macro, syntax, notation, axiom, sorry.
-/
import Derived.Test.YtekghmfbgbhobaaGreatDoorRows
import GoSem.ClaimSeven
namespace Go.Proofs.YtekghmfbgbhobaaGreatDoor
namespace Rows

/-- THE TIED CARD OF 'sealwrightlaw17.StateStartup'. -/
def stateStartupCard : Claim7 := { stood := { row := stateStartupRow, standIns := [], harness := (true, "a4e75a77ef276e11973d35da092c4b66db97028301efe84240e3093b676a7ee0"), looks := false }, kinds := [], alts := [], laidByText := true, laidKinds := [.data], laidTests := true, laidLooks := .later }
def StateStartupCardSaid : Prop := Claim7.holds Tryz.pinned (.plain (OpenSpec.ofChange stateStartupSpec)) stateStartupCard

/-- THE TIED CARD OF 'sealwrightlaw17.StateRandom'. -/
def stateRandomCard : Claim7 := { stood := { row := stateRandomRow, standIns := [], harness := (true, "a4e75a77ef276e11973d35da092c4b66db97028301efe84240e3093b676a7ee0"), looks := false }, kinds := [], alts := [], laidByText := true, laidKinds := [.data], laidTests := true, laidLooks := .later }
def StateRandomCardSaid : Prop := Claim7.holds Tryz.pinned (.plain (OpenSpec.ofChange stateRandomSpec)) stateRandomCard

/-- THE TIED CARD OF 'sealwrightlaw17.StateShutdown'. -/
def stateShutdownCard : Claim7 := { stood := { row := stateShutdownRow, standIns := [], harness := (true, "a4e75a77ef276e11973d35da092c4b66db97028301efe84240e3093b676a7ee0"), looks := false }, kinds := [], alts := [], laidByText := true, laidKinds := [.data], laidTests := true, laidLooks := .later }
def StateShutdownCardSaid : Prop := Claim7.holds Tryz.pinned (.plain (OpenSpec.ofChange stateShutdownSpec)) stateShutdownCard

/-- THE TIED CARD OF 'sealwrightlaw17.StateBoots'. -/
def stateBootsCard : Claim7 := { stood := { row := stateBootsRow, standIns := [], harness := (true, "a4e75a77ef276e11973d35da092c4b66db97028301efe84240e3093b676a7ee0"), looks := false }, kinds := [], alts := [], laidByText := true, laidKinds := [.data], laidTests := true, laidLooks := .later }
def StateBootsCardSaid : Prop := Claim7.holds Tryz.pinned (.plain (OpenSpec.ofChange stateBootsSpec)) stateBootsCard

/-- THE TIED CARD OF 'sealwrightlaw17.StateDecode'. -/
def stateDecodeCard : Claim7 := { stood := { row := stateDecodeRow, standIns := [], harness := (true, "a4e75a77ef276e11973d35da092c4b66db97028301efe84240e3093b676a7ee0"), looks := false }, kinds := [], alts := [], laidByText := true, laidKinds := [.data], laidTests := true, laidLooks := .later }
def StateDecodeCardSaid : Prop := Claim7.holds Tryz.pinned (.plain (OpenSpec.ofChange stateDecodeSpec)) stateDecodeCard

/-- THE TIED CARD OF 'sealwrightlaw17.StateCodec'. -/
def stateCodecCard : Claim7 := { stood := { row := stateCodecRow, standIns := [], harness := (true, "a4e75a77ef276e11973d35da092c4b66db97028301efe84240e3093b676a7ee0"), looks := false }, kinds := [], alts := [], laidByText := true, laidKinds := [.data], laidTests := true, laidLooks := .later }
def StateCodecCardSaid : Prop := Claim7.holds Tryz.pinned (.plain (OpenSpec.ofChange stateCodecSpec)) stateCodecCard

/-- THE SECOND FORM's CARD OF 'sealwrightlaw17.StateStartup'. -/
def stateStartupUptoCard : Claim7 := { stood := { row := stateStartupUptoRow, standIns := [], harness := (true, "a4e75a77ef276e11973d35da092c4b66db97028301efe84240e3093b676a7ee0"), looks := false }, kinds := [], alts := [], laidByText := true, laidKinds := [.data], laidTests := true, laidLooks := .later }
def StateStartupUptoCardSaid : Prop := Claim7.holds Tryz.pinned (.plain (OpenSpec.upto stateStartupSpec)) stateStartupUptoCard

/-- THE SECOND FORM's CARD OF 'sealwrightlaw17.StateRandom'. -/
def stateRandomUptoCard : Claim7 := { stood := { row := stateRandomUptoRow, standIns := [], harness := (true, "a4e75a77ef276e11973d35da092c4b66db97028301efe84240e3093b676a7ee0"), looks := false }, kinds := [], alts := [], laidByText := true, laidKinds := [.data], laidTests := true, laidLooks := .later }
def StateRandomUptoCardSaid : Prop := Claim7.holds Tryz.pinned (.plain (OpenSpec.upto stateRandomSpec)) stateRandomUptoCard

/-- THE SECOND FORM's CARD OF 'sealwrightlaw17.StateShutdown'. -/
def stateShutdownUptoCard : Claim7 := { stood := { row := stateShutdownUptoRow, standIns := [], harness := (true, "a4e75a77ef276e11973d35da092c4b66db97028301efe84240e3093b676a7ee0"), looks := false }, kinds := [], alts := [], laidByText := true, laidKinds := [.data], laidTests := true, laidLooks := .later }
def StateShutdownUptoCardSaid : Prop := Claim7.holds Tryz.pinned (.plain (OpenSpec.upto stateShutdownSpec)) stateShutdownUptoCard

/-- THE SECOND FORM's CARD OF 'sealwrightlaw17.StateBoots'. -/
def stateBootsUptoCard : Claim7 := { stood := { row := stateBootsUptoRow, standIns := [], harness := (true, "a4e75a77ef276e11973d35da092c4b66db97028301efe84240e3093b676a7ee0"), looks := false }, kinds := [], alts := [], laidByText := true, laidKinds := [.data], laidTests := true, laidLooks := .later }
def StateBootsUptoCardSaid : Prop := Claim7.holds Tryz.pinned (.plain (OpenSpec.upto stateBootsSpec)) stateBootsUptoCard

/-- THE SECOND FORM's CARD OF 'sealwrightlaw17.StateDecode'. -/
def stateDecodeUptoCard : Claim7 := { stood := { row := stateDecodeUptoRow, standIns := [], harness := (true, "a4e75a77ef276e11973d35da092c4b66db97028301efe84240e3093b676a7ee0"), looks := false }, kinds := [], alts := [], laidByText := true, laidKinds := [.data], laidTests := true, laidLooks := .later }
def StateDecodeUptoCardSaid : Prop := Claim7.holds Tryz.pinned (.plain (OpenSpec.upto stateDecodeSpec)) stateDecodeUptoCard

/-- THE SECOND FORM's CARD OF 'sealwrightlaw17.StateCodec'. -/
def stateCodecUptoCard : Claim7 := { stood := { row := stateCodecUptoRow, standIns := [], harness := (true, "a4e75a77ef276e11973d35da092c4b66db97028301efe84240e3093b676a7ee0"), looks := false }, kinds := [], alts := [], laidByText := true, laidKinds := [.data], laidTests := true, laidLooks := .later }
def StateCodecUptoCardSaid : Prop := Claim7.holds Tryz.pinned (.plain (OpenSpec.upto stateCodecSpec)) stateCodecUptoCard
end Rows
end Go.Proofs.YtekghmfbgbhobaaGreatDoor
