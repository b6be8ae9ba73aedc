/-
  DERIVED. GIVEN WITH THE SEED: THE CARDS: each row of YtldnhemfgkfiiaaGreatDoorRows.lean that lists a variable, with what it lists TIED to the program's text (the seventh form; the later family's looks); each row that meets fmt, with fmt's text TOLD by the authors' own Lean function (tested against real Go, not proved from fmt's source: count such statements apart). THE CARD IS WHAT COUNTS. Prove the row's statement (the work); the ties are given (YtldnhemfgkfiiaaGreatDoorTie.lean); close each card by the builder's one call (the guide's Derived/Test/ToyasCard.lean, 'card_holds'). Laid BY PROGRAM, IN A SANDBOX (cutbox-door.mjs). By AI agents, Wed Nov 11 2026. No macro, syntax, notation, axiom, sorry.
-/
import Derived.Test.YtldnhemfgkfiiaaGreatDoorRows
import GoSem.ClaimSeven
namespace Go.Proofs.YtldnhemfgkfiiaaGreatDoor
namespace Rows

/-- THE TIED CARD OF 'sealwrightlaw29.PredictRegisters'. -/
def predictRegistersCard : Claim7 := { stood := { row := predictRegistersRow, standIns := [], harness := (true, "3f6014dba7cfa4af7e58f295f4a95bce4be9ae8810305c0a8e6e01419892bf57"), looks := false }, kinds := [], alts := [], laidByText := true, laidKinds := [.data, .data, .data, .data, .data], laidTests := true, laidLooks := .later }
def PredictRegistersCardSaid : Prop := Claim7.holds Tryz.pinned (.plain (OpenSpec.ofChange predictRegistersSpec)) predictRegistersCard

/-- THE TIED CARD OF 'sealwrightlaw29.PredictDigest'. -/
def predictDigestCard : Claim7 := { stood := { row := predictDigestRow, standIns := [], harness := (true, "3f6014dba7cfa4af7e58f295f4a95bce4be9ae8810305c0a8e6e01419892bf57"), looks := false }, kinds := [], alts := [], laidByText := true, laidKinds := [.data, .data, .data, .data, .data], laidTests := true, laidLooks := .later }
def PredictDigestCardSaid : Prop := Claim7.holds Tryz.pinned (.plain (OpenSpec.ofChange predictDigestSpec)) predictDigestCard

/-- THE TIED CARD OF 'sealwrightlaw29.PredictDistinct'. -/
def predictDistinctCard : Claim7 := { stood := { row := predictDistinctRow, standIns := [], harness := (true, "3f6014dba7cfa4af7e58f295f4a95bce4be9ae8810305c0a8e6e01419892bf57"), looks := false }, kinds := [], alts := [], laidByText := true, laidKinds := [.data, .data, .data, .data, .data], laidTests := true, laidLooks := .later }
def PredictDistinctCardSaid : Prop := Claim7.holds Tryz.pinned (.plain (OpenSpec.ofChange predictDistinctSpec)) predictDistinctCard

/-- THE SECOND FORM's CARD OF 'sealwrightlaw29.PredictRegisters'. -/
def predictRegistersUptoCard : Claim7 := { stood := { row := predictRegistersUptoRow, standIns := [], harness := (true, "3f6014dba7cfa4af7e58f295f4a95bce4be9ae8810305c0a8e6e01419892bf57"), looks := false }, kinds := [], alts := [], laidByText := true, laidKinds := [.data, .data, .data, .data, .data], laidTests := true, laidLooks := .later }
def PredictRegistersUptoCardSaid : Prop := Claim7.holds Tryz.pinned (.plain (OpenSpec.upto predictRegistersSpec)) predictRegistersUptoCard

/-- THE SECOND FORM's CARD OF 'sealwrightlaw29.PredictDigest'. -/
def predictDigestUptoCard : Claim7 := { stood := { row := predictDigestUptoRow, standIns := [], harness := (true, "3f6014dba7cfa4af7e58f295f4a95bce4be9ae8810305c0a8e6e01419892bf57"), looks := false }, kinds := [], alts := [], laidByText := true, laidKinds := [.data, .data, .data, .data, .data], laidTests := true, laidLooks := .later }
def PredictDigestUptoCardSaid : Prop := Claim7.holds Tryz.pinned (.plain (OpenSpec.upto predictDigestSpec)) predictDigestUptoCard

/-- THE SECOND FORM's CARD OF 'sealwrightlaw29.PredictDistinct'. -/
def predictDistinctUptoCard : Claim7 := { stood := { row := predictDistinctUptoRow, standIns := [], harness := (true, "3f6014dba7cfa4af7e58f295f4a95bce4be9ae8810305c0a8e6e01419892bf57"), looks := false }, kinds := [], alts := [], laidByText := true, laidKinds := [.data, .data, .data, .data, .data], laidTests := true, laidLooks := .later }
def PredictDistinctUptoCardSaid : Prop := Claim7.holds Tryz.pinned (.plain (OpenSpec.upto predictDistinctSpec)) predictDistinctUptoCard
end Rows
end Go.Proofs.YtldnhemfgkfiiaaGreatDoor
