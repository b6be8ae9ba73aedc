/-
  DERIVED. GIVEN WITH THE SEED: THE CARDS: each row of YtgchkbhfajopnaaDoorRows.lean that lists a variable, with what it lists TIED to the program's text (the seventh form; the later family's looks); each row that meets fmt, with fmt's text TOLD by the authors' own Lean function (tested against real Go, not proved from fmt's source: count such statements apart). THE CARD IS WHAT COUNTS. Prove the row's statement (the work); the ties are given (YtgchkbhfajopnaaDoorTie.lean); close each card by the builder's one call (the guide's Derived/Test/ToyasCard.lean, 'card_holds'). Laid BY PROGRAM, IN A SANDBOX (cutbox-door.mjs). By AI agents, Wed Nov 11 2026. No macro, syntax, notation, axiom, sorry.
-/
import Derived.Test.YtgchkbhfajopnaaDoorRows
import GoSem.ClaimSeven
namespace Go.Proofs.YtgchkbhfajopnaaDoor
namespace Rows

/-- THE TIED CARD OF 'sealwrightlaw17.StateNew'. -/
def stateNewCard : Claim7 := { stood := { row := stateNewRow, standIns := [], harness := (true, "b17ed0397a8519aac802766aca2a321e7e0822a736a22c98fa92df61cbfda87b"), looks := false }, kinds := [], alts := [], laidByText := true, laidKinds := [.data], laidTests := true, laidLooks := .later }
def StateNewCardSaid : Prop := Claim7.holds Tryd.pinned (.plain (OpenSpec.ofChange stateNewSpec)) stateNewCard

/-- THE TIED CARD OF 'sealwrightlaw17.StateClock'. -/
def stateClockCard : Claim7 := { stood := { row := stateClockRow, standIns := [], harness := (true, "b17ed0397a8519aac802766aca2a321e7e0822a736a22c98fa92df61cbfda87b"), looks := false }, kinds := [], alts := [], laidByText := true, laidKinds := [.data], laidTests := true, laidLooks := .later }
def StateClockCardSaid : Prop := Claim7.holds Tryd.pinned (.plain (OpenSpec.ofChange stateClockSpec)) stateClockCard

/-- THE SECOND FORM's CARD OF 'sealwrightlaw17.StateNew'. -/
def stateNewUptoCard : Claim7 := { stood := { row := stateNewUptoRow, standIns := [], harness := (true, "b17ed0397a8519aac802766aca2a321e7e0822a736a22c98fa92df61cbfda87b"), looks := false }, kinds := [], alts := [], laidByText := true, laidKinds := [.data], laidTests := true, laidLooks := .later }
def StateNewUptoCardSaid : Prop := Claim7.holds Tryd.pinned (.plain (OpenSpec.upto stateNewSpec)) stateNewUptoCard

/-- THE SECOND FORM's CARD OF 'sealwrightlaw17.StateClock'. -/
def stateClockUptoCard : Claim7 := { stood := { row := stateClockUptoRow, standIns := [], harness := (true, "b17ed0397a8519aac802766aca2a321e7e0822a736a22c98fa92df61cbfda87b"), looks := false }, kinds := [], alts := [], laidByText := true, laidKinds := [.data], laidTests := true, laidLooks := .later }
def StateClockUptoCardSaid : Prop := Claim7.holds Tryd.pinned (.plain (OpenSpec.upto stateClockSpec)) stateClockUptoCard
end Rows
end Go.Proofs.YtgchkbhfajopnaaDoor
