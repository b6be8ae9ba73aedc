/-
  DERIVED. GIVEN WITH THE SEED: THE CARDS: each row of YtgpbjaleeeacdaaGreatDoorRows.lean that lists a variable, with what it lists TIED to the program's text (the seventh form; the later family's looks); each row that meets fmt, with fmt's text TOLD by the authors' own Lean function (tested against real Go, not proved from fmt's source: count such statements apart). THE CARD IS WHAT COUNTS. Prove the row's statement (the work); the ties are given (YtgpbjaleeeacdaaGreatDoorTie.lean); close each card by the builder's one call (the guide's Derived/Test/ToyasCard.lean, 'card_holds'). Laid BY PROGRAM, IN A SANDBOX (cutbox-door.mjs). By AI agents, Wed Nov 11 2026. No macro, syntax, notation, axiom, sorry.
-/
import Derived.Test.YtgpbjaleeeacdaaGreatDoorRows
import GoSem.ClaimSeven
namespace Go.Proofs.YtgpbjaleeeacdaaGreatDoor
namespace Rows

/-- THE TIED CARD OF 'sealwrightlaw40.VaultBranch'. -/
def vaultBranchCard : Claim7 := { stood := { row := vaultBranchRow, standIns := [], harness := (true, "bfa548ce43afb857b1024f31fab68e8e7aae453ce96e54d0686a0acd42a14d87"), looks := false }, kinds := [], alts := [], laidByText := true, laidKinds := [.data, .data, .data, .data, .data], laidTests := true, laidLooks := .later }
def VaultBranchCardSaid : Prop := Claim7.holds Tryz.pinned (.plain (OpenSpec.ofChange vaultBranchSpec)) vaultBranchCard

/-- THE TIED CARD OF 'sealwrightlaw40.VaultPolicy'. -/
def vaultPolicyCard : Claim7 := { stood := { row := vaultPolicyRow, standIns := [], harness := (true, "bfa548ce43afb857b1024f31fab68e8e7aae453ce96e54d0686a0acd42a14d87"), looks := false }, kinds := [], alts := [], laidByText := true, laidKinds := [.data, .data, .data, .data, .data], laidTests := true, laidLooks := .later }
def VaultPolicyCardSaid : Prop := Claim7.holds Tryz.pinned (.plain (OpenSpec.ofChange vaultPolicySpec)) vaultPolicyCard

/-- THE TIED CARD OF 'sealwrightlaw40.VaultAccepts'. -/
def vaultAcceptsCard : Claim7 := { stood := { row := vaultAcceptsRow, standIns := [], harness := (true, "bfa548ce43afb857b1024f31fab68e8e7aae453ce96e54d0686a0acd42a14d87"), looks := false }, kinds := [], alts := [], laidByText := true, laidKinds := [.data, .data, .data, .data, .data], laidTests := true, laidLooks := .later }
def VaultAcceptsCardSaid : Prop := Claim7.holds Tryz.pinned (.plain (OpenSpec.ofChange vaultAcceptsSpec)) vaultAcceptsCard

/-- THE TIED CARD OF 'sealwrightlaw40.VaultBind'. -/
def vaultBindCard : Claim7 := { stood := { row := vaultBindRow, standIns := [], harness := (true, "bfa548ce43afb857b1024f31fab68e8e7aae453ce96e54d0686a0acd42a14d87"), looks := false }, kinds := [], alts := [], laidByText := true, laidKinds := [.data, .data, .data, .data, .data], laidTests := true, laidLooks := .later }
def VaultBindCardSaid : Prop := Claim7.holds Tryz.pinned (.plain (OpenSpec.ofChange vaultBindSpec)) vaultBindCard

/-- THE TIED CARD OF 'sealwrightlaw40.VaultOpens'. -/
def vaultOpensCard : Claim7 := { stood := { row := vaultOpensRow, standIns := [], harness := (true, "bfa548ce43afb857b1024f31fab68e8e7aae453ce96e54d0686a0acd42a14d87"), looks := false }, kinds := [], alts := [], laidByText := true, laidKinds := [.data, .data, .data, .data, .data], laidTests := true, laidLooks := .later }
def VaultOpensCardSaid : Prop := Claim7.holds Tryz.pinned (.plain (OpenSpec.ofChange vaultOpensSpec)) vaultOpensCard

/-- THE TIED CARD OF 'sealwrightlaw40.VaultOther'. -/
def vaultOtherCard : Claim7 := { stood := { row := vaultOtherRow, standIns := [], harness := (true, "bfa548ce43afb857b1024f31fab68e8e7aae453ce96e54d0686a0acd42a14d87"), looks := false }, kinds := [], alts := [], laidByText := true, laidKinds := [.data, .data, .data, .data, .data], laidTests := true, laidLooks := .later }
def VaultOtherCardSaid : Prop := Claim7.holds Tryz.pinned (.plain (OpenSpec.ofChange vaultOtherSpec)) vaultOtherCard

/-- THE SECOND FORM's CARD OF 'sealwrightlaw40.VaultBranch'. -/
def vaultBranchUptoCard : Claim7 := { stood := { row := vaultBranchUptoRow, standIns := [], harness := (true, "bfa548ce43afb857b1024f31fab68e8e7aae453ce96e54d0686a0acd42a14d87"), looks := false }, kinds := [], alts := [], laidByText := true, laidKinds := [.data, .data, .data, .data, .data], laidTests := true, laidLooks := .later }
def VaultBranchUptoCardSaid : Prop := Claim7.holds Tryz.pinned (.plain (OpenSpec.upto vaultBranchSpec)) vaultBranchUptoCard

/-- THE SECOND FORM's CARD OF 'sealwrightlaw40.VaultPolicy'. -/
def vaultPolicyUptoCard : Claim7 := { stood := { row := vaultPolicyUptoRow, standIns := [], harness := (true, "bfa548ce43afb857b1024f31fab68e8e7aae453ce96e54d0686a0acd42a14d87"), looks := false }, kinds := [], alts := [], laidByText := true, laidKinds := [.data, .data, .data, .data, .data], laidTests := true, laidLooks := .later }
def VaultPolicyUptoCardSaid : Prop := Claim7.holds Tryz.pinned (.plain (OpenSpec.upto vaultPolicySpec)) vaultPolicyUptoCard

/-- THE SECOND FORM's CARD OF 'sealwrightlaw40.VaultAccepts'. -/
def vaultAcceptsUptoCard : Claim7 := { stood := { row := vaultAcceptsUptoRow, standIns := [], harness := (true, "bfa548ce43afb857b1024f31fab68e8e7aae453ce96e54d0686a0acd42a14d87"), looks := false }, kinds := [], alts := [], laidByText := true, laidKinds := [.data, .data, .data, .data, .data], laidTests := true, laidLooks := .later }
def VaultAcceptsUptoCardSaid : Prop := Claim7.holds Tryz.pinned (.plain (OpenSpec.upto vaultAcceptsSpec)) vaultAcceptsUptoCard

/-- THE SECOND FORM's CARD OF 'sealwrightlaw40.VaultBind'. -/
def vaultBindUptoCard : Claim7 := { stood := { row := vaultBindUptoRow, standIns := [], harness := (true, "bfa548ce43afb857b1024f31fab68e8e7aae453ce96e54d0686a0acd42a14d87"), looks := false }, kinds := [], alts := [], laidByText := true, laidKinds := [.data, .data, .data, .data, .data], laidTests := true, laidLooks := .later }
def VaultBindUptoCardSaid : Prop := Claim7.holds Tryz.pinned (.plain (OpenSpec.upto vaultBindSpec)) vaultBindUptoCard

/-- THE SECOND FORM's CARD OF 'sealwrightlaw40.VaultOpens'. -/
def vaultOpensUptoCard : Claim7 := { stood := { row := vaultOpensUptoRow, standIns := [], harness := (true, "bfa548ce43afb857b1024f31fab68e8e7aae453ce96e54d0686a0acd42a14d87"), looks := false }, kinds := [], alts := [], laidByText := true, laidKinds := [.data, .data, .data, .data, .data], laidTests := true, laidLooks := .later }
def VaultOpensUptoCardSaid : Prop := Claim7.holds Tryz.pinned (.plain (OpenSpec.upto vaultOpensSpec)) vaultOpensUptoCard

/-- THE SECOND FORM's CARD OF 'sealwrightlaw40.VaultOther'. -/
def vaultOtherUptoCard : Claim7 := { stood := { row := vaultOtherUptoRow, standIns := [], harness := (true, "bfa548ce43afb857b1024f31fab68e8e7aae453ce96e54d0686a0acd42a14d87"), looks := false }, kinds := [], alts := [], laidByText := true, laidKinds := [.data, .data, .data, .data, .data], laidTests := true, laidLooks := .later }
def VaultOtherUptoCardSaid : Prop := Claim7.holds Tryz.pinned (.plain (OpenSpec.upto vaultOtherSpec)) vaultOtherUptoCard
end Rows
end Go.Proofs.YtgpbjaleeeacdaaGreatDoor
