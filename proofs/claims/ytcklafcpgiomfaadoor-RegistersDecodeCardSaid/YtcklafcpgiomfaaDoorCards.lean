/-
  DERIVED. GIVEN WITH THE SEED: THE CARDS: each row of YtcklafcpgiomfaaDoorRows.lean that lists a variable, with what it lists TIED to the program's text (the seventh form; the later family's looks); each row that meets fmt, with fmt's text TOLD by the authors' own Lean function (tested against real Go, not proved from fmt's source: count such statements apart). THE CARD IS WHAT COUNTS. Prove the row's statement (the work); the ties are given (YtcklafcpgiomfaaDoorTie.lean); close each card by the builder's one call (the guide's Derived/Test/ToyasCard.lean, 'card_holds'). Laid BY PROGRAM, IN A SANDBOX (cutbox-door.mjs). By AI agents, Wed Nov 11 2026. No macro, syntax, notation, axiom, sorry.
-/
import Derived.Test.YtcklafcpgiomfaaDoorRows
import GoSem.ClaimSeven
namespace Go.Proofs.YtcklafcpgiomfaaDoor
namespace Rows

/-- THE TIED CARD OF 'sealwrightlaw8.RegistersNew'. -/
def registersNewCard : Claim7 := { stood := { row := registersNewRow, standIns := [], harness := (true, "04bdc109f00f5ba0829ad89f20ba293e160b33a5aa84f246ce56832c2e90f937"), looks := false }, kinds := [], alts := [], laidByText := true, laidKinds := [.data], laidTests := true, laidLooks := .later }
def RegistersNewCardSaid : Prop := Claim7.holds Tryd.pinned (.plain (OpenSpec.ofChange registersNewSpec)) registersNewCard

/-- THE TIED CARD OF 'sealwrightlaw8.RegistersValue'. -/
def registersValueCard : Claim7 := { stood := { row := registersValueRow, standIns := [], harness := (true, "04bdc109f00f5ba0829ad89f20ba293e160b33a5aa84f246ce56832c2e90f937"), looks := false }, kinds := [], alts := [], laidByText := true, laidKinds := [.data], laidTests := true, laidLooks := .later }
def RegistersValueCardSaid : Prop := Claim7.holds Tryd.pinned (.plain (OpenSpec.ofChange registersValueSpec)) registersValueCard

/-- THE TIED CARD OF 'sealwrightlaw8.RegistersExtend'. -/
def registersExtendCard : Claim7 := { stood := { row := registersExtendRow, standIns := [], harness := (true, "04bdc109f00f5ba0829ad89f20ba293e160b33a5aa84f246ce56832c2e90f937"), looks := false }, kinds := [], alts := [], laidByText := true, laidKinds := [.data], laidTests := true, laidLooks := .later }
def RegistersExtendCardSaid : Prop := Claim7.holds Tryd.pinned (.plain (OpenSpec.ofChange registersExtendSpec)) registersExtendCard

/-- THE TIED CARD OF 'sealwrightlaw8.RegistersEvent'. -/
def registersEventCard : Claim7 := { stood := { row := registersEventRow, standIns := [], harness := (true, "04bdc109f00f5ba0829ad89f20ba293e160b33a5aa84f246ce56832c2e90f937"), looks := false }, kinds := [], alts := [], laidByText := true, laidKinds := [.data], laidTests := true, laidLooks := .later }
def RegistersEventCardSaid : Prop := Claim7.holds Tryd.pinned (.plain (OpenSpec.ofChange registersEventSpec)) registersEventCard

/-- THE TIED CARD OF 'sealwrightlaw8.RegistersCommute'. -/
def registersCommuteCard : Claim7 := { stood := { row := registersCommuteRow, standIns := [], harness := (true, "04bdc109f00f5ba0829ad89f20ba293e160b33a5aa84f246ce56832c2e90f937"), looks := false }, kinds := [], alts := [], laidByText := true, laidKinds := [.data], laidTests := true, laidLooks := .later }
def RegistersCommuteCardSaid : Prop := Claim7.holds Tryd.pinned (.plain (OpenSpec.ofChange registersCommuteSpec)) registersCommuteCard

/-- THE TIED CARD OF 'sealwrightlaw8.RegistersOrder'. -/
def registersOrderCard : Claim7 := { stood := { row := registersOrderRow, standIns := [], harness := (true, "04bdc109f00f5ba0829ad89f20ba293e160b33a5aa84f246ce56832c2e90f937"), looks := false }, kinds := [], alts := [], laidByText := true, laidKinds := [.data], laidTests := true, laidLooks := .later }
def RegistersOrderCardSaid : Prop := Claim7.holds Tryd.pinned (.plain (OpenSpec.ofChange registersOrderSpec)) registersOrderCard

/-- THE TIED CARD OF 'sealwrightlaw8.RegistersReset'. -/
def registersResetCard : Claim7 := { stood := { row := registersResetRow, standIns := [], harness := (true, "04bdc109f00f5ba0829ad89f20ba293e160b33a5aa84f246ce56832c2e90f937"), looks := false }, kinds := [], alts := [], laidByText := true, laidKinds := [.data], laidTests := true, laidLooks := .later }
def RegistersResetCardSaid : Prop := Claim7.holds Tryd.pinned (.plain (OpenSpec.ofChange registersResetSpec)) registersResetCard

/-- THE TIED CARD OF 'sealwrightlaw8.RegistersOthers'. -/
def registersOthersCard : Claim7 := { stood := { row := registersOthersRow, standIns := [], harness := (true, "04bdc109f00f5ba0829ad89f20ba293e160b33a5aa84f246ce56832c2e90f937"), looks := false }, kinds := [], alts := [], laidByText := true, laidKinds := [.data], laidTests := true, laidLooks := .later }
def RegistersOthersCardSaid : Prop := Claim7.holds Tryd.pinned (.plain (OpenSpec.ofChange registersOthersSpec)) registersOthersCard

/-- THE TIED CARD OF 'sealwrightlaw8.RegistersDigest'. -/
def registersDigestCard : Claim7 := { stood := { row := registersDigestRow, standIns := [], harness := (true, "04bdc109f00f5ba0829ad89f20ba293e160b33a5aa84f246ce56832c2e90f937"), looks := false }, kinds := [], alts := [], laidByText := true, laidKinds := [.data], laidTests := true, laidLooks := .later }
def RegistersDigestCardSaid : Prop := Claim7.holds Tryd.pinned (.plain (OpenSpec.ofChange registersDigestSpec)) registersDigestCard

/-- THE TIED CARD OF 'sealwrightlaw8.RegistersDecode'. -/
def registersDecodeCard : Claim7 := { stood := { row := registersDecodeRow, standIns := [], harness := (true, "04bdc109f00f5ba0829ad89f20ba293e160b33a5aa84f246ce56832c2e90f937"), looks := false }, kinds := [], alts := [], laidByText := true, laidKinds := [.data], laidTests := true, laidLooks := .later }
def RegistersDecodeCardSaid : Prop := Claim7.holds Tryd.pinned (.plain (OpenSpec.ofChange registersDecodeSpec)) registersDecodeCard

/-- THE TIED CARD OF 'sealwrightlaw8.RegistersCodec'. -/
def registersCodecCard : Claim7 := { stood := { row := registersCodecRow, standIns := [], harness := (true, "04bdc109f00f5ba0829ad89f20ba293e160b33a5aa84f246ce56832c2e90f937"), looks := false }, kinds := [], alts := [], laidByText := true, laidKinds := [.data], laidTests := true, laidLooks := .later }
def RegistersCodecCardSaid : Prop := Claim7.holds Tryd.pinned (.plain (OpenSpec.ofChange registersCodecSpec)) registersCodecCard

/-- THE SECOND FORM's CARD OF 'sealwrightlaw8.RegistersNew'. -/
def registersNewUptoCard : Claim7 := { stood := { row := registersNewUptoRow, standIns := [], harness := (true, "04bdc109f00f5ba0829ad89f20ba293e160b33a5aa84f246ce56832c2e90f937"), looks := false }, kinds := [], alts := [], laidByText := true, laidKinds := [.data], laidTests := true, laidLooks := .later }
def RegistersNewUptoCardSaid : Prop := Claim7.holds Tryd.pinned (.plain (OpenSpec.upto registersNewSpec)) registersNewUptoCard

/-- THE SECOND FORM's CARD OF 'sealwrightlaw8.RegistersValue'. -/
def registersValueUptoCard : Claim7 := { stood := { row := registersValueUptoRow, standIns := [], harness := (true, "04bdc109f00f5ba0829ad89f20ba293e160b33a5aa84f246ce56832c2e90f937"), looks := false }, kinds := [], alts := [], laidByText := true, laidKinds := [.data], laidTests := true, laidLooks := .later }
def RegistersValueUptoCardSaid : Prop := Claim7.holds Tryd.pinned (.plain (OpenSpec.upto registersValueSpec)) registersValueUptoCard

/-- THE SECOND FORM's CARD OF 'sealwrightlaw8.RegistersExtend'. -/
def registersExtendUptoCard : Claim7 := { stood := { row := registersExtendUptoRow, standIns := [], harness := (true, "04bdc109f00f5ba0829ad89f20ba293e160b33a5aa84f246ce56832c2e90f937"), looks := false }, kinds := [], alts := [], laidByText := true, laidKinds := [.data], laidTests := true, laidLooks := .later }
def RegistersExtendUptoCardSaid : Prop := Claim7.holds Tryd.pinned (.plain (OpenSpec.upto registersExtendSpec)) registersExtendUptoCard

/-- THE SECOND FORM's CARD OF 'sealwrightlaw8.RegistersEvent'. -/
def registersEventUptoCard : Claim7 := { stood := { row := registersEventUptoRow, standIns := [], harness := (true, "04bdc109f00f5ba0829ad89f20ba293e160b33a5aa84f246ce56832c2e90f937"), looks := false }, kinds := [], alts := [], laidByText := true, laidKinds := [.data], laidTests := true, laidLooks := .later }
def RegistersEventUptoCardSaid : Prop := Claim7.holds Tryd.pinned (.plain (OpenSpec.upto registersEventSpec)) registersEventUptoCard

/-- THE SECOND FORM's CARD OF 'sealwrightlaw8.RegistersCommute'. -/
def registersCommuteUptoCard : Claim7 := { stood := { row := registersCommuteUptoRow, standIns := [], harness := (true, "04bdc109f00f5ba0829ad89f20ba293e160b33a5aa84f246ce56832c2e90f937"), looks := false }, kinds := [], alts := [], laidByText := true, laidKinds := [.data], laidTests := true, laidLooks := .later }
def RegistersCommuteUptoCardSaid : Prop := Claim7.holds Tryd.pinned (.plain (OpenSpec.upto registersCommuteSpec)) registersCommuteUptoCard

/-- THE SECOND FORM's CARD OF 'sealwrightlaw8.RegistersOrder'. -/
def registersOrderUptoCard : Claim7 := { stood := { row := registersOrderUptoRow, standIns := [], harness := (true, "04bdc109f00f5ba0829ad89f20ba293e160b33a5aa84f246ce56832c2e90f937"), looks := false }, kinds := [], alts := [], laidByText := true, laidKinds := [.data], laidTests := true, laidLooks := .later }
def RegistersOrderUptoCardSaid : Prop := Claim7.holds Tryd.pinned (.plain (OpenSpec.upto registersOrderSpec)) registersOrderUptoCard

/-- THE SECOND FORM's CARD OF 'sealwrightlaw8.RegistersReset'. -/
def registersResetUptoCard : Claim7 := { stood := { row := registersResetUptoRow, standIns := [], harness := (true, "04bdc109f00f5ba0829ad89f20ba293e160b33a5aa84f246ce56832c2e90f937"), looks := false }, kinds := [], alts := [], laidByText := true, laidKinds := [.data], laidTests := true, laidLooks := .later }
def RegistersResetUptoCardSaid : Prop := Claim7.holds Tryd.pinned (.plain (OpenSpec.upto registersResetSpec)) registersResetUptoCard

/-- THE SECOND FORM's CARD OF 'sealwrightlaw8.RegistersOthers'. -/
def registersOthersUptoCard : Claim7 := { stood := { row := registersOthersUptoRow, standIns := [], harness := (true, "04bdc109f00f5ba0829ad89f20ba293e160b33a5aa84f246ce56832c2e90f937"), looks := false }, kinds := [], alts := [], laidByText := true, laidKinds := [.data], laidTests := true, laidLooks := .later }
def RegistersOthersUptoCardSaid : Prop := Claim7.holds Tryd.pinned (.plain (OpenSpec.upto registersOthersSpec)) registersOthersUptoCard

/-- THE SECOND FORM's CARD OF 'sealwrightlaw8.RegistersDigest'. -/
def registersDigestUptoCard : Claim7 := { stood := { row := registersDigestUptoRow, standIns := [], harness := (true, "04bdc109f00f5ba0829ad89f20ba293e160b33a5aa84f246ce56832c2e90f937"), looks := false }, kinds := [], alts := [], laidByText := true, laidKinds := [.data], laidTests := true, laidLooks := .later }
def RegistersDigestUptoCardSaid : Prop := Claim7.holds Tryd.pinned (.plain (OpenSpec.upto registersDigestSpec)) registersDigestUptoCard

/-- THE SECOND FORM's CARD OF 'sealwrightlaw8.RegistersDecode'. -/
def registersDecodeUptoCard : Claim7 := { stood := { row := registersDecodeUptoRow, standIns := [], harness := (true, "04bdc109f00f5ba0829ad89f20ba293e160b33a5aa84f246ce56832c2e90f937"), looks := false }, kinds := [], alts := [], laidByText := true, laidKinds := [.data], laidTests := true, laidLooks := .later }
def RegistersDecodeUptoCardSaid : Prop := Claim7.holds Tryd.pinned (.plain (OpenSpec.upto registersDecodeSpec)) registersDecodeUptoCard

/-- THE SECOND FORM's CARD OF 'sealwrightlaw8.RegistersCodec'. -/
def registersCodecUptoCard : Claim7 := { stood := { row := registersCodecUptoRow, standIns := [], harness := (true, "04bdc109f00f5ba0829ad89f20ba293e160b33a5aa84f246ce56832c2e90f937"), looks := false }, kinds := [], alts := [], laidByText := true, laidKinds := [.data], laidTests := true, laidLooks := .later }
def RegistersCodecUptoCardSaid : Prop := Claim7.holds Tryd.pinned (.plain (OpenSpec.upto registersCodecSpec)) registersCodecUptoCard
end Rows
end Go.Proofs.YtcklafcpgiomfaaDoor
