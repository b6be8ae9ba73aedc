/-
  NARROWER THAN 'FOR EVERY INPUT', by the rows' own cells (each row's printed sentence says how): RegistersNew: laid · RegistersValue: laid · RegistersExtend: laid · RegistersEvent: laid · RegistersCommute: laid · RegistersOrder: laid · RegistersReset: laid · RegistersOthers: laid · RegistersDigest: laid · RegistersDecode: laid · RegistersCodec: laid.
  DERIVED. THE GIVEN ROWS OF THIS SEAT. 11 by the template 'for every input the law returns true; each argument reads behind the call as it read before'; 0 by the template 'total and deterministic' (their statements: YtcklafcpgiomfaaDoorTotals.lean).
  GIVEN WITH THE SEED: the statements are not yours to turn. If you find one false, say at which input.
  Laid BY PROGRAM, IN A SANDBOX (cutbox-rows.mjs): the forced cells as the released guide's own fill.sh prints them over the translation 76999589d2bdcc86… (all of the seat's roots in one cut). By AI agents, Wed Nov 11 2026. No macro, syntax, notation, axiom, sorry.
-/
import Derived.Test.YtcklafcpgiomfaaDoorChecked
import GoSem.Claim
import GoSem.ClaimJoined
import GoSem.ClaimMapViews
import Derived.JoinedTies
import Derived.KernelRfl
namespace Go.Proofs.YtcklafcpgiomfaaDoor
/- THE CELL 'sum', in the pinned program and in every row, IS THE sha256 OF THE DUMP (.gsa) THAT YtcklafcpgiomfaaDoorProg.lean LOADS. Nothing in Lean hashes anything: it is a label: what it is worth is what the hold of that sum in a sandbox is worth. -/
noncomputable def Tryd.pinned : Pinned := { name := "ytcklafcpgiomfaadoor", sum := "76999589d2bdcc86aa1983a288c2078f3ae1f740f57f602822b8779f5a9e8ebb", checked := Tryd.checked }
namespace Rows
def none {H : Type} : Left H := { results := [], args := [] }

/- WHAT THE LISTED PACKAGE-LEVEL VARIABLES READ AS WHEN THE CALL BEGINS. Each datum BY PROGRAM (the guide's laid-datum.mjs) off the statement by which the dump's own 'gosem.cut.vars' lays the variable. In a bare row this is a premise. The card (YtcklafcpgiomfaaDoorCards.lean) ties it to the program's text. -/
def laid_sealwright_digest_round256 {H : Type} : DataW H := .agg [.lit (.int .u32 1116352408), .lit (.int .u32 1899447441), .lit (.int .u32 3049323471), .lit (.int .u32 3921009573), .lit (.int .u32 961987163), .lit (.int .u32 1508970993), .lit (.int .u32 2453635748), .lit (.int .u32 2870763221), .lit (.int .u32 3624381080), .lit (.int .u32 310598401), .lit (.int .u32 607225278), .lit (.int .u32 1426881987), .lit (.int .u32 1925078388), .lit (.int .u32 2162078206), .lit (.int .u32 2614888103), .lit (.int .u32 3248222580), .lit (.int .u32 3835390401), .lit (.int .u32 4022224774), .lit (.int .u32 264347078), .lit (.int .u32 604807628), .lit (.int .u32 770255983), .lit (.int .u32 1249150122), .lit (.int .u32 1555081692), .lit (.int .u32 1996064986), .lit (.int .u32 2554220882), .lit (.int .u32 2821834349), .lit (.int .u32 2952996808), .lit (.int .u32 3210313671), .lit (.int .u32 3336571891), .lit (.int .u32 3584528711), .lit (.int .u32 113926993), .lit (.int .u32 338241895), .lit (.int .u32 666307205), .lit (.int .u32 773529912), .lit (.int .u32 1294757372), .lit (.int .u32 1396182291), .lit (.int .u32 1695183700), .lit (.int .u32 1986661051), .lit (.int .u32 2177026350), .lit (.int .u32 2456956037), .lit (.int .u32 2730485921), .lit (.int .u32 2820302411), .lit (.int .u32 3259730800), .lit (.int .u32 3345764771), .lit (.int .u32 3516065817), .lit (.int .u32 3600352804), .lit (.int .u32 4094571909), .lit (.int .u32 275423344), .lit (.int .u32 430227734), .lit (.int .u32 506948616), .lit (.int .u32 659060556), .lit (.int .u32 883997877), .lit (.int .u32 958139571), .lit (.int .u32 1322822218), .lit (.int .u32 1537002063), .lit (.int .u32 1747873779), .lit (.int .u32 1955562222), .lit (.int .u32 2024104815), .lit (.int .u32 2227730452), .lit (.int .u32 2361852424), .lit (.int .u32 2428436474), .lit (.int .u32 2756734187), .lit (.int .u32 3204031479), .lit (.int .u32 3329325298)]

/-- 'sealwrightlaw8.RegistersNew': WHATEVER THE INPUT: true; the input reads as it did. -/
def registersNewSpec : ChangeSpec := { name := "registersNew", fn := fun _ => fun
  | [d] => { results := [.lit (.bool true)], args := [d] }
  | _ => none }
def registersNewRow : OpenClaim := { program := "ytcklafcpgiomfaadoor", sum := "76999589d2bdcc86aa1983a288c2078f3ae1f740f57f602822b8779f5a9e8ebb", func := "sealwright/sealwrightlaw8.RegistersNew", spec := "registersNew", inPlace := ["internal/bytealg.MakeNoZero"], named := ["sealwright/digest.round256"], apart := false, laid := [("sealwright/digest.round256", laid_sealwright_digest_round256)] }
def RegistersNewSaid : Prop := registersNewRow.holds Tryd.pinned (OpenSpec.ofChange registersNewSpec)

/-- ITS FALSE NEIGHBOUR: 'it returns false'. Refute it at one input. -/
def registersNewWrong : ChangeSpec := { name := "registersNew", fn := fun _ => fun
  | [d] => { results := [.lit (.bool false)], args := [d] }
  | _ => none }
def RegistersNewWrongFalsely : Prop := registersNewRow.holds Tryd.pinned (OpenSpec.ofChange registersNewWrong)

/-- 'sealwrightlaw8.RegistersValue': WHATEVER THE INPUT: true; the input reads as it did. -/
def registersValueSpec : ChangeSpec := { name := "registersValue", fn := fun _ => fun
  | [d1, d2, d3, d4] => { results := [.lit (.bool true)], args := [d1, d2, d3, d4] }
  | _ => none }
def registersValueRow : OpenClaim := { program := "ytcklafcpgiomfaadoor", sum := "76999589d2bdcc86aa1983a288c2078f3ae1f740f57f602822b8779f5a9e8ebb", func := "sealwright/sealwrightlaw8.RegistersValue", spec := "registersValue", inPlace := ["internal/bytealg.MakeNoZero"], named := ["sealwright/digest.round256"], apart := false, laid := [("sealwright/digest.round256", laid_sealwright_digest_round256)] }
def RegistersValueSaid : Prop := registersValueRow.holds Tryd.pinned (OpenSpec.ofChange registersValueSpec)

/-- ITS FALSE NEIGHBOUR: 'it returns false'. Refute it at one input. -/
def registersValueWrong : ChangeSpec := { name := "registersValue", fn := fun _ => fun
  | [d1, d2, d3, d4] => { results := [.lit (.bool false)], args := [d1, d2, d3, d4] }
  | _ => none }
def RegistersValueWrongFalsely : Prop := registersValueRow.holds Tryd.pinned (OpenSpec.ofChange registersValueWrong)

/-- 'sealwrightlaw8.RegistersExtend': WHATEVER THE INPUT: true; the input reads as it did. -/
def registersExtendSpec : ChangeSpec := { name := "registersExtend", fn := fun _ => fun
  | [d1, d2, d3, d4, d5, d6, d7] => { results := [.lit (.bool true)], args := [d1, d2, d3, d4, d5, d6, d7] }
  | _ => none }
def registersExtendRow : OpenClaim := { program := "ytcklafcpgiomfaadoor", sum := "76999589d2bdcc86aa1983a288c2078f3ae1f740f57f602822b8779f5a9e8ebb", func := "sealwright/sealwrightlaw8.RegistersExtend", spec := "registersExtend", inPlace := ["internal/bytealg.MakeNoZero"], named := ["sealwright/digest.round256"], apart := false, laid := [("sealwright/digest.round256", laid_sealwright_digest_round256)] }
def RegistersExtendSaid : Prop := registersExtendRow.holds Tryd.pinned (OpenSpec.ofChange registersExtendSpec)

/-- ITS FALSE NEIGHBOUR: 'it returns false'. Refute it at one input. -/
def registersExtendWrong : ChangeSpec := { name := "registersExtend", fn := fun _ => fun
  | [d1, d2, d3, d4, d5, d6, d7] => { results := [.lit (.bool false)], args := [d1, d2, d3, d4, d5, d6, d7] }
  | _ => none }
def RegistersExtendWrongFalsely : Prop := registersExtendRow.holds Tryd.pinned (OpenSpec.ofChange registersExtendWrong)

/-- 'sealwrightlaw8.RegistersEvent': WHATEVER THE INPUT: true; the input reads as it did. -/
def registersEventSpec : ChangeSpec := { name := "registersEvent", fn := fun _ => fun
  | [d1, d2, d3, d4, d5, d6] => { results := [.lit (.bool true)], args := [d1, d2, d3, d4, d5, d6] }
  | _ => none }
def registersEventRow : OpenClaim := { program := "ytcklafcpgiomfaadoor", sum := "76999589d2bdcc86aa1983a288c2078f3ae1f740f57f602822b8779f5a9e8ebb", func := "sealwright/sealwrightlaw8.RegistersEvent", spec := "registersEvent", inPlace := ["internal/bytealg.MakeNoZero"], named := ["sealwright/digest.round256"], apart := false, laid := [("sealwright/digest.round256", laid_sealwright_digest_round256)] }
def RegistersEventSaid : Prop := registersEventRow.holds Tryd.pinned (OpenSpec.ofChange registersEventSpec)

/-- ITS FALSE NEIGHBOUR: 'it returns false'. Refute it at one input. -/
def registersEventWrong : ChangeSpec := { name := "registersEvent", fn := fun _ => fun
  | [d1, d2, d3, d4, d5, d6] => { results := [.lit (.bool false)], args := [d1, d2, d3, d4, d5, d6] }
  | _ => none }
def RegistersEventWrongFalsely : Prop := registersEventRow.holds Tryd.pinned (OpenSpec.ofChange registersEventWrong)

/-- 'sealwrightlaw8.RegistersCommute': WHATEVER THE INPUT: true; the input reads as it did. -/
def registersCommuteSpec : ChangeSpec := { name := "registersCommute", fn := fun _ => fun
  | [d1, d2, d3, d4, d5, d6] => { results := [.lit (.bool true)], args := [d1, d2, d3, d4, d5, d6] }
  | _ => none }
def registersCommuteRow : OpenClaim := { program := "ytcklafcpgiomfaadoor", sum := "76999589d2bdcc86aa1983a288c2078f3ae1f740f57f602822b8779f5a9e8ebb", func := "sealwright/sealwrightlaw8.RegistersCommute", spec := "registersCommute", inPlace := ["internal/bytealg.MakeNoZero"], named := ["sealwright/digest.round256"], apart := false, laid := [("sealwright/digest.round256", laid_sealwright_digest_round256)] }
def RegistersCommuteSaid : Prop := registersCommuteRow.holds Tryd.pinned (OpenSpec.ofChange registersCommuteSpec)

/-- ITS FALSE NEIGHBOUR: 'it returns false'. Refute it at one input. -/
def registersCommuteWrong : ChangeSpec := { name := "registersCommute", fn := fun _ => fun
  | [d1, d2, d3, d4, d5, d6] => { results := [.lit (.bool false)], args := [d1, d2, d3, d4, d5, d6] }
  | _ => none }
def RegistersCommuteWrongFalsely : Prop := registersCommuteRow.holds Tryd.pinned (OpenSpec.ofChange registersCommuteWrong)

/-- 'sealwrightlaw8.RegistersOrder': WHATEVER THE INPUT: true; the input reads as it did. -/
def registersOrderSpec : ChangeSpec := { name := "registersOrder", fn := fun _ => fun
  | [d1, d2, d3, d4] => { results := [.lit (.bool true)], args := [d1, d2, d3, d4] }
  | _ => none }
def registersOrderRow : OpenClaim := { program := "ytcklafcpgiomfaadoor", sum := "76999589d2bdcc86aa1983a288c2078f3ae1f740f57f602822b8779f5a9e8ebb", func := "sealwright/sealwrightlaw8.RegistersOrder", spec := "registersOrder", inPlace := ["internal/bytealg.MakeNoZero"], named := ["sealwright/digest.round256"], apart := false, laid := [("sealwright/digest.round256", laid_sealwright_digest_round256)] }
def RegistersOrderSaid : Prop := registersOrderRow.holds Tryd.pinned (OpenSpec.ofChange registersOrderSpec)

/-- ITS FALSE NEIGHBOUR: 'it returns false'. Refute it at one input. -/
def registersOrderWrong : ChangeSpec := { name := "registersOrder", fn := fun _ => fun
  | [d1, d2, d3, d4] => { results := [.lit (.bool false)], args := [d1, d2, d3, d4] }
  | _ => none }
def RegistersOrderWrongFalsely : Prop := registersOrderRow.holds Tryd.pinned (OpenSpec.ofChange registersOrderWrong)

/-- 'sealwrightlaw8.RegistersReset': WHATEVER THE INPUT: true; the input reads as it did. -/
def registersResetSpec : ChangeSpec := { name := "registersReset", fn := fun _ => fun
  | [d1, d2, d3, d4] => { results := [.lit (.bool true)], args := [d1, d2, d3, d4] }
  | _ => none }
def registersResetRow : OpenClaim := { program := "ytcklafcpgiomfaadoor", sum := "76999589d2bdcc86aa1983a288c2078f3ae1f740f57f602822b8779f5a9e8ebb", func := "sealwright/sealwrightlaw8.RegistersReset", spec := "registersReset", inPlace := ["internal/bytealg.MakeNoZero"], named := ["sealwright/digest.round256"], apart := false, laid := [("sealwright/digest.round256", laid_sealwright_digest_round256)] }
def RegistersResetSaid : Prop := registersResetRow.holds Tryd.pinned (OpenSpec.ofChange registersResetSpec)

/-- ITS FALSE NEIGHBOUR: 'it returns false'. Refute it at one input. -/
def registersResetWrong : ChangeSpec := { name := "registersReset", fn := fun _ => fun
  | [d1, d2, d3, d4] => { results := [.lit (.bool false)], args := [d1, d2, d3, d4] }
  | _ => none }
def RegistersResetWrongFalsely : Prop := registersResetRow.holds Tryd.pinned (OpenSpec.ofChange registersResetWrong)

/-- 'sealwrightlaw8.RegistersOthers': WHATEVER THE INPUT: true; the input reads as it did. -/
def registersOthersSpec : ChangeSpec := { name := "registersOthers", fn := fun _ => fun
  | [d1, d2, d3, d4, d5] => { results := [.lit (.bool true)], args := [d1, d2, d3, d4, d5] }
  | _ => none }
def registersOthersRow : OpenClaim := { program := "ytcklafcpgiomfaadoor", sum := "76999589d2bdcc86aa1983a288c2078f3ae1f740f57f602822b8779f5a9e8ebb", func := "sealwright/sealwrightlaw8.RegistersOthers", spec := "registersOthers", inPlace := ["internal/bytealg.MakeNoZero"], named := ["sealwright/digest.round256"], apart := false, laid := [("sealwright/digest.round256", laid_sealwright_digest_round256)] }
def RegistersOthersSaid : Prop := registersOthersRow.holds Tryd.pinned (OpenSpec.ofChange registersOthersSpec)

/-- ITS FALSE NEIGHBOUR: 'it returns false'. Refute it at one input. -/
def registersOthersWrong : ChangeSpec := { name := "registersOthers", fn := fun _ => fun
  | [d1, d2, d3, d4, d5] => { results := [.lit (.bool false)], args := [d1, d2, d3, d4, d5] }
  | _ => none }
def RegistersOthersWrongFalsely : Prop := registersOthersRow.holds Tryd.pinned (OpenSpec.ofChange registersOthersWrong)

/-- 'sealwrightlaw8.RegistersDigest': WHATEVER THE INPUT: true; the input reads as it did. -/
def registersDigestSpec : ChangeSpec := { name := "registersDigest", fn := fun _ => fun
  | [d1, d2, d3, d4] => { results := [.lit (.bool true)], args := [d1, d2, d3, d4] }
  | _ => none }
def registersDigestRow : OpenClaim := { program := "ytcklafcpgiomfaadoor", sum := "76999589d2bdcc86aa1983a288c2078f3ae1f740f57f602822b8779f5a9e8ebb", func := "sealwright/sealwrightlaw8.RegistersDigest", spec := "registersDigest", inPlace := ["internal/bytealg.MakeNoZero"], named := ["sealwright/digest.round256"], apart := false, laid := [("sealwright/digest.round256", laid_sealwright_digest_round256)] }
def RegistersDigestSaid : Prop := registersDigestRow.holds Tryd.pinned (OpenSpec.ofChange registersDigestSpec)

/-- ITS FALSE NEIGHBOUR: 'it returns false'. Refute it at one input. -/
def registersDigestWrong : ChangeSpec := { name := "registersDigest", fn := fun _ => fun
  | [d1, d2, d3, d4] => { results := [.lit (.bool false)], args := [d1, d2, d3, d4] }
  | _ => none }
def RegistersDigestWrongFalsely : Prop := registersDigestRow.holds Tryd.pinned (OpenSpec.ofChange registersDigestWrong)

/-- 'sealwrightlaw8.RegistersDecode': WHATEVER THE INPUT: true; the input reads as it did. -/
def registersDecodeSpec : ChangeSpec := { name := "registersDecode", fn := fun _ => fun
  | [d1, d2, d3, d4, d5, d6] => { results := [.lit (.bool true)], args := [d1, d2, d3, d4, d5, d6] }
  | _ => none }
def registersDecodeRow : OpenClaim := { program := "ytcklafcpgiomfaadoor", sum := "76999589d2bdcc86aa1983a288c2078f3ae1f740f57f602822b8779f5a9e8ebb", func := "sealwright/sealwrightlaw8.RegistersDecode", spec := "registersDecode", inPlace := ["internal/bytealg.MakeNoZero"], named := ["sealwright/digest.round256"], apart := false, laid := [("sealwright/digest.round256", laid_sealwright_digest_round256)] }
def RegistersDecodeSaid : Prop := registersDecodeRow.holds Tryd.pinned (OpenSpec.ofChange registersDecodeSpec)

/-- ITS FALSE NEIGHBOUR: 'it returns false'. Refute it at one input. -/
def registersDecodeWrong : ChangeSpec := { name := "registersDecode", fn := fun _ => fun
  | [d1, d2, d3, d4, d5, d6] => { results := [.lit (.bool false)], args := [d1, d2, d3, d4, d5, d6] }
  | _ => none }
def RegistersDecodeWrongFalsely : Prop := registersDecodeRow.holds Tryd.pinned (OpenSpec.ofChange registersDecodeWrong)

/-- 'sealwrightlaw8.RegistersCodec': WHATEVER THE INPUT: true; the input reads as it did. -/
def registersCodecSpec : ChangeSpec := { name := "registersCodec", fn := fun _ => fun
  | [d1, d2] => { results := [.lit (.bool true)], args := [d1, d2] }
  | _ => none }
def registersCodecRow : OpenClaim := { program := "ytcklafcpgiomfaadoor", sum := "76999589d2bdcc86aa1983a288c2078f3ae1f740f57f602822b8779f5a9e8ebb", func := "sealwright/sealwrightlaw8.RegistersCodec", spec := "registersCodec", inPlace := ["internal/bytealg.MakeNoZero"], named := ["sealwright/digest.round256"], apart := false, laid := [("sealwright/digest.round256", laid_sealwright_digest_round256)] }
def RegistersCodecSaid : Prop := registersCodecRow.holds Tryd.pinned (OpenSpec.ofChange registersCodecSpec)

/-- ITS FALSE NEIGHBOUR: 'it returns false'. Refute it at one input. -/
def registersCodecWrong : ChangeSpec := { name := "registersCodec", fn := fun _ => fun
  | [d1, d2] => { results := [.lit (.bool false)], args := [d1, d2] }
  | _ => none }
def RegistersCodecWrongFalsely : Prop := registersCodecRow.holds Tryd.pinned (OpenSpec.ofChange registersCodecWrong)

/- THE SECOND FORM. 'bulk': how many values and letters a reading holds, each counted each time it is reached (what is shared counts as often as it is met; a slice's spare places count too). A statement '..UptoSaid' is the law's where the arguments, and the package variables that the reading takes, are together of bulk at most 1048576: NARROWER than '..Said'. Prove '..Said' where nothing that the law and all that it calls make is longer than what came in: it says more and counts as full. Else prove '..UptoSaid'. A law counts once. -/
mutual
def uptoBulk {H : Type} : DataW H → Nat
  | .lit (.string bytes) => bytes.length + 1
  | .lit _ => 1
  | .nil => 1
  | .ptr d => uptoBulk d + 1
  | .slice elems spare => uptoBulkAll elems + uptoBulkAll spare + 1
  | .agg parts => uptoBulkAll parts + 1
  | .iface _ d => uptoBulk d + 1
  | .map entries => uptoBulkEntries entries + 1
  | .held _ => 1
def uptoBulkAll {H : Type} : List (DataW H) → Nat
  | [] => 0
  | d :: r => uptoBulk d + uptoBulkAll r
def uptoBulkEntries {H : Type} : List (Lit × DataW H) → Nat
  | [] => 0
  | x :: r => uptoBulkEntry x + uptoBulkEntries r
def uptoBulkEntry {H : Type} : Lit × DataW H → Nat
  | (.string bytes, d) => bytes.length + uptoBulk d + 1
  | (_, d) => uptoBulk d + 1
 end
def uptoSmall : (H : Type) → List (DataW H) → Bool := fun _ ds => decide (uptoBulkAll ds ≤ 1048576)
def OpenSpec.upto (s : _root_.Go.ChangeSpec) : _root_.Go.OpenSpec := { _root_.Go.OpenSpec.ofChange s with cond := some uptoSmall }

/-- 'sealwrightlaw8.RegistersNew', WHERE WHAT IT READS IS OF BULK AT MOST 1048576: true; the input reads as it did. -/
def registersNewUptoRow : OpenClaim := { program := "ytcklafcpgiomfaadoor", sum := "76999589d2bdcc86aa1983a288c2078f3ae1f740f57f602822b8779f5a9e8ebb", func := "sealwright/sealwrightlaw8.RegistersNew", spec := "registersNew", inPlace := ["internal/bytealg.MakeNoZero"], named := ["sealwright/digest.round256"], apart := false, laid := [("sealwright/digest.round256", laid_sealwright_digest_round256)], narrowed := true }
def RegistersNewUptoSaid : Prop := registersNewUptoRow.holds Tryd.pinned (OpenSpec.upto registersNewSpec)

/-- 'sealwrightlaw8.RegistersValue', WHERE WHAT IT READS IS OF BULK AT MOST 1048576: true; the input reads as it did. -/
def registersValueUptoRow : OpenClaim := { program := "ytcklafcpgiomfaadoor", sum := "76999589d2bdcc86aa1983a288c2078f3ae1f740f57f602822b8779f5a9e8ebb", func := "sealwright/sealwrightlaw8.RegistersValue", spec := "registersValue", inPlace := ["internal/bytealg.MakeNoZero"], named := ["sealwright/digest.round256"], apart := false, laid := [("sealwright/digest.round256", laid_sealwright_digest_round256)], narrowed := true }
def RegistersValueUptoSaid : Prop := registersValueUptoRow.holds Tryd.pinned (OpenSpec.upto registersValueSpec)

/-- 'sealwrightlaw8.RegistersExtend', WHERE WHAT IT READS IS OF BULK AT MOST 1048576: true; the input reads as it did. -/
def registersExtendUptoRow : OpenClaim := { program := "ytcklafcpgiomfaadoor", sum := "76999589d2bdcc86aa1983a288c2078f3ae1f740f57f602822b8779f5a9e8ebb", func := "sealwright/sealwrightlaw8.RegistersExtend", spec := "registersExtend", inPlace := ["internal/bytealg.MakeNoZero"], named := ["sealwright/digest.round256"], apart := false, laid := [("sealwright/digest.round256", laid_sealwright_digest_round256)], narrowed := true }
def RegistersExtendUptoSaid : Prop := registersExtendUptoRow.holds Tryd.pinned (OpenSpec.upto registersExtendSpec)

/-- 'sealwrightlaw8.RegistersEvent', WHERE WHAT IT READS IS OF BULK AT MOST 1048576: true; the input reads as it did. -/
def registersEventUptoRow : OpenClaim := { program := "ytcklafcpgiomfaadoor", sum := "76999589d2bdcc86aa1983a288c2078f3ae1f740f57f602822b8779f5a9e8ebb", func := "sealwright/sealwrightlaw8.RegistersEvent", spec := "registersEvent", inPlace := ["internal/bytealg.MakeNoZero"], named := ["sealwright/digest.round256"], apart := false, laid := [("sealwright/digest.round256", laid_sealwright_digest_round256)], narrowed := true }
def RegistersEventUptoSaid : Prop := registersEventUptoRow.holds Tryd.pinned (OpenSpec.upto registersEventSpec)

/-- 'sealwrightlaw8.RegistersCommute', WHERE WHAT IT READS IS OF BULK AT MOST 1048576: true; the input reads as it did. -/
def registersCommuteUptoRow : OpenClaim := { program := "ytcklafcpgiomfaadoor", sum := "76999589d2bdcc86aa1983a288c2078f3ae1f740f57f602822b8779f5a9e8ebb", func := "sealwright/sealwrightlaw8.RegistersCommute", spec := "registersCommute", inPlace := ["internal/bytealg.MakeNoZero"], named := ["sealwright/digest.round256"], apart := false, laid := [("sealwright/digest.round256", laid_sealwright_digest_round256)], narrowed := true }
def RegistersCommuteUptoSaid : Prop := registersCommuteUptoRow.holds Tryd.pinned (OpenSpec.upto registersCommuteSpec)

/-- 'sealwrightlaw8.RegistersOrder', WHERE WHAT IT READS IS OF BULK AT MOST 1048576: true; the input reads as it did. -/
def registersOrderUptoRow : OpenClaim := { program := "ytcklafcpgiomfaadoor", sum := "76999589d2bdcc86aa1983a288c2078f3ae1f740f57f602822b8779f5a9e8ebb", func := "sealwright/sealwrightlaw8.RegistersOrder", spec := "registersOrder", inPlace := ["internal/bytealg.MakeNoZero"], named := ["sealwright/digest.round256"], apart := false, laid := [("sealwright/digest.round256", laid_sealwright_digest_round256)], narrowed := true }
def RegistersOrderUptoSaid : Prop := registersOrderUptoRow.holds Tryd.pinned (OpenSpec.upto registersOrderSpec)

/-- 'sealwrightlaw8.RegistersReset', WHERE WHAT IT READS IS OF BULK AT MOST 1048576: true; the input reads as it did. -/
def registersResetUptoRow : OpenClaim := { program := "ytcklafcpgiomfaadoor", sum := "76999589d2bdcc86aa1983a288c2078f3ae1f740f57f602822b8779f5a9e8ebb", func := "sealwright/sealwrightlaw8.RegistersReset", spec := "registersReset", inPlace := ["internal/bytealg.MakeNoZero"], named := ["sealwright/digest.round256"], apart := false, laid := [("sealwright/digest.round256", laid_sealwright_digest_round256)], narrowed := true }
def RegistersResetUptoSaid : Prop := registersResetUptoRow.holds Tryd.pinned (OpenSpec.upto registersResetSpec)

/-- 'sealwrightlaw8.RegistersOthers', WHERE WHAT IT READS IS OF BULK AT MOST 1048576: true; the input reads as it did. -/
def registersOthersUptoRow : OpenClaim := { program := "ytcklafcpgiomfaadoor", sum := "76999589d2bdcc86aa1983a288c2078f3ae1f740f57f602822b8779f5a9e8ebb", func := "sealwright/sealwrightlaw8.RegistersOthers", spec := "registersOthers", inPlace := ["internal/bytealg.MakeNoZero"], named := ["sealwright/digest.round256"], apart := false, laid := [("sealwright/digest.round256", laid_sealwright_digest_round256)], narrowed := true }
def RegistersOthersUptoSaid : Prop := registersOthersUptoRow.holds Tryd.pinned (OpenSpec.upto registersOthersSpec)

/-- 'sealwrightlaw8.RegistersDigest', WHERE WHAT IT READS IS OF BULK AT MOST 1048576: true; the input reads as it did. -/
def registersDigestUptoRow : OpenClaim := { program := "ytcklafcpgiomfaadoor", sum := "76999589d2bdcc86aa1983a288c2078f3ae1f740f57f602822b8779f5a9e8ebb", func := "sealwright/sealwrightlaw8.RegistersDigest", spec := "registersDigest", inPlace := ["internal/bytealg.MakeNoZero"], named := ["sealwright/digest.round256"], apart := false, laid := [("sealwright/digest.round256", laid_sealwright_digest_round256)], narrowed := true }
def RegistersDigestUptoSaid : Prop := registersDigestUptoRow.holds Tryd.pinned (OpenSpec.upto registersDigestSpec)

/-- 'sealwrightlaw8.RegistersDecode', WHERE WHAT IT READS IS OF BULK AT MOST 1048576: true; the input reads as it did. -/
def registersDecodeUptoRow : OpenClaim := { program := "ytcklafcpgiomfaadoor", sum := "76999589d2bdcc86aa1983a288c2078f3ae1f740f57f602822b8779f5a9e8ebb", func := "sealwright/sealwrightlaw8.RegistersDecode", spec := "registersDecode", inPlace := ["internal/bytealg.MakeNoZero"], named := ["sealwright/digest.round256"], apart := false, laid := [("sealwright/digest.round256", laid_sealwright_digest_round256)], narrowed := true }
def RegistersDecodeUptoSaid : Prop := registersDecodeUptoRow.holds Tryd.pinned (OpenSpec.upto registersDecodeSpec)

/-- 'sealwrightlaw8.RegistersCodec', WHERE WHAT IT READS IS OF BULK AT MOST 1048576: true; the input reads as it did. -/
def registersCodecUptoRow : OpenClaim := { program := "ytcklafcpgiomfaadoor", sum := "76999589d2bdcc86aa1983a288c2078f3ae1f740f57f602822b8779f5a9e8ebb", func := "sealwright/sealwrightlaw8.RegistersCodec", spec := "registersCodec", inPlace := ["internal/bytealg.MakeNoZero"], named := ["sealwright/digest.round256"], apart := false, laid := [("sealwright/digest.round256", laid_sealwright_digest_round256)], narrowed := true }
def RegistersCodecUptoSaid : Prop := registersCodecUptoRow.holds Tryd.pinned (OpenSpec.upto registersCodecSpec)

end Rows
end Go.Proofs.YtcklafcpgiomfaaDoor
