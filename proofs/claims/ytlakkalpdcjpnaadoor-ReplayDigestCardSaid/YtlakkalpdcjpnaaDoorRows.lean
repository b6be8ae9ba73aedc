/-
  NARROWER THAN 'FOR EVERY INPUT', by the rows' own cells (each row's printed sentence says how): ReplayRegisters: laid · ReplayReached: laid · ReplayFirst: laid · ReplayWhole: laid · ReplayOrder: laid · ReplayLast: laid · ReplayDigest: laid.
  DERIVED. THE GIVEN ROWS OF THIS SEAT. 7 by the template 'for every input the law returns true; each argument reads behind the call as it read before'; 0 by the template 'total and deterministic' (their statements: YtlakkalpdcjpnaaDoorTotals.lean).
  GIVEN WITH THE SEED: the statements are not yours to turn. If you find one false, say at which input.
  Laid BY PROGRAM, IN A SANDBOX (cutbox-rows.mjs): the forced cells as the released guide's own fill.sh prints them over the translation 4292ad88a2b4160c… (all of the seat's roots in one cut). By AI agents, Wed Nov 11 2026. No macro, syntax, notation, axiom, sorry.
-/
import Derived.Test.YtlakkalpdcjpnaaDoorChecked
import GoSem.Claim
import GoSem.ClaimJoined
import GoSem.ClaimMapViews
import Derived.JoinedTies
import Derived.KernelRfl
namespace Go.Proofs.YtlakkalpdcjpnaaDoor
/- THE CELL 'sum', in the pinned program and in every row, IS THE sha256 OF THE DUMP (.gsa) THAT YtlakkalpdcjpnaaDoorProg.lean LOADS. Nothing in Lean hashes anything: it is a label: what it is worth is what the hold of that sum in a sandbox is worth. -/
noncomputable def Tryd.pinned : Pinned := { name := "ytlakkalpdcjpnaadoor", sum := "4292ad88a2b4160c34466ae88aac31ca0bf80973184b1f3ce10cbd46badda5d3", checked := Tryd.checked }
namespace Rows
def none {H : Type} : Left H := { results := [], args := [] }

/- WHAT THE LISTED PACKAGE-LEVEL VARIABLES READ AS WHEN THE CALL BEGINS. Each datum BY PROGRAM (the guide's laid-datum.mjs) off the statement by which the dump's own 'gosem.cut.vars' lays the variable. In a bare row this is a premise. The card (YtlakkalpdcjpnaaDoorCards.lean) ties it to the program's text. -/
def laid_sealwright_digest_round256 {H : Type} : DataW H := .agg [.lit (.int .u32 1116352408), .lit (.int .u32 1899447441), .lit (.int .u32 3049323471), .lit (.int .u32 3921009573), .lit (.int .u32 961987163), .lit (.int .u32 1508970993), .lit (.int .u32 2453635748), .lit (.int .u32 2870763221), .lit (.int .u32 3624381080), .lit (.int .u32 310598401), .lit (.int .u32 607225278), .lit (.int .u32 1426881987), .lit (.int .u32 1925078388), .lit (.int .u32 2162078206), .lit (.int .u32 2614888103), .lit (.int .u32 3248222580), .lit (.int .u32 3835390401), .lit (.int .u32 4022224774), .lit (.int .u32 264347078), .lit (.int .u32 604807628), .lit (.int .u32 770255983), .lit (.int .u32 1249150122), .lit (.int .u32 1555081692), .lit (.int .u32 1996064986), .lit (.int .u32 2554220882), .lit (.int .u32 2821834349), .lit (.int .u32 2952996808), .lit (.int .u32 3210313671), .lit (.int .u32 3336571891), .lit (.int .u32 3584528711), .lit (.int .u32 113926993), .lit (.int .u32 338241895), .lit (.int .u32 666307205), .lit (.int .u32 773529912), .lit (.int .u32 1294757372), .lit (.int .u32 1396182291), .lit (.int .u32 1695183700), .lit (.int .u32 1986661051), .lit (.int .u32 2177026350), .lit (.int .u32 2456956037), .lit (.int .u32 2730485921), .lit (.int .u32 2820302411), .lit (.int .u32 3259730800), .lit (.int .u32 3345764771), .lit (.int .u32 3516065817), .lit (.int .u32 3600352804), .lit (.int .u32 4094571909), .lit (.int .u32 275423344), .lit (.int .u32 430227734), .lit (.int .u32 506948616), .lit (.int .u32 659060556), .lit (.int .u32 883997877), .lit (.int .u32 958139571), .lit (.int .u32 1322822218), .lit (.int .u32 1537002063), .lit (.int .u32 1747873779), .lit (.int .u32 1955562222), .lit (.int .u32 2024104815), .lit (.int .u32 2227730452), .lit (.int .u32 2361852424), .lit (.int .u32 2428436474), .lit (.int .u32 2756734187), .lit (.int .u32 3204031479), .lit (.int .u32 3329325298)]

/-- 'sealwrightlaw28.ReplayRegisters': WHATEVER THE INPUT: true; the input reads as it did. -/
def replayRegistersSpec : ChangeSpec := { name := "replayRegisters", fn := fun _ => fun
  | [d1, d2, d3, d4] => { results := [.lit (.bool true)], args := [d1, d2, d3, d4] }
  | _ => none }
def replayRegistersRow : OpenClaim := { program := "ytlakkalpdcjpnaadoor", sum := "4292ad88a2b4160c34466ae88aac31ca0bf80973184b1f3ce10cbd46badda5d3", func := "sealwright/sealwrightlaw28.ReplayRegisters", spec := "replayRegisters", inPlace := ["internal/bytealg.MakeNoZero"], recurses := true, named := ["sealwright/digest.round256"], apart := false, laid := [("sealwright/digest.round256", laid_sealwright_digest_round256)] }
def ReplayRegistersSaid : Prop := replayRegistersRow.holds Tryd.pinned (OpenSpec.ofChange replayRegistersSpec)

/-- ITS FALSE NEIGHBOUR: 'it returns false'. Refute it at one input. -/
def replayRegistersWrong : ChangeSpec := { name := "replayRegisters", fn := fun _ => fun
  | [d1, d2, d3, d4] => { results := [.lit (.bool false)], args := [d1, d2, d3, d4] }
  | _ => none }
def ReplayRegistersWrongFalsely : Prop := replayRegistersRow.holds Tryd.pinned (OpenSpec.ofChange replayRegistersWrong)

/-- 'sealwrightlaw28.ReplayReached': WHATEVER THE INPUT: true; the input reads as it did. -/
def replayReachedSpec : ChangeSpec := { name := "replayReached", fn := fun _ => fun
  | [d1, d2, d3, d4, d5] => { results := [.lit (.bool true)], args := [d1, d2, d3, d4, d5] }
  | _ => none }
def replayReachedRow : OpenClaim := { program := "ytlakkalpdcjpnaadoor", sum := "4292ad88a2b4160c34466ae88aac31ca0bf80973184b1f3ce10cbd46badda5d3", func := "sealwright/sealwrightlaw28.ReplayReached", spec := "replayReached", inPlace := ["internal/bytealg.MakeNoZero"], recurses := true, named := ["sealwright/digest.round256"], apart := false, laid := [("sealwright/digest.round256", laid_sealwright_digest_round256)] }
def ReplayReachedSaid : Prop := replayReachedRow.holds Tryd.pinned (OpenSpec.ofChange replayReachedSpec)

/-- ITS FALSE NEIGHBOUR: 'it returns false'. Refute it at one input. -/
def replayReachedWrong : ChangeSpec := { name := "replayReached", fn := fun _ => fun
  | [d1, d2, d3, d4, d5] => { results := [.lit (.bool false)], args := [d1, d2, d3, d4, d5] }
  | _ => none }
def ReplayReachedWrongFalsely : Prop := replayReachedRow.holds Tryd.pinned (OpenSpec.ofChange replayReachedWrong)

/-- 'sealwrightlaw28.ReplayFirst': WHATEVER THE INPUT: true; the input reads as it did. -/
def replayFirstSpec : ChangeSpec := { name := "replayFirst", fn := fun _ => fun
  | [d1, d2, d3, d4] => { results := [.lit (.bool true)], args := [d1, d2, d3, d4] }
  | _ => none }
def replayFirstRow : OpenClaim := { program := "ytlakkalpdcjpnaadoor", sum := "4292ad88a2b4160c34466ae88aac31ca0bf80973184b1f3ce10cbd46badda5d3", func := "sealwright/sealwrightlaw28.ReplayFirst", spec := "replayFirst", inPlace := ["internal/bytealg.MakeNoZero"], recurses := true, named := ["sealwright/digest.round256"], apart := false, laid := [("sealwright/digest.round256", laid_sealwright_digest_round256)] }
def ReplayFirstSaid : Prop := replayFirstRow.holds Tryd.pinned (OpenSpec.ofChange replayFirstSpec)

/-- ITS FALSE NEIGHBOUR: 'it returns false'. Refute it at one input. -/
def replayFirstWrong : ChangeSpec := { name := "replayFirst", fn := fun _ => fun
  | [d1, d2, d3, d4] => { results := [.lit (.bool false)], args := [d1, d2, d3, d4] }
  | _ => none }
def ReplayFirstWrongFalsely : Prop := replayFirstRow.holds Tryd.pinned (OpenSpec.ofChange replayFirstWrong)

/-- 'sealwrightlaw28.ReplayWhole': WHATEVER THE INPUT: true; the input reads as it did. -/
def replayWholeSpec : ChangeSpec := { name := "replayWhole", fn := fun _ => fun
  | [d1, d2, d3, d4] => { results := [.lit (.bool true)], args := [d1, d2, d3, d4] }
  | _ => none }
def replayWholeRow : OpenClaim := { program := "ytlakkalpdcjpnaadoor", sum := "4292ad88a2b4160c34466ae88aac31ca0bf80973184b1f3ce10cbd46badda5d3", func := "sealwright/sealwrightlaw28.ReplayWhole", spec := "replayWhole", inPlace := ["internal/bytealg.MakeNoZero"], recurses := true, named := ["sealwright/digest.round256"], apart := false, laid := [("sealwright/digest.round256", laid_sealwright_digest_round256)] }
def ReplayWholeSaid : Prop := replayWholeRow.holds Tryd.pinned (OpenSpec.ofChange replayWholeSpec)

/-- ITS FALSE NEIGHBOUR: 'it returns false'. Refute it at one input. -/
def replayWholeWrong : ChangeSpec := { name := "replayWhole", fn := fun _ => fun
  | [d1, d2, d3, d4] => { results := [.lit (.bool false)], args := [d1, d2, d3, d4] }
  | _ => none }
def ReplayWholeWrongFalsely : Prop := replayWholeRow.holds Tryd.pinned (OpenSpec.ofChange replayWholeWrong)

/-- 'sealwrightlaw28.ReplayOrder': WHATEVER THE INPUT: true; the input reads as it did. -/
def replayOrderSpec : ChangeSpec := { name := "replayOrder", fn := fun _ => fun
  | [d1, d2, d3, d4] => { results := [.lit (.bool true)], args := [d1, d2, d3, d4] }
  | _ => none }
def replayOrderRow : OpenClaim := { program := "ytlakkalpdcjpnaadoor", sum := "4292ad88a2b4160c34466ae88aac31ca0bf80973184b1f3ce10cbd46badda5d3", func := "sealwright/sealwrightlaw28.ReplayOrder", spec := "replayOrder", inPlace := ["internal/bytealg.MakeNoZero"], recurses := true, named := ["sealwright/digest.round256"], apart := false, laid := [("sealwright/digest.round256", laid_sealwright_digest_round256)] }
def ReplayOrderSaid : Prop := replayOrderRow.holds Tryd.pinned (OpenSpec.ofChange replayOrderSpec)

/-- ITS FALSE NEIGHBOUR: 'it returns false'. Refute it at one input. -/
def replayOrderWrong : ChangeSpec := { name := "replayOrder", fn := fun _ => fun
  | [d1, d2, d3, d4] => { results := [.lit (.bool false)], args := [d1, d2, d3, d4] }
  | _ => none }
def ReplayOrderWrongFalsely : Prop := replayOrderRow.holds Tryd.pinned (OpenSpec.ofChange replayOrderWrong)

/-- 'sealwrightlaw28.ReplayLast': WHATEVER THE INPUT: true; the input reads as it did. -/
def replayLastSpec : ChangeSpec := { name := "replayLast", fn := fun _ => fun
  | [d1, d2, d3] => { results := [.lit (.bool true)], args := [d1, d2, d3] }
  | _ => none }
def replayLastRow : OpenClaim := { program := "ytlakkalpdcjpnaadoor", sum := "4292ad88a2b4160c34466ae88aac31ca0bf80973184b1f3ce10cbd46badda5d3", func := "sealwright/sealwrightlaw28.ReplayLast", spec := "replayLast", inPlace := ["internal/bytealg.MakeNoZero"], recurses := true, named := ["sealwright/digest.round256"], apart := false, laid := [("sealwright/digest.round256", laid_sealwright_digest_round256)] }
def ReplayLastSaid : Prop := replayLastRow.holds Tryd.pinned (OpenSpec.ofChange replayLastSpec)

/-- ITS FALSE NEIGHBOUR: 'it returns false'. Refute it at one input. -/
def replayLastWrong : ChangeSpec := { name := "replayLast", fn := fun _ => fun
  | [d1, d2, d3] => { results := [.lit (.bool false)], args := [d1, d2, d3] }
  | _ => none }
def ReplayLastWrongFalsely : Prop := replayLastRow.holds Tryd.pinned (OpenSpec.ofChange replayLastWrong)

/-- 'sealwrightlaw28.ReplayDigest': WHATEVER THE INPUT: true; the input reads as it did. -/
def replayDigestSpec : ChangeSpec := { name := "replayDigest", fn := fun _ => fun
  | [d1, d2, d3, d4, d5] => { results := [.lit (.bool true)], args := [d1, d2, d3, d4, d5] }
  | _ => none }
def replayDigestRow : OpenClaim := { program := "ytlakkalpdcjpnaadoor", sum := "4292ad88a2b4160c34466ae88aac31ca0bf80973184b1f3ce10cbd46badda5d3", func := "sealwright/sealwrightlaw28.ReplayDigest", spec := "replayDigest", inPlace := ["internal/bytealg.MakeNoZero"], recurses := true, named := ["sealwright/digest.round256"], apart := false, laid := [("sealwright/digest.round256", laid_sealwright_digest_round256)] }
def ReplayDigestSaid : Prop := replayDigestRow.holds Tryd.pinned (OpenSpec.ofChange replayDigestSpec)

/-- ITS FALSE NEIGHBOUR: 'it returns false'. Refute it at one input. -/
def replayDigestWrong : ChangeSpec := { name := "replayDigest", fn := fun _ => fun
  | [d1, d2, d3, d4, d5] => { results := [.lit (.bool false)], args := [d1, d2, d3, d4, d5] }
  | _ => none }
def ReplayDigestWrongFalsely : Prop := replayDigestRow.holds Tryd.pinned (OpenSpec.ofChange replayDigestWrong)

/- THE SECOND FORM. 'bulk': how many values and letters a reading holds, each counted each time it is reached (what is shared counts as often as it is met; a slice's spare places count too). A statement '..UptoSaid' is the law's where the arguments, and the package variables that the reading takes, are together of bulk at most 1048576: NARROWER than '..Said'. Prove '..Said' where nothing that the law and all that it calls make is longer than what came in: it says more and counts as full. Else prove '..UptoSaid'. A law counts once. -/
mutual
def uptoBulk {H : Type} : DataW H → Nat
  | .lit (.string bytes) => bytes.length + 1
  | .lit _ => 1
  | .nil => 1
  | .ptr d => uptoBulk d + 1
  | .slice elems spare => uptoBulkAll elems + uptoBulkAll spare + 1
  | .agg parts => uptoBulkAll parts + 1
  | .iface _ d => uptoBulk d + 1
  | .map entries => uptoBulkEntries entries + 1
  | .held _ => 1
def uptoBulkAll {H : Type} : List (DataW H) → Nat
  | [] => 0
  | d :: r => uptoBulk d + uptoBulkAll r
def uptoBulkEntries {H : Type} : List (Lit × DataW H) → Nat
  | [] => 0
  | x :: r => uptoBulkEntry x + uptoBulkEntries r
def uptoBulkEntry {H : Type} : Lit × DataW H → Nat
  | (.string bytes, d) => bytes.length + uptoBulk d + 1
  | (_, d) => uptoBulk d + 1
 end
def uptoSmall : (H : Type) → List (DataW H) → Bool := fun _ ds => decide (uptoBulkAll ds ≤ 1048576)
def OpenSpec.upto (s : _root_.Go.ChangeSpec) : _root_.Go.OpenSpec := { _root_.Go.OpenSpec.ofChange s with cond := some uptoSmall }

/-- 'sealwrightlaw28.ReplayRegisters', WHERE WHAT IT READS IS OF BULK AT MOST 1048576: true; the input reads as it did. -/
def replayRegistersUptoRow : OpenClaim := { program := "ytlakkalpdcjpnaadoor", sum := "4292ad88a2b4160c34466ae88aac31ca0bf80973184b1f3ce10cbd46badda5d3", func := "sealwright/sealwrightlaw28.ReplayRegisters", spec := "replayRegisters", inPlace := ["internal/bytealg.MakeNoZero"], recurses := true, named := ["sealwright/digest.round256"], apart := false, laid := [("sealwright/digest.round256", laid_sealwright_digest_round256)], narrowed := true }
def ReplayRegistersUptoSaid : Prop := replayRegistersUptoRow.holds Tryd.pinned (OpenSpec.upto replayRegistersSpec)

/-- 'sealwrightlaw28.ReplayReached', WHERE WHAT IT READS IS OF BULK AT MOST 1048576: true; the input reads as it did. -/
def replayReachedUptoRow : OpenClaim := { program := "ytlakkalpdcjpnaadoor", sum := "4292ad88a2b4160c34466ae88aac31ca0bf80973184b1f3ce10cbd46badda5d3", func := "sealwright/sealwrightlaw28.ReplayReached", spec := "replayReached", inPlace := ["internal/bytealg.MakeNoZero"], recurses := true, named := ["sealwright/digest.round256"], apart := false, laid := [("sealwright/digest.round256", laid_sealwright_digest_round256)], narrowed := true }
def ReplayReachedUptoSaid : Prop := replayReachedUptoRow.holds Tryd.pinned (OpenSpec.upto replayReachedSpec)

/-- 'sealwrightlaw28.ReplayFirst', WHERE WHAT IT READS IS OF BULK AT MOST 1048576: true; the input reads as it did. -/
def replayFirstUptoRow : OpenClaim := { program := "ytlakkalpdcjpnaadoor", sum := "4292ad88a2b4160c34466ae88aac31ca0bf80973184b1f3ce10cbd46badda5d3", func := "sealwright/sealwrightlaw28.ReplayFirst", spec := "replayFirst", inPlace := ["internal/bytealg.MakeNoZero"], recurses := true, named := ["sealwright/digest.round256"], apart := false, laid := [("sealwright/digest.round256", laid_sealwright_digest_round256)], narrowed := true }
def ReplayFirstUptoSaid : Prop := replayFirstUptoRow.holds Tryd.pinned (OpenSpec.upto replayFirstSpec)

/-- 'sealwrightlaw28.ReplayWhole', WHERE WHAT IT READS IS OF BULK AT MOST 1048576: true; the input reads as it did. -/
def replayWholeUptoRow : OpenClaim := { program := "ytlakkalpdcjpnaadoor", sum := "4292ad88a2b4160c34466ae88aac31ca0bf80973184b1f3ce10cbd46badda5d3", func := "sealwright/sealwrightlaw28.ReplayWhole", spec := "replayWhole", inPlace := ["internal/bytealg.MakeNoZero"], recurses := true, named := ["sealwright/digest.round256"], apart := false, laid := [("sealwright/digest.round256", laid_sealwright_digest_round256)], narrowed := true }
def ReplayWholeUptoSaid : Prop := replayWholeUptoRow.holds Tryd.pinned (OpenSpec.upto replayWholeSpec)

/-- 'sealwrightlaw28.ReplayOrder', WHERE WHAT IT READS IS OF BULK AT MOST 1048576: true; the input reads as it did. -/
def replayOrderUptoRow : OpenClaim := { program := "ytlakkalpdcjpnaadoor", sum := "4292ad88a2b4160c34466ae88aac31ca0bf80973184b1f3ce10cbd46badda5d3", func := "sealwright/sealwrightlaw28.ReplayOrder", spec := "replayOrder", inPlace := ["internal/bytealg.MakeNoZero"], recurses := true, named := ["sealwright/digest.round256"], apart := false, laid := [("sealwright/digest.round256", laid_sealwright_digest_round256)], narrowed := true }
def ReplayOrderUptoSaid : Prop := replayOrderUptoRow.holds Tryd.pinned (OpenSpec.upto replayOrderSpec)

/-- 'sealwrightlaw28.ReplayLast', WHERE WHAT IT READS IS OF BULK AT MOST 1048576: true; the input reads as it did. -/
def replayLastUptoRow : OpenClaim := { program := "ytlakkalpdcjpnaadoor", sum := "4292ad88a2b4160c34466ae88aac31ca0bf80973184b1f3ce10cbd46badda5d3", func := "sealwright/sealwrightlaw28.ReplayLast", spec := "replayLast", inPlace := ["internal/bytealg.MakeNoZero"], recurses := true, named := ["sealwright/digest.round256"], apart := false, laid := [("sealwright/digest.round256", laid_sealwright_digest_round256)], narrowed := true }
def ReplayLastUptoSaid : Prop := replayLastUptoRow.holds Tryd.pinned (OpenSpec.upto replayLastSpec)

/-- 'sealwrightlaw28.ReplayDigest', WHERE WHAT IT READS IS OF BULK AT MOST 1048576: true; the input reads as it did. -/
def replayDigestUptoRow : OpenClaim := { program := "ytlakkalpdcjpnaadoor", sum := "4292ad88a2b4160c34466ae88aac31ca0bf80973184b1f3ce10cbd46badda5d3", func := "sealwright/sealwrightlaw28.ReplayDigest", spec := "replayDigest", inPlace := ["internal/bytealg.MakeNoZero"], recurses := true, named := ["sealwright/digest.round256"], apart := false, laid := [("sealwright/digest.round256", laid_sealwright_digest_round256)], narrowed := true }
def ReplayDigestUptoSaid : Prop := replayDigestUptoRow.holds Tryd.pinned (OpenSpec.upto replayDigestSpec)

end Rows
end Go.Proofs.YtlakkalpdcjpnaaDoor
