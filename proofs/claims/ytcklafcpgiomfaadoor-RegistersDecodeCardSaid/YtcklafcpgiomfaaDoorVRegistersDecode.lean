/- The law RegistersDecode answers true for every input, and each argument reads behind the call as it read before; its one listed variable is tied to the program text. -/
import Derived.Test.YtcklafcpgiomfaaDoorV6
import Derived.Test.YtcklafcpgiomfaaDoorCards
import Derived.Test.YtcklafcpgiomfaaDoorTie
set_option linter.unusedSimpArgs false
set_option linter.unusedVariables false
set_option maxRecDepth 100000
namespace Go.Proofs.YtcklafcpgiomfaaDoor
open Go.Eng Go.ChangeShapes Go.WideShapes Go.ChangeAt Go.WideElems Go.RowKit

theorem registersDecode_law (ys : List T) (h : All2 (fun (ty : Ty) (y : T) => ty.is y) [.int .i64, .sl (.int .u8), .int .i64, .int .u8, .int .i64, .sl (.int .u8)] ys) : Go.Eng.Spec Tryd.prog gl0 12 (ys.map V.t) [] (.t (.bool true)) [] := by
  cases h with
  | cons h0 h =>
  cases h with
  | cons h1 h =>
  cases h with
  | cons h2 h =>
  cases h with
  | cons h3 h =>
  cases h with
  | cons h4 h =>
  cases h with
  | cons h5 h =>
  cases h
  obtain ⟨s, _, rfl⟩ := is_int h0
  obtain ⟨cs, hcs, rfl⟩ := is_bytes h1
  obtain ⟨at_, _, rfl⟩ := is_int h2
  obtain ⟨x, rfl⟩ := is_u8 h3
  obtain ⟨n, _, rfl⟩ := is_int h4
  obtain ⟨raw, _, rfl⟩ := is_bytes h5
  exact sp_law8_RegistersDecode tab72 tab72_ok rfl rfl rfl rfl rfl rfl s cs hcs at_ x n raw
theorem registersDecode_lifted (os : Os) (started : os.Started) (H : Type) (enc : TypeId × Value → H) :
    ReturnsInHanded {} Tryd.checked os 12 .any (fun w args => (Rows.registersDecodeSpec.pre enc Tryd.prog Tryd.f12 [] false w args ∧ laidMetH Tryd.prog theLaid w) ∧ sizedMet enc Tryd.prog Tryd.f12 (OpenSpec.ofChange Rows.registersDecodeSpec) false w args)
      (Rows.registersDecodeSpec.post enc Tryd.prog Tryd.f12 false true false false) :=
  law_lifted (C := Tryd.checked) (tys := [.int .i64, .sl (.int .u8), .int .i64, .int .u8, .int .i64, .sl (.int .u8)]) (G := gl0) (tb := s_tb) s_own started (by kernel_rfl) Tryd.func12
    (ChangeSpec.witness_shaped (enc := enc) (C := Tryd.checked) (os := os) (X := fun w _ => laidMetH Tryd.prog theLaid w) false (World.doorLaid Tryd.prog 400 os) #[.int .i64 0, .slice none 0 0, .int .i64 0, .int .u8 0, .int .i64 0, .slice none 0 0] 8 rfl (s_shaped os _) (by kernel_rfl) (by kernel_rfl) (by kernel_rfl) (door_met os _))
    s_laidOut (by kernel_rfl) (by kernel_rfl) s_bool rfl
    (fun ds hd => match ds, hd with | [_, _, _, _, _, _], _ => ⟨rfl, rfl, rfl⟩)
    (by rw [Tryd.params12]; exact .cons (by kernel_rfl) (.cons (by kernel_rfl) (.cons (by kernel_rfl) (.cons (by kernel_rfl) (.cons (by kernel_rfl) (.cons (by kernel_rfl) (.nil))))))) s_env registersDecode_law
theorem registersDecode_holds : Rows.RegistersDecodeSaid :=
  OpenClaim.holds_of_wide 12 Tryd.f12 rfl rfl rfl rfl rfl rfl rfl ⟨rfl, rfl, rfl, rfl, rfl⟩ rfl rfl rfl rfl rfl (by kernel_rfl) Tryd.func12 (by kernel_rfl)
    (of_decide_eq_true (by kernel_rfl)) (by unfold Func.isWrapper; first | (rw [if_pos (by decide +kernel)]; kernel_rfl) | (rw [if_neg (by decide +kernel)]; exact ⟨rfl, rfl⟩))
    (fun os started H enc _ => registersDecode_lifted os started H enc)
theorem registersDecode_card : Rows.RegistersDecodeCardSaid :=
  Claim7.holds_tied_plain_at .later [] [.data] true (true, "04bdc109f00f5ba0829ad89f20ba293e160b33a5aa84f246ce56832c2e90f937") false
    registersDecode_holds (fun _ h => by cases h) (by kernel_rfl) (fun _ h => by cases h) registersDecode_row_tie rfl ⟨rfl, rfl⟩ (by kernel_rfl) rfl
    (fun f fn hf hfn => by
      obtain rfl : f = 12 := Option.some.inj ((show Tryd.prog.funcNamed "sealwright/sealwrightlaw8.RegistersDecode" = some 12 by kernel_rfl).symm.trans hf) |>.symm
      obtain rfl : fn = Tryd.f12 := (Option.some.inj (Tryd.func12.symm.trans hfn)).symm
      exact ⟨by kernel_rfl, fun j t ht => by
        have hm : t ∈ Tryd.f12.params.toList := by simpa using Array.mem_of_getElem? ht
        have hall : (Tryd.f12.params.toList.all fun u => !Tryd.prog.wantsStandIn u) = true := by kernel_rfl
        exact (show Tryd.prog.wantsStandIn t = false by simpa using List.all_eq_true.1 hall t hm)⟩)
    (by kernel_rfl)
end Go.Proofs.YtcklafcpgiomfaaDoor
