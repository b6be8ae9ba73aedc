/- The law PredictReplay answers true for every input, and each argument reads behind the call as it read before; its listed variables are tied to the program text. -/
import Derived.Test.YtldnhemfgkfiiaaDoorQ6
import Derived.Test.YtldnhemfgkfiiaaDoorCards
import Derived.Test.YtldnhemfgkfiiaaDoorTie
set_option linter.unusedSimpArgs false
set_option linter.unusedVariables false
set_option maxRecDepth 100000
namespace Go.Proofs.YtldnhemfgkfiiaaDoor
open Go.Eng Go.ChangeShapes Go.WideShapes Go.ChangeAt Go.WideElems Go.RowKit

theorem predictReplay_law (ys : List T) (h : All2 (fun (ty : Ty) (y : T) => ty.is y) [.sl (.int .u8), .int .i64] ys) : Go.Eng.Spec Tryd.prog gl0 6 (ys.map V.t) [] (.t (.bool true)) [] := by
  cases h with
  | cons h0 h =>
  cases h with
  | cons h1 h =>
  cases h
  obtain ⟨cs, hcs, rfl⟩ := is_bytes h0
  obtain ⟨a, ha, rfl⟩ := is_int h1
  exact sp_law29_PredictReplay tab82 tab82_ok rfl rfl rfl rfl rfl rfl rfl cs hcs a ha
theorem predictReplay_lifted (os : Os) (started : os.Started) (H : Type) (enc : TypeId × Value → H) :
    ReturnsInHanded {} Tryd.checked os 6 .any (fun w args => (Rows.predictReplaySpec.pre enc Tryd.prog Tryd.f6 [] false w args ∧ laidMetH Tryd.prog theLaid w) ∧ sizedMet enc Tryd.prog Tryd.f6 (OpenSpec.ofChange Rows.predictReplaySpec) false w args)
      (Rows.predictReplaySpec.post enc Tryd.prog Tryd.f6 false true false false) :=
  law_lifted (C := Tryd.checked) (tys := [.sl (.int .u8), .int .i64]) (G := gl0) (tb := s_tb) s_own started (by kernel_rfl) Tryd.func6
    (ChangeSpec.witness_shaped (enc := enc) (C := Tryd.checked) (os := os) (X := fun w _ => laidMetH Tryd.prog theLaid w) false (World.doorLaid Tryd.prog 400 os) #[.slice none 0 0, .int .i64 0] 8 rfl (s_shaped os _) (by kernel_rfl) (by kernel_rfl) (by kernel_rfl) (door_met os _))
    s_laidOut (by kernel_rfl) (by kernel_rfl) s_bool rfl
    (fun ds hd => match ds, hd with | [_, _], _ => ⟨rfl, rfl, rfl⟩)
    (by rw [Tryd.params6]; exact .cons (by kernel_rfl) (.cons (by kernel_rfl) (.nil))) s_env predictReplay_law
theorem predictReplay_holds : Rows.PredictReplaySaid :=
  OpenClaim.holds_of_wide 6 Tryd.f6 rfl rfl rfl rfl rfl rfl rfl ⟨rfl, rfl, rfl, rfl, rfl⟩ rfl rfl rfl rfl rfl (by kernel_rfl) Tryd.func6 (by kernel_rfl)
    (of_decide_eq_true (by kernel_rfl)) (by unfold Func.isWrapper; first | (rw [if_pos (by decide +kernel)]; kernel_rfl) | (rw [if_neg (by decide +kernel)]; exact ⟨rfl, rfl⟩))
    (fun os started H enc _ => predictReplay_lifted os started H enc)
theorem predictReplay_card : Rows.PredictReplayCardSaid :=
  Claim7.holds_tied_plain_at .later [] [.data, .data, .data, .data, .data] true (true, "6ceb6f351ff0bda4f78d944c0701c4868cec07ee5bac5a97db972a6b38850b88") false
    predictReplay_holds (fun _ h => by cases h) (by kernel_rfl) (fun _ h => by cases h) predictReplay_row_tie rfl ⟨rfl, rfl⟩ (by kernel_rfl) rfl
    (fun f fn hf hfn => by
      obtain rfl : f = 6 := Option.some.inj ((show Tryd.prog.funcNamed "sealwright/sealwrightlaw29.PredictReplay" = some 6 by kernel_rfl).symm.trans hf) |>.symm
      obtain rfl : fn = Tryd.f6 := (Option.some.inj (Tryd.func6.symm.trans hfn)).symm
      exact ⟨by kernel_rfl, fun j t ht => by
        have hm : t ∈ Tryd.f6.params.toList := by simpa using Array.mem_of_getElem? ht
        have hall : (Tryd.f6.params.toList.all fun u => !Tryd.prog.wantsStandIn u) = true := by kernel_rfl
        exact (show Tryd.prog.wantsStandIn t = false by simpa using List.all_eq_true.1 hall t hm)⟩)
    (by kernel_rfl)
end Go.Proofs.YtldnhemfgkfiiaaDoor
