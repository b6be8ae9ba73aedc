/- The law PredictDistinct answers true for every input, and each argument reads behind the call as it read before; its listed variables are tied to the program text. -/
import Derived.Test.YtldnhemfgkfiiaaGreatDoorU6
import Derived.Test.YtldnhemfgkfiiaaGreatDoorCards
import Derived.Test.YtldnhemfgkfiiaaGreatDoorTie
set_option linter.unusedSimpArgs false
set_option linter.unusedVariables false
set_option maxRecDepth 100000
namespace Go.Proofs.YtldnhemfgkfiiaaGreatDoor
open Go.Eng Go.ChangeShapes Go.WideShapes Go.ChangeAt Go.WideElems Go.RowKit

theorem predictDistinct_law (ys : List T) (h : All2 (fun (ty : Ty) (y : T) => ty.is y) [.sl (.int .u8), .sl (.int .u8), .int .i64, .int .i64, .bool] ys) : Go.Eng.Spec Tryz.prog gl0 5 (ys.map V.t) [] (.t (.bool true)) [] := by
  cases h with
  | cons h0 h =>
  cases h with
  | cons h1 h =>
  cases h with
  | cons h2 h =>
  cases h with
  | cons h3 h =>
  cases h with
  | cons h4 h =>
  cases h
  obtain ⟨a, hla, rfl⟩ := is_bytes h0
  obtain ⟨b, hlb, rfl⟩ := is_bytes h1
  obtain ⟨act, hact, rfl⟩ := is_int h2
  obtain ⟨att, hatt, rfl⟩ := is_int h3
  obtain ⟨same, rfl⟩ := is_bool h4
  exact sp_law29_PredictDistinct tab109 tab109_ok rfl rfl rfl rfl rfl rfl rfl rfl rfl rfl rfl rfl rfl a b hla hlb act att hact hatt same
theorem predictDistinct_lifted (os : Os) (started : os.Started) (H : Type) (enc : TypeId × Value → H) :
    ReturnsInHanded {} Tryz.checked os 5 .any (fun w args => (Rows.predictDistinctSpec.pre enc Tryz.prog Tryz.f5 [] false w args ∧ laidMetH Tryz.prog theLaid w) ∧ sizedMet enc Tryz.prog Tryz.f5 (OpenSpec.ofChange Rows.predictDistinctSpec) false w args)
      (Rows.predictDistinctSpec.post enc Tryz.prog Tryz.f5 false true false false) :=
  law_lifted (C := Tryz.checked) (tys := [.sl (.int .u8), .sl (.int .u8), .int .i64, .int .i64, .bool]) (G := gl0) (tb := s_tb) s_own started (by kernel_rfl) Tryz.func5
    (ChangeSpec.witness_shaped (enc := enc) (C := Tryz.checked) (os := os) (X := fun w _ => laidMetH Tryz.prog theLaid w) false (World.doorLaid Tryz.prog 400 os) #[.slice none 0 0, .slice none 0 0, .int .i64 0, .int .i64 0, .bool false] 8 rfl (s_shaped os _) (by kernel_rfl) (by kernel_rfl) (by kernel_rfl) (door_met os _))
    s_laidOut (by kernel_rfl) (by kernel_rfl) s_bool rfl
    (fun ds hd => match ds, hd with | [_, _, _, _, _], _ => ⟨rfl, rfl, rfl⟩)
    (by rw [Tryz.params5]; exact .cons (by kernel_rfl) (.cons (by kernel_rfl) (.cons (by kernel_rfl) (.cons (by kernel_rfl) (.cons (by kernel_rfl) (.nil)))))) s_env predictDistinct_law
theorem predictDistinct_holds : Rows.PredictDistinctSaid :=
  OpenClaim.holds_of_wide 5 Tryz.f5 rfl rfl rfl rfl rfl rfl rfl ⟨rfl, rfl, rfl, rfl, rfl⟩ rfl rfl rfl rfl rfl (by kernel_rfl) Tryz.func5 (by kernel_rfl)
    (of_decide_eq_true (by kernel_rfl)) (by unfold Func.isWrapper; first | (rw [if_pos (by decide +kernel)]; kernel_rfl) | (rw [if_neg (by decide +kernel)]; exact ⟨rfl, rfl⟩))
    (fun os started H enc _ => predictDistinct_lifted os started H enc)
theorem predictDistinct_card : Rows.PredictDistinctCardSaid :=
  Claim7.holds_tied_plain_at .later [] [.data, .data, .data, .data, .data] true (true, "3f6014dba7cfa4af7e58f295f4a95bce4be9ae8810305c0a8e6e01419892bf57") false
    predictDistinct_holds (fun _ h => by cases h) (by kernel_rfl) (fun _ h => by cases h) predictDistinct_row_tie rfl ⟨rfl, rfl⟩ (by kernel_rfl) rfl
    (fun f fn hf hfn => by
      obtain rfl : f = 5 := Option.some.inj ((show Tryz.prog.funcNamed "sealwright/sealwrightlaw29.PredictDistinct" = some 5 by kernel_rfl).symm.trans hf) |>.symm
      obtain rfl : fn = Tryz.f5 := (Option.some.inj (Tryz.func5.symm.trans hfn)).symm
      exact ⟨by kernel_rfl, fun j t ht => by
        have hm : t ∈ Tryz.f5.params.toList := by simpa using Array.mem_of_getElem? ht
        have hall : (Tryz.f5.params.toList.all fun u => !Tryz.prog.wantsStandIn u) = true := by kernel_rfl
        exact (show Tryz.prog.wantsStandIn t = false by simpa using List.all_eq_true.1 hall t hm)⟩)
    (by kernel_rfl)
end Go.Proofs.YtldnhemfgkfiiaaGreatDoor
