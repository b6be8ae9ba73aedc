/- The law TopEpoch answers true for every input, and each argument reads behind the call as it read before; its listed variables are tied to the program text. -/
import Derived.Test.YtpolalhffkhimaaGreatDoorE34
import Derived.Test.YtpolalhffkhimaaGreatDoorE35
import Derived.Test.YtpolalhffkhimaaGreatDoorCards
import Derived.Test.YtpolalhffkhimaaGreatDoorTie
set_option linter.unusedSimpArgs false
set_option linter.unusedVariables false
set_option maxRecDepth 100000
set_option maxHeartbeats 64000000
namespace Go.Proofs.YtpolalhffkhimaaGreatDoor
open Go.Eng Go.ChangeShapes Go.WideShapes Go.ChangeAt Go.WideElems Go.RowKit

theorem topEpoch_law (ys : List T) (h : xT (fun (ty : Ty) (y : T) => ty.is y) [.sl (.int .u8), .int .u8, .sl (.int .u8)] ys) : Go.Eng.zFp Tryz.prog gl0 3 (ys.map V.t) [] (.t (.bool true)) [] := by
  cases h with
  | cons h0 h =>
  cases h with
  | cons h1 h =>
  cases h with
  | cons h2 h =>
  cases h
  obtain ⟨a, ha, rfl⟩ := qN3 h0
  obtain ⟨x, rfl⟩ := jEn h1
  obtain ⟨d, hd, rfl⟩ := qN3 h2
  exact qUo a x d ⟨ha, hd⟩
theorem topEpoch_lifted (os : Os) (started : os.Started) (H : Type) (enc : TypeId × Value → H) :
    ReturnsInHanded {} Tryz.checked os 3 .any (fun w args => (Rows.topEpochSpec.pre enc Tryz.prog Tryz.f3 [] false w args ∧ laidMetH Tryz.prog qDy w) ∧ sizedMet enc Tryz.prog Tryz.f3 (OpenSpec.ofChange Rows.topEpochSpec) false w args)
      (Rows.topEpochSpec.post enc Tryz.prog Tryz.f3 false true false false) :=
  zIg (C := Tryz.checked) (tys := [.sl (.int .u8), .int .u8, .sl (.int .u8)]) (G := gl0) (tb := jRo) jL3 started (by as_aux_lemma => kernel_rfl) Tryz.func3
    (ChangeSpec.witness_shaped (enc := enc) (C := Tryz.checked) (os := os) (X := fun w _ => laidMetH Tryz.prog qDy w) false (World.laidAll Tryz.prog os qDy) #[.slice none 0 0, .int .u8 0, .slice none 0 0] 8 (World.laidAll_os _ _ _) (zTm os _) (by as_aux_lemma => kernel_rfl) (by as_aux_lemma => kernel_rfl) (by as_aux_lemma => kernel_rfl) (zQr os _))
    zNt (by as_aux_lemma => kernel_rfl) (by as_aux_lemma => kernel_rfl) jGw rfl
    (fun ds hd => match ds, hd with | [_, _, _], _ => ⟨rfl, rfl, rfl⟩)
    (by rw [Tryz.params3]; exact .cons (by as_aux_lemma => kernel_rfl) (.cons (by as_aux_lemma => kernel_rfl) (.cons (by as_aux_lemma => kernel_rfl) (.nil)))) jL0 topEpoch_law
theorem topEpoch_holds : Rows.TopEpochSaid :=
  OpenClaim.holds_of_wide 3 Tryz.f3 rfl rfl rfl rfl rfl rfl rfl ⟨rfl, rfl, rfl, rfl, rfl⟩ rfl rfl rfl rfl rfl (by as_aux_lemma => kernel_rfl) Tryz.func3 (by unfold joinedFacts; simp only [Bool.and_eq_true]; (repeat' apply And.intro); all_goals (as_aux_lemma => kernel_rfl))
    (of_decide_eq_true (by as_aux_lemma => kernel_rfl)) (by unfold Func.isWrapper; first | (rw [if_pos (by decide +kernel)]; kernel_rfl) | (rw [if_neg (by decide +kernel)]; exact ⟨rfl, rfl⟩))
    (fun os started H enc _ => topEpoch_lifted os started H enc)
theorem topEpoch_card : Rows.TopEpochCardSaid :=
  Claim7.holds_tied_plain_at .later [] [.data, .widerDeep, .data, .data, .pinned] true (true, "8b7016b62ed3b555137f6951e15ec0fa2d83be9f7c267cb428b14a8b0d2b5314") false
    topEpoch_holds (fun _ h => by cases h) (by as_aux_lemma => kernel_rfl) (fun _ h => by cases h) topEpoch_row_tie rfl ⟨rfl, rfl⟩ (by as_aux_lemma => kernel_rfl) rfl
    (fun f fn hf hfn => by
      obtain rfl : f = 3 := Option.some.inj ((show Tryz.prog.funcNamed "sealwright/sealwrighttop.TopEpoch" = some 3 by as_aux_lemma => kernel_rfl).symm.trans hf) |>.symm
      obtain rfl : fn = Tryz.f3 := (Option.some.inj (Tryz.func3.symm.trans hfn)).symm
      exact ⟨by as_aux_lemma => kernel_rfl, fun j t ht => by
        have hm : t ∈ Tryz.f3.params.toList := by simpa using Array.mem_of_getElem? ht
        have hall : (Tryz.f3.params.toList.all fun u => !Tryz.prog.wantsStandIn u) = true := by as_aux_lemma => kernel_rfl
        exact (show Tryz.prog.wantsStandIn t = false by simpa using List.all_eq_true.1 hall t hm)⟩)
    (by as_aux_lemma => kernel_rfl)
end Go.Proofs.YtpolalhffkhimaaGreatDoor
