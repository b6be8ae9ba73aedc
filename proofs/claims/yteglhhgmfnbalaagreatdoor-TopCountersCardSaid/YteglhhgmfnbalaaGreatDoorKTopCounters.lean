/- The law TopCounters answers true for every input, and each argument reads behind the call as it read before; its listed variables are tied to the program text. -/
import Derived.Test.YteglhhgmfnbalaaGreatDoorK35
import Derived.Test.YteglhhgmfnbalaaGreatDoorK38
import Derived.Test.YteglhhgmfnbalaaGreatDoorCards
import Derived.Test.YteglhhgmfnbalaaGreatDoorTie
set_option linter.unusedSimpArgs false
set_option linter.unusedVariables false
set_option maxRecDepth 100000
set_option maxHeartbeats 64000000
namespace Go.Proofs.YteglhhgmfnbalaaGreatDoor
open Go.Eng Go.ChangeShapes Go.WideShapes Go.ChangeAt Go.WideElems Go.RowKit

theorem topCounters_law (ys : List T) (h : xU (fun (ty : Ty) (y : T) => ty.is y) [.sl (.int .u8), .sl (.int .u8)] ys) : Go.Eng.zJz Tryz.prog gl0 3 (ys.map V.t) [] (.t (.bool true)) [] := by
  cases h with
  | cons h0 h =>
  cases h with
  | cons h1 h =>
  cases h
  obtain ⟨a, ha, rfl⟩ := qQr h0
  obtain ⟨b, hb, rfl⟩ := qQr h1
  exact qRb a b ⟨ha, hb⟩
theorem topCounters_lifted (os : Os) (started : os.Started) (H : Type) (enc : TypeId × Value → H) :
    ReturnsInHanded {} Tryz.checked os 3 .any (fun w args => (Rows.topCountersSpec.pre enc Tryz.prog Tryz.f3 [] false w args ∧ laidMetH Tryz.prog qFh w) ∧ sizedMet enc Tryz.prog Tryz.f3 (OpenSpec.ofChange Rows.topCountersSpec) false w args)
      (Rows.topCountersSpec.post enc Tryz.prog Tryz.f3 false true false false) :=
  zNo (C := Tryz.checked) (tys := [.sl (.int .u8), .sl (.int .u8)]) (G := gl0) (tb := yDg) jW1 started (by as_aux_lemma => kernel_rfl) Tryz.func3
    (ChangeSpec.witness_shaped (enc := enc) (C := Tryz.checked) (os := os) (X := fun w _ => laidMetH Tryz.prog qFh w) false (World.laidAll Tryz.prog os qFh) #[.slice none 0 0, .slice none 0 0] 8 (World.laidAll_os _ _ _) (jAf os _) (by as_aux_lemma => kernel_rfl) (by as_aux_lemma => kernel_rfl) (by as_aux_lemma => kernel_rfl) (zW6 os _))
    zT0 (by as_aux_lemma => kernel_rfl) (by as_aux_lemma => kernel_rfl) jPt rfl
    (fun ds hd => match ds, hd with | [_, _], _ => ⟨rfl, rfl, rfl⟩)
    (by rw [Tryz.params3]; exact .cons (by as_aux_lemma => kernel_rfl) (.cons (by as_aux_lemma => kernel_rfl) (.nil))) jWy topCounters_law
theorem topCounters_holds : Rows.TopCountersSaid :=
  OpenClaim.holds_of_wide 3 Tryz.f3 rfl rfl rfl rfl rfl rfl rfl ⟨rfl, rfl, rfl, rfl, rfl⟩ rfl rfl rfl rfl rfl (by as_aux_lemma => kernel_rfl) Tryz.func3 (by unfold joinedFacts; simp only [Bool.and_eq_true]; (repeat' apply And.intro); all_goals (as_aux_lemma => kernel_rfl))
    (of_decide_eq_true (by as_aux_lemma => kernel_rfl)) (by unfold Func.isWrapper; first | (rw [if_pos (by decide +kernel)]; kernel_rfl) | (rw [if_neg (by decide +kernel)]; exact ⟨rfl, rfl⟩))
    (fun os started H enc _ => topCounters_lifted os started H enc)
theorem topCounters_card : Rows.TopCountersCardSaid :=
  Claim7.holds_tied_plain_at .later [] [.data, .widerDeep, .data, .data, .pinned] true (true, "c10a7f3bb6ffbaca9be176f9c4d7384b02320416f7845089ebf9663161cbeea4") false
    topCounters_holds (fun _ h => by cases h) (by as_aux_lemma => kernel_rfl) (fun _ h => by cases h) topCounters_row_tie rfl ⟨rfl, rfl⟩ (by as_aux_lemma => kernel_rfl) rfl
    (fun f fn hf hfn => by
      obtain rfl : f = 3 := Option.some.inj ((show Tryz.prog.funcNamed "sealwright/sealwrighttop.TopCounters" = some 3 by as_aux_lemma => kernel_rfl).symm.trans hf) |>.symm
      obtain rfl : fn = Tryz.f3 := (Option.some.inj (Tryz.func3.symm.trans hfn)).symm
      exact ⟨by as_aux_lemma => kernel_rfl, fun j t ht => by
        have hm : t ∈ Tryz.f3.params.toList := by simpa using Array.mem_of_getElem? ht
        have hall : (Tryz.f3.params.toList.all fun u => !Tryz.prog.wantsStandIn u) = true := by as_aux_lemma => kernel_rfl
        exact (show Tryz.prog.wantsStandIn t = false by simpa using List.all_eq_true.1 hall t hm)⟩)
    (by as_aux_lemma => kernel_rfl)
end Go.Proofs.YteglhhgmfnbalaaGreatDoor
