/- The law TopTrial answers true for every input, and each argument reads behind the call as it read before; its listed variables are tied to the program text. -/
import Derived.Test.YtlhjonbjbiafaaaGreatDoorU33
import Derived.Test.YtlhjonbjbiafaaaGreatDoorU35
import Derived.Test.YtlhjonbjbiafaaaGreatDoorCards
import Derived.Test.YtlhjonbjbiafaaaGreatDoorTie
set_option linter.unusedSimpArgs false
set_option linter.unusedVariables false
set_option maxRecDepth 100000
set_option maxHeartbeats 64000000
namespace Go.Proofs.YtlhjonbjbiafaaaGreatDoor
open Go.Eng Go.ChangeShapes Go.WideShapes Go.ChangeAt Go.WideElems Go.RowKit

theorem topTrial_law (ys : List T) (h : qAg (fun (ty : Ty) (y : T) => ty.is y) [.sl (.int .u8), .sl (.int .u8), .int .i64, .sl (.int .u8)] ys) : Go.Eng.zDf Tryz.prog gl0 4 (ys.map V.t) [] (.t (.bool true)) [] := by
  cases h with
  | cons h0 h =>
  cases h with
  | cons h1 h =>
  cases h with
  | cons h2 h =>
  cases h with
  | cons h3 h =>
  cases h
  obtain ⟨a, ha, rfl⟩ := qAy h0
  obtain ⟨b, hb, rfl⟩ := qAy h1
  obtain ⟨m, _, rfl⟩ := qWs h2
  obtain ⟨x, hx, rfl⟩ := qAy h3
  exact qUb a b m x ⟨ha, hb, hx⟩
theorem topTrial_lifted (os : Os) (started : os.Started) (H : Type) (enc : TypeId × Value → H) :
    ReturnsInHanded {} Tryz.checked os 4 .any (fun w args => (Rows.topTrialSpec.pre enc Tryz.prog Tryz.f4 [] false w args ∧ laidMetH Tryz.prog qA4 w) ∧ sizedMet enc Tryz.prog Tryz.f4 (OpenSpec.ofChange Rows.topTrialSpec) false w args)
      (Rows.topTrialSpec.post enc Tryz.prog Tryz.f4 false true false false) :=
  qWu (C := Tryz.checked) (tys := [.sl (.int .u8), .sl (.int .u8), .int .i64, .sl (.int .u8)]) (G := gl0) (tb := jK2) jF4 started (by as_aux_lemma => kernel_rfl) Tryz.func4
    (ChangeSpec.witness_shaped (enc := enc) (C := Tryz.checked) (os := os) (X := fun w _ => laidMetH Tryz.prog qA4 w) false (World.laidAll Tryz.prog os qA4) #[.slice none 0 0, .slice none 0 0, .int .i64 0, .slice none 0 0] 8 (World.laidAll_os _ _ _) (zHj os _) (by as_aux_lemma => kernel_rfl) (by as_aux_lemma => kernel_rfl) (by as_aux_lemma => kernel_rfl) (zGu os _))
    zB5 (by as_aux_lemma => kernel_rfl) (by as_aux_lemma => kernel_rfl) zWg rfl
    (fun ds hd => match ds, hd with | [_, _, _, _], _ => ⟨rfl, rfl, rfl⟩)
    (by rw [Tryz.params4]; exact .cons (by as_aux_lemma => kernel_rfl) (.cons (by as_aux_lemma => kernel_rfl) (.cons (by as_aux_lemma => kernel_rfl) (.cons (by as_aux_lemma => kernel_rfl) (.nil))))) jF2 topTrial_law
theorem topTrial_holds : Rows.TopTrialSaid :=
  OpenClaim.holds_of_wide 4 Tryz.f4 rfl rfl rfl rfl rfl rfl rfl ⟨rfl, rfl, rfl, rfl, rfl⟩ rfl rfl rfl rfl rfl (by as_aux_lemma => kernel_rfl) Tryz.func4 (by unfold joinedFacts; simp only [Bool.and_eq_true]; (repeat' apply And.intro); all_goals (as_aux_lemma => kernel_rfl))
    (of_decide_eq_true (by as_aux_lemma => kernel_rfl)) (by unfold Func.isWrapper; first | (rw [if_pos (by decide +kernel)]; kernel_rfl) | (rw [if_neg (by decide +kernel)]; exact ⟨rfl, rfl⟩))
    (fun os started H enc _ => topTrial_lifted os started H enc)
theorem topTrial_card : Rows.TopTrialCardSaid :=
  Claim7.holds_tied_plain_at .later [] [.data, .widerDeep, .data, .data, .pinned] true (true, "c8c0222e43d7616cf0a624281a4b1c095cd8b732f3e52d48fa91a6e7add95932") false
    topTrial_holds (fun _ h => by cases h) (by as_aux_lemma => kernel_rfl) (fun _ h => by cases h) topTrial_row_tie rfl ⟨rfl, rfl⟩ (by as_aux_lemma => kernel_rfl) rfl
    (fun f fn hf hfn => by
      obtain rfl : f = 4 := Option.some.inj ((show Tryz.prog.funcNamed "sealwright/sealwrighttop.TopTrial" = some 4 by as_aux_lemma => kernel_rfl).symm.trans hf) |>.symm
      obtain rfl : fn = Tryz.f4 := (Option.some.inj (Tryz.func4.symm.trans hfn)).symm
      exact ⟨by as_aux_lemma => kernel_rfl, fun j t ht => by
        have hm : t ∈ Tryz.f4.params.toList := by simpa using Array.mem_of_getElem? ht
        have hall : (Tryz.f4.params.toList.all fun u => !Tryz.prog.wantsStandIn u) = true := by as_aux_lemma => kernel_rfl
        exact (show Tryz.prog.wantsStandIn t = false by simpa using List.all_eq_true.1 hall t hm)⟩)
    (by as_aux_lemma => kernel_rfl)
end Go.Proofs.YtlhjonbjbiafaaaGreatDoor
