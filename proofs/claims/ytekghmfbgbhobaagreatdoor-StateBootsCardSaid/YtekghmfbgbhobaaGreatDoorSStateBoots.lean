/- The law StateBoots answers true for every input, and each argument reads behind the call as it read before; its listed variables are tied to the program text. -/
import Derived.Test.YtekghmfbgbhobaaGreatDoorS49
import Derived.Test.YtekghmfbgbhobaaGreatDoorS53
import Derived.Test.YtekghmfbgbhobaaGreatDoorCards
import Derived.Test.YtekghmfbgbhobaaGreatDoorTie
set_option linter.unusedSimpArgs false
set_option linter.unusedVariables false
set_option maxRecDepth 100000
set_option maxHeartbeats 64000000
namespace Go.Proofs.YtekghmfbgbhobaaGreatDoor
open Go.Eng Go.ChangeShapes Go.WideShapes Go.ChangeAt Go.WideElems Go.RowKit

theorem stateBoots_law (ys : List T) (h : qAh (fun (ty : Ty) (y : T) => ty.is y) [.int .i64, .sl (.int .u8), .sl (.int .u8)] ys) : Go.Eng.qXf Tryz.prog gl0 6 (ys.map V.t) [] (.t (.bool true)) [] := by
  cases h with
  | cons h0 h =>
  cases h with
  | cons h1 h =>
  cases h with
  | cons h2 h =>
  cases h
  obtain ⟨a, _, rfl⟩ := qJ1 h0
  obtain ⟨cs, hcs, rfl⟩ := qCp h1
  obtain ⟨ms, hms, rfl⟩ := qCp h2
  exact qN5 a cs ms ⟨hcs, hms⟩
theorem stateBoots_lifted (os : Os) (started : os.Started) (H : Type) (enc : TypeId × Value → H) :
    ReturnsInHanded {} Tryz.checked os 6 .any (fun w args => (Rows.stateBootsSpec.pre enc Tryz.prog Tryz.f6 [] false w args ∧ laidMetH Tryz.prog qB7 w) ∧ sizedMet enc Tryz.prog Tryz.f6 (OpenSpec.ofChange Rows.stateBootsSpec) false w args)
      (Rows.stateBootsSpec.post enc Tryz.prog Tryz.f6 false true false false) :=
  qKi (C := Tryz.checked) (tys := [.int .i64, .sl (.int .u8), .sl (.int .u8)]) (G := gl0) (tb := jFl) zSs started (by kernel_rfl) Tryz.func6
    (ChangeSpec.witness_shaped (enc := enc) (C := Tryz.checked) (os := os) (X := fun w _ => laidMetH Tryz.prog qB7 w) false (World.doorLaid Tryz.prog 400 os) #[.int .i64 0, .slice none 0 0, .slice none 0 0] 8 rfl (qSd os _) (by kernel_rfl) (by kernel_rfl) (by kernel_rfl) (qR7 os _))
    qO4 (by kernel_rfl) (by kernel_rfl) zHi rfl
    (fun ds hd => match ds, hd with | [_, _, _], _ => ⟨rfl, rfl, rfl⟩)
    (by rw [Tryz.params6]; exact .cons (by kernel_rfl) (.cons (by kernel_rfl) (.cons (by kernel_rfl) (.nil)))) zSq stateBoots_law
theorem stateBoots_holds : Rows.StateBootsSaid :=
  OpenClaim.holds_of_wide 6 Tryz.f6 rfl rfl rfl rfl rfl rfl rfl ⟨rfl, rfl, rfl, rfl, rfl⟩ rfl rfl rfl rfl rfl (by kernel_rfl) Tryz.func6 (by unfold joinedFacts; simp only [Bool.and_eq_true]; (repeat' apply And.intro); all_goals (as_aux_lemma => kernel_rfl))
    (of_decide_eq_true (by kernel_rfl)) (by unfold Func.isWrapper; first | (rw [if_pos (by decide +kernel)]; kernel_rfl) | (rw [if_neg (by decide +kernel)]; exact ⟨rfl, rfl⟩))
    (fun os started H enc _ => stateBoots_lifted os started H enc)
theorem stateBoots_card : Rows.StateBootsCardSaid :=
  Claim7.holds_tied_plain_at .later [] [.data] true (true, "a4e75a77ef276e11973d35da092c4b66db97028301efe84240e3093b676a7ee0") false
    stateBoots_holds (fun _ h => by cases h) (by kernel_rfl) (fun _ h => by cases h) stateBoots_row_tie rfl ⟨rfl, rfl⟩ (by kernel_rfl) rfl
    (fun f fn hf hfn => by
      obtain rfl : f = 6 := Option.some.inj ((show Tryz.prog.funcNamed "sealwright/sealwrightlaw17.StateBoots" = some 6 by kernel_rfl).symm.trans hf) |>.symm
      obtain rfl : fn = Tryz.f6 := (Option.some.inj (Tryz.func6.symm.trans hfn)).symm
      exact ⟨by kernel_rfl, fun j t ht => by
        have hm : t ∈ Tryz.f6.params.toList := by simpa using Array.mem_of_getElem? ht
        have hall : (Tryz.f6.params.toList.all fun u => !Tryz.prog.wantsStandIn u) = true := by kernel_rfl
        exact (show Tryz.prog.wantsStandIn t = false by simpa using List.all_eq_true.1 hall t hm)⟩)
    (by kernel_rfl)
end Go.Proofs.YtekghmfbgbhobaaGreatDoor
