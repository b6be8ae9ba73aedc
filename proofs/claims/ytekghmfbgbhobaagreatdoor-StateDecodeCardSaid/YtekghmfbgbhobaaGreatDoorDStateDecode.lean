/- The law StateDecode answers true for every input, and each argument reads behind the call as it read before; its listed variables are tied to the program text. -/
import Derived.Test.YtekghmfbgbhobaaGreatDoorD44
import Derived.Test.YtekghmfbgbhobaaGreatDoorD48
import Derived.Test.YtekghmfbgbhobaaGreatDoorCards
import Derived.Test.YtekghmfbgbhobaaGreatDoorTie
set_option linter.unusedSimpArgs false
set_option linter.unusedVariables false
set_option maxRecDepth 100000
set_option maxHeartbeats 64000000
namespace Go.Proofs.YtekghmfbgbhobaaGreatDoor
open Go.Eng Go.ChangeShapes Go.WideShapes Go.ChangeAt Go.WideElems Go.RowKit

theorem stateDecode_law (ys : List T) (h : qBn (fun (ty : Ty) (y : T) => ty.is y) [.int .i64, .sl (.int .u8), .int .i64, .int .u8, .int .i64, .sl (.int .u8), .bool] ys) : Go.Eng.zG1 Tryz.prog gl0 7 (ys.map V.t) [] (.t (.bool true)) [] := by
  cases h with
  | cons h0 h =>
  cases h with
  | cons h1 h =>
  cases h with
  | cons h2 h =>
  cases h with
  | cons h3 h =>
  cases h with
  | cons h4 h =>
  cases h with
  | cons h5 h =>
  cases h with
  | cons h6 h =>
  cases h
  obtain ⟨a, _, rfl⟩ := qTk h0
  obtain ⟨cs, hcs, rfl⟩ := qI7 h1
  obtain ⟨k, _, rfl⟩ := qTk h2
  obtain ⟨x, rfl⟩ := jIo h3
  obtain ⟨n, _, rfl⟩ := qTk h4
  obtain ⟨r, hr, rfl⟩ := qI7 h5
  obtain ⟨w, rfl⟩ := zQq h6
  exact qMg a cs k x n r w ⟨hcs, hr⟩
theorem stateDecode_lifted (os : Os) (started : os.Started) (H : Type) (enc : TypeId × Value → H) :
    ReturnsInHanded {} Tryz.checked os 7 .any (fun w args => (Rows.stateDecodeSpec.pre enc Tryz.prog Tryz.f7 [] false w args ∧ laidMetH Tryz.prog qL0 w) ∧ sizedMet enc Tryz.prog Tryz.f7 (OpenSpec.ofChange Rows.stateDecodeSpec) false w args)
      (Rows.stateDecodeSpec.post enc Tryz.prog Tryz.f7 false true false false) :=
  qZr (C := Tryz.checked) (tys := [.int .i64, .sl (.int .u8), .int .i64, .int .u8, .int .i64, .sl (.int .u8), .bool]) (G := gl0) (tb := jP1) jK0 started (by as_aux_lemma => kernel_rfl) Tryz.func7
    (ChangeSpec.witness_shaped (enc := enc) (C := Tryz.checked) (os := os) (X := fun w _ => laidMetH Tryz.prog qL0 w) false (World.doorLaid Tryz.prog 400 os) #[.int .i64 0, .slice none 0 0, .int .i64 0, .int .u8 0, .int .i64 0, .slice none 0 0, .bool false] 8 rfl (zLl os _) (by as_aux_lemma => kernel_rfl) (by as_aux_lemma => kernel_rfl) (by as_aux_lemma => kernel_rfl) (zKr os _))
    zE3 (by as_aux_lemma => kernel_rfl) (by as_aux_lemma => kernel_rfl) jAn rfl
    (fun ds hd => match ds, hd with | [_, _, _, _, _, _, _], _ => ⟨rfl, rfl, rfl⟩)
    (by rw [Tryz.params7]; exact .cons (by as_aux_lemma => kernel_rfl) (.cons (by as_aux_lemma => kernel_rfl) (.cons (by as_aux_lemma => kernel_rfl) (.cons (by as_aux_lemma => kernel_rfl) (.cons (by as_aux_lemma => kernel_rfl) (.cons (by as_aux_lemma => kernel_rfl) (.cons (by as_aux_lemma => kernel_rfl) (.nil)))))))) jKy stateDecode_law
theorem stateDecode_holds : Rows.StateDecodeSaid :=
  OpenClaim.holds_of_wide 7 Tryz.f7 rfl rfl rfl rfl rfl rfl rfl ⟨rfl, rfl, rfl, rfl, rfl⟩ rfl rfl rfl rfl rfl (by as_aux_lemma => kernel_rfl) Tryz.func7 (by unfold joinedFacts; simp only [Bool.and_eq_true]; (repeat' apply And.intro); all_goals (as_aux_lemma => kernel_rfl))
    (of_decide_eq_true (by as_aux_lemma => kernel_rfl)) (by unfold Func.isWrapper; first | (rw [if_pos (by decide +kernel)]; kernel_rfl) | (rw [if_neg (by decide +kernel)]; exact ⟨rfl, rfl⟩))
    (fun os started H enc _ => stateDecode_lifted os started H enc)
theorem stateDecode_card : Rows.StateDecodeCardSaid :=
  Claim7.holds_tied_plain_at .later [] [.data] true (true, "a4e75a77ef276e11973d35da092c4b66db97028301efe84240e3093b676a7ee0") false
    stateDecode_holds (fun _ h => by cases h) (by as_aux_lemma => kernel_rfl) (fun _ h => by cases h) stateDecode_row_tie rfl ⟨rfl, rfl⟩ (by as_aux_lemma => kernel_rfl) rfl
    (fun f fn hf hfn => by
      obtain rfl : f = 7 := Option.some.inj ((show Tryz.prog.funcNamed "sealwright/sealwrightlaw17.StateDecode" = some 7 by as_aux_lemma => kernel_rfl).symm.trans hf) |>.symm
      obtain rfl : fn = Tryz.f7 := (Option.some.inj (Tryz.func7.symm.trans hfn)).symm
      exact ⟨by as_aux_lemma => kernel_rfl, fun j t ht => by
        have hm : t ∈ Tryz.f7.params.toList := by simpa using Array.mem_of_getElem? ht
        have hall : (Tryz.f7.params.toList.all fun u => !Tryz.prog.wantsStandIn u) = true := by as_aux_lemma => kernel_rfl
        exact (show Tryz.prog.wantsStandIn t = false by simpa using List.all_eq_true.1 hall t hm)⟩)
    (by as_aux_lemma => kernel_rfl)
end Go.Proofs.YtekghmfbgbhobaaGreatDoor
