/- The law TopApproved answers true for every input, and each argument reads as before; its listed variables are tied to the program text. -/
import Derived.Test.YtkffggdjdmimgaaGreatDoorA37
set_option linter.all false
set_option maxRecDepth 100000
set_option maxHeartbeats 64000000
namespace Go.Proofs.YtkffggdjdmimgaaGreatDoor
open Go.Eng Go.ChangeShapes Go.WideShapes Go.ChangeAt Go.WideElems Go.RowKit

theorem topApproved_law (ys : List T) (h : qBm (fun (ty : Ty) (y : T) => ty.is y) [.sl (.int .u8), .sl (.int .u8), .int .i64, .sl (.int .u8), .sl (.int .u8), .sl (.int .u8), .sl (.int .u8)] ys) : Go.Eng.zMa Tryz.prog gl0 3 (ys.map V.t) [] (.t (.bool true)) [] := by
  cases h with
  | cons h0 h =>
  cases h with
  | cons h1 h =>
  cases h with
  | cons h2 h =>
  cases h with
  | cons h3 h =>
  cases h with
  | cons h4 h =>
  cases h with
  | cons h5 h =>
  cases h with
  | cons h6 h =>
  cases h
  obtain ⟨a, ha, rfl⟩ := qEm h0
  obtain ⟨b, hb, rfl⟩ := qEm h1
  obtain ⟨m, _, rfl⟩ := zG0 h2
  obtain ⟨c, hc, rfl⟩ := qEm h3
  obtain ⟨d, hd, rfl⟩ := qEm h4
  obtain ⟨x, hx, rfl⟩ := qEm h5
  obtain ⟨y, hy, rfl⟩ := qEm h6
  exact qSm a b m c d x y ⟨ha, hb, hc, hd, hx, hy⟩
theorem topApproved_lifted (os : Os) (started : os.Started) (H : Type) (enc : TypeId × Value → H) :
    ReturnsInHanded {} Tryz.checked os 3 .any (fun w args => (Rows.topApprovedSpec.pre enc Tryz.prog Tryz.f3 [] false w args ∧ laidMetH Tryz.prog qF1 w) ∧ sizedMet enc Tryz.prog Tryz.f3 (OpenSpec.ofChange Rows.topApprovedSpec) false w args)
      (Rows.topApprovedSpec.post enc Tryz.prog Tryz.f3 false true false false) :=
  zPn (C := Tryz.checked) (tys := [.sl (.int .u8), .sl (.int .u8), .int .i64, .sl (.int .u8), .sl (.int .u8), .sl (.int .u8), .sl (.int .u8)]) (G := gl0) (tb := yB8) jU1 started (by as_aux_lemma => kernel_rfl) Tryz.func3
    (ChangeSpec.witness_shaped (enc := enc) (C := Tryz.checked) (os := os) (X := fun w _ => laidMetH Tryz.prog qF1 w) false (World.laidAll Tryz.prog os qF1) #[.slice none 0 0, .slice none 0 0, .int .i64 0, .slice none 0 0, .slice none 0 0, .slice none 0 0, .slice none 0 0] 8 (World.laidAll_os _ _ _) (jBa os _) (by as_aux_lemma => kernel_rfl) (by as_aux_lemma => kernel_rfl) (by as_aux_lemma => kernel_rfl) (zX8 os _))
    zVh (by as_aux_lemma => kernel_rfl) (by as_aux_lemma => kernel_rfl) jO7 rfl
    (fun ds hd => match ds, hd with | [_, _, _, _, _, _, _], _ => ⟨rfl, rfl, rfl⟩)
    (by rw [Tryz.params3]; exact .cons (by as_aux_lemma => kernel_rfl) (.cons (by as_aux_lemma => kernel_rfl) (.cons (by as_aux_lemma => kernel_rfl) (.cons (by as_aux_lemma => kernel_rfl) (.cons (by as_aux_lemma => kernel_rfl) (.cons (by as_aux_lemma => kernel_rfl) (.cons (by as_aux_lemma => kernel_rfl) (.nil)))))))) jUy topApproved_law
theorem topApproved_holds : Rows.TopApprovedSaid :=
  OpenClaim.holds_of_wide 3 Tryz.f3 rfl rfl rfl rfl rfl rfl rfl ⟨rfl, rfl, rfl, rfl, rfl⟩ rfl rfl rfl rfl rfl (by as_aux_lemma => kernel_rfl) Tryz.func3 (by unfold joinedFacts; simp only [Bool.and_eq_true]; (repeat' apply And.intro); all_goals (as_aux_lemma => kernel_rfl))
    (of_decide_eq_true (by as_aux_lemma => kernel_rfl)) (by unfold Func.isWrapper; first | (rw [if_pos (by decide +kernel)]; kernel_rfl) | (rw [if_neg (by decide +kernel)]; exact ⟨rfl, rfl⟩))
    (fun os started H enc _ => topApproved_lifted os started H enc)
theorem topApproved_card : Rows.TopApprovedCardSaid :=
  Claim7.holds_tied_plain_at .later [] [.data, .widerDeep, .data, .data, .pinned] true (true, "2867f557eb2986e1e954a5575f2b844d4485e5295e6dee845f079af176471a32") false
    topApproved_holds (fun _ h => by cases h) (by as_aux_lemma => kernel_rfl) (fun _ h => by cases h) topApproved_row_tie rfl ⟨rfl, rfl⟩ (by as_aux_lemma => kernel_rfl) rfl
    (fun f fn hf hfn => by
      obtain rfl : f = 3 := Option.some.inj ((show Tryz.prog.funcNamed "sealwright/sealwrighttop.TopApproved" = some 3 by as_aux_lemma => kernel_rfl).symm.trans hf) |>.symm
      obtain rfl : fn = Tryz.f3 := (Option.some.inj (Tryz.func3.symm.trans hfn)).symm
      exact ⟨by as_aux_lemma => kernel_rfl, fun j t ht => by
        have hm : t ∈ Tryz.f3.params.toList := by simpa using Array.mem_of_getElem? ht
        have hall : (Tryz.f3.params.toList.all fun u => !Tryz.prog.wantsStandIn u) = true := by as_aux_lemma => kernel_rfl
        exact (show Tryz.prog.wantsStandIn t = false by simpa using List.all_eq_true.1 hall t hm)⟩)
    (by as_aux_lemma => kernel_rfl)
end Go.Proofs.YtkffggdjdmimgaaGreatDoor
