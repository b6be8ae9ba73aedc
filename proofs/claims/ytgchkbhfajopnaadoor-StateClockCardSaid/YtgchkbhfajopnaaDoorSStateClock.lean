/- The law StateClock answers true for every input, and each argument reads behind the call as it read before; its listed variables are tied to the program text. -/
import Derived.Test.YtgchkbhfajopnaaDoorS5
import Derived.Test.YtgchkbhfajopnaaDoorCards
import Derived.Test.YtgchkbhfajopnaaDoorTie
set_option linter.unusedSimpArgs false
set_option linter.unusedVariables false
set_option maxRecDepth 100000
namespace Go.Proofs.YtgchkbhfajopnaaDoor
open Go.Eng Go.ChangeShapes Go.WideShapes Go.ChangeAt Go.WideElems Go.RowKit

theorem stateClock_law (ys : List T) (h : All2 (fun (ty : Ty) (y : T) => ty.is y) [.sl (.int .u8), .sl (.int .u8)] ys) : Go.Eng.Spec Tryd.prog gl0 4 (ys.map V.t) [] (.t (.bool true)) [] := by
  cases h with
  | cons h0 h =>
  cases h with
  | cons h1 h =>
  cases h
  obtain ⟨cs, hc, rfl⟩ := is_bytes h0
  obtain ⟨ts, ht, rfl⟩ := is_bytes h1
  exact sp_law17_StateClock tab45 tab45_ok rfl rfl rfl rfl rfl rfl cs hc ts ht
theorem stateClock_lifted (os : Os) (started : os.Started) (H : Type) (enc : TypeId × Value → H) :
    ReturnsInHanded {} Tryd.checked os 4 .any (fun w args => (Rows.stateClockSpec.pre enc Tryd.prog Tryd.f4 [] false w args ∧ laidMetH Tryd.prog theLaid w) ∧ sizedMet enc Tryd.prog Tryd.f4 (OpenSpec.ofChange Rows.stateClockSpec) false w args)
      (Rows.stateClockSpec.post enc Tryd.prog Tryd.f4 false true false false) :=
  law_lifted (C := Tryd.checked) (tys := [.sl (.int .u8), .sl (.int .u8)]) (G := gl0) (tb := s_tb) s_own started (by kernel_rfl) Tryd.func4
    (ChangeSpec.witness_shaped (enc := enc) (C := Tryd.checked) (os := os) (X := fun w _ => laidMetH Tryd.prog theLaid w) false (World.doorLaid Tryd.prog 400 os) #[.slice none 0 0, .slice none 0 0] 8 rfl (s_shaped os _) (by kernel_rfl) (by kernel_rfl) (by kernel_rfl) (door_met os _))
    s_laidOut (by kernel_rfl) (by kernel_rfl) s_bool rfl
    (fun ds hd => match ds, hd with | [_, _], _ => ⟨rfl, rfl, rfl⟩)
    (by rw [Tryd.params4]; exact .cons (by kernel_rfl) (.cons (by kernel_rfl) (.nil))) s_env stateClock_law
theorem stateClock_holds : Rows.StateClockSaid :=
  OpenClaim.holds_of_wide 4 Tryd.f4 rfl rfl rfl rfl rfl rfl rfl ⟨rfl, rfl, rfl, rfl, rfl⟩ rfl rfl rfl rfl rfl (by kernel_rfl) Tryd.func4 (by kernel_rfl)
    (of_decide_eq_true (by kernel_rfl)) (by unfold Func.isWrapper; first | (rw [if_pos (by decide +kernel)]; kernel_rfl) | (rw [if_neg (by decide +kernel)]; exact ⟨rfl, rfl⟩))
    (fun os started H enc _ => stateClock_lifted os started H enc)
theorem stateClock_card : Rows.StateClockCardSaid :=
  Claim7.holds_tied_plain_at .later [] [.data] true (true, "b17ed0397a8519aac802766aca2a321e7e0822a736a22c98fa92df61cbfda87b") false
    stateClock_holds (fun _ h => by cases h) (by kernel_rfl) (fun _ h => by cases h) stateClock_row_tie rfl ⟨rfl, rfl⟩ (by kernel_rfl) rfl
    (fun f fn hf hfn => by
      obtain rfl : f = 4 := Option.some.inj ((show Tryd.prog.funcNamed "sealwright/sealwrightlaw17.StateClock" = some 4 by kernel_rfl).symm.trans hf) |>.symm
      obtain rfl : fn = Tryd.f4 := (Option.some.inj (Tryd.func4.symm.trans hfn)).symm
      exact ⟨by kernel_rfl, fun j t ht => by
        have hm : t ∈ Tryd.f4.params.toList := by simpa using Array.mem_of_getElem? ht
        have hall : (Tryd.f4.params.toList.all fun u => !Tryd.prog.wantsStandIn u) = true := by kernel_rfl
        exact (show Tryd.prog.wantsStandIn t = false by simpa using List.all_eq_true.1 hall t hm)⟩)
    (by kernel_rfl)
end Go.Proofs.YtgchkbhfajopnaaDoor
