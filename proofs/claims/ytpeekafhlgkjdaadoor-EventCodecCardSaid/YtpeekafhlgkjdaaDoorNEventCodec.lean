/- The law EventCodec answers true for every input, and each argument reads behind the call as it read before; its one listed variable is tied to the program text. -/
import Derived.Test.YtpeekafhlgkjdaaDoorN5
import Derived.Test.YtpeekafhlgkjdaaDoorCards
import Derived.Test.YtpeekafhlgkjdaaDoorTie
set_option linter.unusedSimpArgs false
set_option linter.unusedVariables false
set_option maxRecDepth 100000
namespace Go.Proofs.YtpeekafhlgkjdaaDoor
open Go.Eng Go.ChangeShapes Go.WideShapes Go.ChangeAt Go.WideElems Go.RowKit

theorem eventCodec_law (ys : List T) (h : All2 (fun (ty : Ty) (y : T) => ty.is y) [.st [.int .i64, .int .i64, .sl (.sl (.int .u8)), .sl (.int .u8)], .int .i64, .sl (.int .u8)] ys) : Go.Eng.Spec Tryd.prog gl0 7 (ys.map V.t) [] (.t (.bool true)) [] := by
  cases h with
  | cons h0 h =>
  cases h with
  | cons h1 h =>
  cases h with
  | cons h2 h =>
  cases h
  obtain ⟨e1, e2, e3, e4, he, rfl⟩ := is_ev h0
  obtain ⟨a, ha, rfl⟩ := is_int h1
  obtain ⟨cs, hcs, rfl⟩ := is_bytes h2
  exact sp_law26_EventCodec tab60 tab60_ok rfl rfl rfl rfl rfl rfl rfl rfl rfl rfl (e1, e2, e3, e4) he a ha cs hcs
theorem eventCodec_lifted (os : Os) (started : os.Started) (H : Type) (enc : TypeId × Value → H) :
    ReturnsInHanded {} Tryd.checked os 7 .any (fun w args => (Rows.eventCodecSpec.pre enc Tryd.prog Tryd.f7 [] false w args ∧ laidMetH Tryd.prog theLaid w) ∧ sizedMet enc Tryd.prog Tryd.f7 (OpenSpec.ofChange Rows.eventCodecSpec) false w args)
      (Rows.eventCodecSpec.post enc Tryd.prog Tryd.f7 false true false false) :=
  law_lifted (C := Tryd.checked) (tys := [.st [.int .i64, .int .i64, .sl (.sl (.int .u8)), .sl (.int .u8)], .int .i64, .sl (.int .u8)]) (G := gl0) (tb := s_tb) s_own started (by kernel_rfl) Tryd.func7
    (ChangeSpec.witness_shaped (enc := enc) (C := Tryd.checked) (os := os) (X := fun w _ => laidMetH Tryd.prog theLaid w) false (World.doorLaid Tryd.prog 400 os) #[.agg #[.int .i64 0, .int .i64 0, .slice none 0 0, .slice none 0 0], .int .i64 0, .slice none 0 0] 8 rfl (s_shaped os _) (by kernel_rfl) (by kernel_rfl) (by kernel_rfl) (door_met os _))
    s_laidOut (by kernel_rfl) (by kernel_rfl) s_bool rfl
    (fun ds hd => match ds, hd with | [_, _, _], _ => ⟨rfl, rfl, rfl⟩)
    (by rw [Tryd.params7]; exact .cons (by kernel_rfl) (.cons (by kernel_rfl) (.cons (by kernel_rfl) (.nil)))) s_env eventCodec_law
theorem eventCodec_holds : Rows.EventCodecSaid :=
  OpenClaim.holds_of_wide 7 Tryd.f7 rfl rfl rfl rfl rfl rfl rfl ⟨rfl, rfl, rfl, rfl, rfl⟩ rfl rfl rfl rfl rfl (by kernel_rfl) Tryd.func7 (by kernel_rfl)
    (of_decide_eq_true (by kernel_rfl)) (by unfold Func.isWrapper; first | (rw [if_pos (by decide +kernel)]; kernel_rfl) | (rw [if_neg (by decide +kernel)]; exact ⟨rfl, rfl⟩))
    (fun os started H enc _ => eventCodec_lifted os started H enc)
theorem eventCodec_card : Rows.EventCodecCardSaid :=
  Claim7.holds_tied_plain_at .later [] [.data] true (true, "9c14d6437afe84722c7ee2c689c615a4e20b5642c454d307d6a993cd59a465dd") false
    eventCodec_holds (fun _ h => by cases h) (by kernel_rfl) (fun _ h => by cases h) eventCodec_row_tie rfl ⟨rfl, rfl⟩ (by kernel_rfl) rfl
    (fun f fn hf hfn => by
      obtain rfl : f = 7 := Option.some.inj ((show Tryd.prog.funcNamed "sealwright/sealwrightlaw26.EventCodec" = some 7 by kernel_rfl).symm.trans hf) |>.symm
      obtain rfl : fn = Tryd.f7 := (Option.some.inj (Tryd.func7.symm.trans hfn)).symm
      exact ⟨by kernel_rfl, fun j t ht => by
        have hm : t ∈ Tryd.f7.params.toList := by simpa using Array.mem_of_getElem? ht
        have hall : (Tryd.f7.params.toList.all fun u => !Tryd.prog.wantsStandIn u) = true := by kernel_rfl
        exact (show Tryd.prog.wantsStandIn t = false by simpa using List.all_eq_true.1 hall t hm)⟩)
    (by kernel_rfl)
end Go.Proofs.YtpeekafhlgkjdaaDoor
