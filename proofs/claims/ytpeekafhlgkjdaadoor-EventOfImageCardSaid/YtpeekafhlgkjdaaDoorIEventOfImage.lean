/- The law EventOfImage answers true for every input, and each argument reads behind the call as it read before; its listed variables are tied to the program text. -/
import Derived.Test.YtpeekafhlgkjdaaDoorI5
import Derived.Test.YtpeekafhlgkjdaaDoorCards
import Derived.Test.YtpeekafhlgkjdaaDoorTie
set_option linter.unusedSimpArgs false
set_option linter.unusedVariables false
set_option maxRecDepth 100000
namespace Go.Proofs.YtpeekafhlgkjdaaDoor
open Go.Eng Go.ChangeShapes Go.WideShapes Go.ChangeAt Go.WideElems Go.RowKit

theorem eventOfImage_law (ys : List T) (h : All2 (fun (ty : Ty) (y : T) => ty.is y) [.st [.int .i64, .str, .int .i64, .sl (.int .u8)], .sl (.int .u8), .int .i64, .int .i64] ys) : Go.Eng.Spec Tryd.prog gl0 9 (ys.map V.t) [] (.t (.bool true)) [] := by
  cases h with
  | cons h0 h =>
  cases h with
  | cons h1 h =>
  cases h with
  | cons h2 h =>
  cases h with
  | cons h3 h =>
  cases h
  obtain ⟨ra, rv, rs, rp, hra, hrv, hrs, hrp, rfl⟩ := is_im h0
  obtain ⟨cs, hcs, rfl⟩ := is_bytes h1
  obtain ⟨role, hro, rfl⟩ := is_int h2
  obtain ⟨a, ha, rfl⟩ := is_int h3
  exact sp_law26_EventOfImage tab77 tab77_ok rfl rfl rfl rfl rfl rfl rfl rfl rfl rfl rfl rfl rfl rfl ra rv rs rp hra hrv hrs hrp cs hcs role a hro ha
theorem eventOfImage_lifted (os : Os) (started : os.Started) (H : Type) (enc : TypeId × Value → H) :
    ReturnsInHanded {} Tryd.checked os 9 .any (fun w args => (Rows.eventOfImageSpec.pre enc Tryd.prog Tryd.f9 [] false w args ∧ laidMetH Tryd.prog theLaid w) ∧ sizedMet enc Tryd.prog Tryd.f9 (OpenSpec.ofChange Rows.eventOfImageSpec) false w args)
      (Rows.eventOfImageSpec.post enc Tryd.prog Tryd.f9 false true false false) :=
  law_lifted (C := Tryd.checked) (tys := [.st [.int .i64, .str, .int .i64, .sl (.int .u8)], .sl (.int .u8), .int .i64, .int .i64]) (G := gl0) (tb := s_tb) s_own started (by kernel_rfl) Tryd.func9
    (ChangeSpec.witness_shaped (enc := enc) (C := Tryd.checked) (os := os) (X := fun w _ => laidMetH Tryd.prog theLaid w) false (World.doorLaid Tryd.prog 400 os) #[.agg #[.int .i64 0, .string ⟨#[]⟩, .int .i64 0, .slice none 0 0], .slice none 0 0, .int .i64 0, .int .i64 0] 8 rfl (s_shaped os _) (by kernel_rfl) (by kernel_rfl) (by kernel_rfl) (door_met os _))
    s_laidOut (by kernel_rfl) (by kernel_rfl) s_bool rfl
    (fun ds hd => match ds, hd with | [_, _, _, _], _ => ⟨rfl, rfl, rfl⟩)
    (by rw [Tryd.params9]; exact .cons (by kernel_rfl) (.cons (by kernel_rfl) (.cons (by kernel_rfl) (.cons (by kernel_rfl) (.nil))))) s_env eventOfImage_law
theorem eventOfImage_holds : Rows.EventOfImageSaid :=
  OpenClaim.holds_of_wide 9 Tryd.f9 rfl rfl rfl rfl rfl rfl rfl ⟨rfl, rfl, rfl, rfl, rfl⟩ rfl rfl rfl rfl rfl (by kernel_rfl) Tryd.func9 (by kernel_rfl)
    (of_decide_eq_true (by kernel_rfl)) (by unfold Func.isWrapper; first | (rw [if_pos (by decide +kernel)]; kernel_rfl) | (rw [if_neg (by decide +kernel)]; exact ⟨rfl, rfl⟩))
    (fun os started H enc _ => eventOfImage_lifted os started H enc)
theorem eventOfImage_card : Rows.EventOfImageCardSaid :=
  Claim7.holds_tied_plain_at .later [] [.data, .data, .data, .data, .data] true (true, "9c14d6437afe84722c7ee2c689c615a4e20b5642c454d307d6a993cd59a465dd") false
    eventOfImage_holds (fun _ h => by cases h) (by kernel_rfl) (fun _ h => by cases h) eventOfImage_row_tie rfl ⟨rfl, rfl⟩ (by kernel_rfl) rfl
    (fun f fn hf hfn => by
      obtain rfl : f = 9 := Option.some.inj ((show Tryd.prog.funcNamed "sealwright/sealwrightlaw26.EventOfImage" = some 9 by kernel_rfl).symm.trans hf) |>.symm
      obtain rfl : fn = Tryd.f9 := (Option.some.inj (Tryd.func9.symm.trans hfn)).symm
      exact ⟨by kernel_rfl, fun j t ht => by
        have hm : t ∈ Tryd.f9.params.toList := by simpa using Array.mem_of_getElem? ht
        have hall : (Tryd.f9.params.toList.all fun u => !Tryd.prog.wantsStandIn u) = true := by kernel_rfl
        exact (show Tryd.prog.wantsStandIn t = false by simpa using List.all_eq_true.1 hall t hm)⟩)
    (by kernel_rfl)
end Go.Proofs.YtpeekafhlgkjdaaDoor
