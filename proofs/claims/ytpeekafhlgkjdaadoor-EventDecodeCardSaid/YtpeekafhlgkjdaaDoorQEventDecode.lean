/- The law EventDecode answers true for every input, and each argument reads behind the call as it read before; its one listed variable is tied to the program text. -/
import Derived.Test.YtpeekafhlgkjdaaDoorQ5
import Derived.Test.YtpeekafhlgkjdaaDoorCards
import Derived.Test.YtpeekafhlgkjdaaDoorTie
set_option linter.unusedSimpArgs false
set_option linter.unusedVariables false
set_option maxRecDepth 100000
namespace Go.Proofs.YtpeekafhlgkjdaaDoor
open Go.Eng Go.ChangeShapes Go.WideShapes Go.ChangeAt Go.WideElems Go.RowKit

theorem eventDecode_law (ys : List T) (h : All2 (fun (ty : Ty) (y : T) => ty.is y) [.sl (.int .u8), .int .i64, .sl (.int .u8), .int .i64, .int .u8, .int .i64] ys) : Go.Eng.Spec Tryd.prog gl0 8 (ys.map V.t) [] (.t (.bool true)) [] := by
  cases h with
  | cons h0 h =>
  cases h with
  | cons h1 h =>
  cases h with
  | cons h2 h =>
  cases h with
  | cons h3 h =>
  cases h with
  | cons h4 h =>
  cases h with
  | cons h5 h =>
  cases h
  obtain ⟨raw, hraw, rfl⟩ := is_bytes h0
  obtain ⟨a, ha, rfl⟩ := is_int h1
  obtain ⟨cs, hcs, rfl⟩ := is_bytes h2
  obtain ⟨at', hat, rfl⟩ := is_int h3
  obtain ⟨by', rfl⟩ := is_u8 h4
  obtain ⟨cut, hcut, rfl⟩ := is_int h5
  exact sp_law26_EventDecode tab59 tab59_ok rfl rfl rfl rfl rfl rfl rfl rfl rfl rfl rfl rfl raw hraw a ha cs hcs at' hat by' cut hcut
theorem eventDecode_lifted (os : Os) (started : os.Started) (H : Type) (enc : TypeId × Value → H) :
    ReturnsInHanded {} Tryd.checked os 8 .any (fun w args => (Rows.eventDecodeSpec.pre enc Tryd.prog Tryd.f8 [] false w args ∧ laidMetH Tryd.prog theLaid w) ∧ sizedMet enc Tryd.prog Tryd.f8 (OpenSpec.ofChange Rows.eventDecodeSpec) false w args)
      (Rows.eventDecodeSpec.post enc Tryd.prog Tryd.f8 false true false false) :=
  law_lifted (C := Tryd.checked) (tys := [.sl (.int .u8), .int .i64, .sl (.int .u8), .int .i64, .int .u8, .int .i64]) (G := gl0) (tb := s_tb) s_own started (by kernel_rfl) Tryd.func8
    (ChangeSpec.witness_shaped (enc := enc) (C := Tryd.checked) (os := os) (X := fun w _ => laidMetH Tryd.prog theLaid w) false (World.doorLaid Tryd.prog 400 os) #[.slice none 0 0, .int .i64 0, .slice none 0 0, .int .i64 0, .int .u8 0, .int .i64 0] 8 rfl (s_shaped os _) (by kernel_rfl) (by kernel_rfl) (by kernel_rfl) (door_met os _))
    s_laidOut (by kernel_rfl) (by kernel_rfl) s_bool rfl
    (fun ds hd => match ds, hd with | [_, _, _, _, _, _], _ => ⟨rfl, rfl, rfl⟩)
    (by rw [Tryd.params8]; exact .cons (by kernel_rfl) (.cons (by kernel_rfl) (.cons (by kernel_rfl) (.cons (by kernel_rfl) (.cons (by kernel_rfl) (.cons (by kernel_rfl) (.nil))))))) s_env eventDecode_law
theorem eventDecode_holds : Rows.EventDecodeSaid :=
  OpenClaim.holds_of_wide 8 Tryd.f8 rfl rfl rfl rfl rfl rfl rfl ⟨rfl, rfl, rfl, rfl, rfl⟩ rfl rfl rfl rfl rfl (by kernel_rfl) Tryd.func8 (by kernel_rfl)
    (of_decide_eq_true (by kernel_rfl)) (by unfold Func.isWrapper; first | (rw [if_pos (by decide +kernel)]; kernel_rfl) | (rw [if_neg (by decide +kernel)]; exact ⟨rfl, rfl⟩))
    (fun os started H enc _ => eventDecode_lifted os started H enc)
theorem eventDecode_card : Rows.EventDecodeCardSaid :=
  Claim7.holds_tied_plain_at .later [] [.data] true (true, "9c14d6437afe84722c7ee2c689c615a4e20b5642c454d307d6a993cd59a465dd") false
    eventDecode_holds (fun _ h => by cases h) (by kernel_rfl) (fun _ h => by cases h) eventDecode_row_tie rfl ⟨rfl, rfl⟩ (by kernel_rfl) rfl
    (fun f fn hf hfn => by
      obtain rfl : f = 8 := Option.some.inj ((show Tryd.prog.funcNamed "sealwright/sealwrightlaw26.EventDecode" = some 8 by kernel_rfl).symm.trans hf) |>.symm
      obtain rfl : fn = Tryd.f8 := (Option.some.inj (Tryd.func8.symm.trans hfn)).symm
      exact ⟨by kernel_rfl, fun j t ht => by
        have hm : t ∈ Tryd.f8.params.toList := by simpa using Array.mem_of_getElem? ht
        have hall : (Tryd.f8.params.toList.all fun u => !Tryd.prog.wantsStandIn u) = true := by kernel_rfl
        exact (show Tryd.prog.wantsStandIn t = false by simpa using List.all_eq_true.1 hall t hm)⟩)
    (by kernel_rfl)
end Go.Proofs.YtpeekafhlgkjdaaDoor
