/- The law VaultOther answers true for every input, and each argument reads behind the call as it read before; its listed variables are tied to the program text. -/
import Derived.Test.YtgpbjaleeeacdaaGreatDoorW6
import Derived.Test.YtgpbjaleeeacdaaGreatDoorCards
import Derived.Test.YtgpbjaleeeacdaaGreatDoorTie
set_option linter.unusedSimpArgs false
set_option linter.unusedVariables false
set_option maxRecDepth 100000
namespace Go.Proofs.YtgpbjaleeeacdaaGreatDoor
open Go.Eng Go.ChangeShapes Go.WideShapes Go.ChangeAt Go.WideElems Go.RowKit

theorem vaultOther_law (ys : List T) (h : wU (fun (ty : Ty) (y : T) => ty.is y) [.sl (.int .u8), .int .i64, .int .i64, .sl (.int .u8)] ys) : Go.Eng.zA4 Tryz.prog gl0 8 (ys.map V.t) [] (.t (.bool true)) [] := by
  cases h with
  | cons h0 h =>
  cases h with
  | cons h1 h =>
  cases h with
  | cons h2 h =>
  cases h with
  | cons h3 h =>
  cases h
  obtain ⟨cs, hcs, rfl⟩ := qAm h0
  obtain ⟨ma, hma, rfl⟩ := qB4 h1
  obtain ⟨ot, hot, rfl⟩ := qB4 h2
  obtain ⟨d, hd, rfl⟩ := qAm h3
  exact qG6 cs hcs ma ot hma hot d hd
theorem vaultOther_lifted (os : Os) (started : os.Started) (H : Type) (enc : TypeId × Value → H) :
    ReturnsInHanded {} Tryz.checked os 8 .any (fun w args => (Rows.vaultOtherSpec.pre enc Tryz.prog Tryz.f8 [] false w args ∧ laidMetH Tryz.prog qCm w) ∧ sizedMet enc Tryz.prog Tryz.f8 (OpenSpec.ofChange Rows.vaultOtherSpec) false w args)
      (Rows.vaultOtherSpec.post enc Tryz.prog Tryz.f8 false true false false) :=
  qQn (C := Tryz.checked) (tys := [.sl (.int .u8), .int .i64, .int .i64, .sl (.int .u8)]) (G := gl0) (tb := zZ4) zWv started (by kernel_rfl) Tryz.func8
    (ChangeSpec.witness_shaped (enc := enc) (C := Tryz.checked) (os := os) (X := fun w _ => laidMetH Tryz.prog qCm w) false (World.doorLaid Tryz.prog 400 os) #[.slice none 0 0, .int .i64 0, .int .i64 0, .slice none 0 0] 8 rfl (zAk os _) (by kernel_rfl) (by kernel_rfl) (by kernel_rfl) (qZo os _))
    qVc (by kernel_rfl) (by kernel_rfl) zOl rfl
    (fun ds hd => match ds, hd with | [_, _, _, _], _ => ⟨rfl, rfl, rfl⟩)
    (by rw [Tryz.params8]; exact .cons (by kernel_rfl) (.cons (by kernel_rfl) (.cons (by kernel_rfl) (.cons (by kernel_rfl) (.nil))))) zWt vaultOther_law
theorem vaultOther_holds : Rows.VaultOtherSaid :=
  OpenClaim.holds_of_wide 8 Tryz.f8 rfl rfl rfl rfl rfl rfl rfl ⟨rfl, rfl, rfl, rfl, rfl⟩ rfl rfl rfl rfl rfl (by kernel_rfl) Tryz.func8 (by kernel_rfl)
    (of_decide_eq_true (by kernel_rfl)) (by unfold Func.isWrapper; first | (rw [if_pos (by decide +kernel)]; kernel_rfl) | (rw [if_neg (by decide +kernel)]; exact ⟨rfl, rfl⟩))
    (fun os started H enc _ => vaultOther_lifted os started H enc)
theorem vaultOther_card : Rows.VaultOtherCardSaid :=
  Claim7.holds_tied_plain_at .later [] [.data, .data, .data, .data, .data] true (true, "bfa548ce43afb857b1024f31fab68e8e7aae453ce96e54d0686a0acd42a14d87") false
    vaultOther_holds (fun _ h => by cases h) (by kernel_rfl) (fun _ h => by cases h) vaultOther_row_tie rfl ⟨rfl, rfl⟩ (by kernel_rfl) rfl
    (fun f fn hf hfn => by
      obtain rfl : f = 8 := Option.some.inj ((show Tryz.prog.funcNamed "sealwright/sealwrightlaw40.VaultOther" = some 8 by kernel_rfl).symm.trans hf) |>.symm
      obtain rfl : fn = Tryz.f8 := (Option.some.inj (Tryz.func8.symm.trans hfn)).symm
      exact ⟨by kernel_rfl, fun j t ht => by
        have hm : t ∈ Tryz.f8.params.toList := by simpa using Array.mem_of_getElem? ht
        have hall : (Tryz.f8.params.toList.all fun u => !Tryz.prog.wantsStandIn u) = true := by kernel_rfl
        exact (show Tryz.prog.wantsStandIn t = false by simpa using List.all_eq_true.1 hall t hm)⟩)
    (by kernel_rfl)
end Go.Proofs.YtgpbjaleeeacdaaGreatDoor
