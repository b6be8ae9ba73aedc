/- The law VaultBind answers true for every input, and each argument reads behind the call as it read before; its listed variables are tied to the program text. -/
import Derived.Test.YtgpbjaleeeacdaaGreatDoorV7
import Derived.Test.YtgpbjaleeeacdaaGreatDoorCards
import Derived.Test.YtgpbjaleeeacdaaGreatDoorTie
set_option linter.unusedSimpArgs false
set_option linter.unusedVariables false
set_option maxRecDepth 100000
namespace Go.Proofs.YtgpbjaleeeacdaaGreatDoor
open Go.Eng Go.ChangeShapes Go.WideShapes Go.ChangeAt Go.WideElems Go.RowKit

theorem vaultBind_law (ys : List T) (h : qAl (fun (ty : Ty) (y : T) => ty.is y) [.st [.int .i64, .int .i64, .sl (.int .u8), .sl (.sl (.st [.int .i64, .str, .int .i64, .sl (.int .u8)]))], .sl (.int .u8), .int .i64, .int .i64, .int .i64, .int .i64, .sl (.int .u8), .bool] ys) : Go.Eng.qX2 Tryz.prog gl0 6 (ys.map V.t) [] (.t (.bool true)) [] := by
  cases h with
  | cons h0 h =>
  cases h with
  | cons h1 h =>
  cases h with
  | cons h2 h =>
  cases h with
  | cons h3 h =>
  cases h with
  | cons h4 h =>
  cases h with
  | cons h5 h =>
  cases h with
  | cons h6 h =>
  cases h with
  | cons h7 h =>
  cases h
  obtain ⟨rm, rn, rd, rc, hrm, hrn, hrc, rfl⟩ := zZo h0
  obtain ⟨cs, hcs, rfl⟩ := qA3 h1
  obtain ⟨ma, hma, rfl⟩ := qBb h2
  obtain ⟨nu, hnu, rfl⟩ := qBb h3
  obtain ⟨n, hn, rfl⟩ := qBb h4
  obtain ⟨a, ha, rfl⟩ := qBb h5
  obtain ⟨d, hd, rfl⟩ := qA3 h6
  obtain ⟨any, rfl⟩ := zU7 h7
  exact qMk rm rn rd rc hrm hrn hrc cs hcs ma nu n a hma hnu hn ha d hd any
theorem vaultBind_lifted (os : Os) (started : os.Started) (H : Type) (enc : TypeId × Value → H) :
    ReturnsInHanded {} Tryz.checked os 6 .any (fun w args => (Rows.vaultBindSpec.pre enc Tryz.prog Tryz.f6 [] false w args ∧ laidMetH Tryz.prog qA9 w) ∧ sizedMet enc Tryz.prog Tryz.f6 (OpenSpec.ofChange Rows.vaultBindSpec) false w args)
      (Rows.vaultBindSpec.post enc Tryz.prog Tryz.f6 false true false false) :=
  qIp (C := Tryz.checked) (tys := [.st [.int .i64, .int .i64, .sl (.int .u8), .sl (.sl (.st [.int .i64, .str, .int .i64, .sl (.int .u8)]))], .sl (.int .u8), .int .i64, .int .i64, .int .i64, .int .i64, .sl (.int .u8), .bool]) (G := gl0) (tb := jA4) zQ3 started (by kernel_rfl) Tryz.func6
    (ChangeSpec.witness_shaped (enc := enc) (C := Tryz.checked) (os := os) (X := fun w _ => laidMetH Tryz.prog qA9 w) false (World.doorLaid Tryz.prog 400 os) #[.agg #[.int .i64 0, .int .i64 0, .slice none 0 0, .slice none 0 0], .slice none 0 0, .int .i64 0, .int .i64 0, .int .i64 0, .int .i64 0, .slice none 0 0, .bool false] 8 rfl (qP0 os _) (by kernel_rfl) (by kernel_rfl) (by kernel_rfl) (qPt os _))
    qL9 (by kernel_rfl) (by kernel_rfl) zFy rfl
    (fun ds hd => match ds, hd with | [_, _, _, _, _, _, _, _], _ => ⟨rfl, rfl, rfl⟩)
    (by rw [Tryz.params6]; exact .cons (by kernel_rfl) (.cons (by kernel_rfl) (.cons (by kernel_rfl) (.cons (by kernel_rfl) (.cons (by kernel_rfl) (.cons (by kernel_rfl) (.cons (by kernel_rfl) (.cons (by kernel_rfl) (.nil))))))))) zQ1 vaultBind_law
theorem vaultBind_holds : Rows.VaultBindSaid :=
  OpenClaim.holds_of_wide 6 Tryz.f6 rfl rfl rfl rfl rfl rfl rfl ⟨rfl, rfl, rfl, rfl, rfl⟩ rfl rfl rfl rfl rfl (by kernel_rfl) Tryz.func6 (by kernel_rfl)
    (of_decide_eq_true (by kernel_rfl)) (by unfold Func.isWrapper; first | (rw [if_pos (by decide +kernel)]; kernel_rfl) | (rw [if_neg (by decide +kernel)]; exact ⟨rfl, rfl⟩))
    (fun os started H enc _ => vaultBind_lifted os started H enc)
theorem vaultBind_card : Rows.VaultBindCardSaid :=
  Claim7.holds_tied_plain_at .later [] [.data, .data, .data, .data, .data] true (true, "bfa548ce43afb857b1024f31fab68e8e7aae453ce96e54d0686a0acd42a14d87") false
    vaultBind_holds (fun _ h => by cases h) (by kernel_rfl) (fun _ h => by cases h) vaultBind_row_tie rfl ⟨rfl, rfl⟩ (by kernel_rfl) rfl
    (fun f fn hf hfn => by
      obtain rfl : f = 6 := Option.some.inj ((show Tryz.prog.funcNamed "sealwright/sealwrightlaw40.VaultBind" = some 6 by kernel_rfl).symm.trans hf) |>.symm
      obtain rfl : fn = Tryz.f6 := (Option.some.inj (Tryz.func6.symm.trans hfn)).symm
      exact ⟨by kernel_rfl, fun j t ht => by
        have hm : t ∈ Tryz.f6.params.toList := by simpa using Array.mem_of_getElem? ht
        have hall : (Tryz.f6.params.toList.all fun u => !Tryz.prog.wantsStandIn u) = true := by kernel_rfl
        exact (show Tryz.prog.wantsStandIn t = false by simpa using List.all_eq_true.1 hall t hm)⟩)
    (by kernel_rfl)
end Go.Proofs.YtgpbjaleeeacdaaGreatDoor
