/- A part of an abstract machine, its walks, their tie. -/
import Derived.Test.YtekghmfbgbhobaaGreatDoorRows
import Derived.KernelRfl
import Derived.Test.YtekghmfbgbhobaaGreatDoorD9
set_option linter.all false
section
set_option maxRecDepth 100000
namespace Go.Eng
open Go.Proofs Go.Proofs.YtekghmfbgbhobaaGreatDoor
abbrev AF (f:Func)(h:List (Nat×List Nat)):Type := {a:AC // ann Tryz.prog f.ntmps h (f.body.getD .skip)=some a}
theorem cvG {f:Func}{h:List (Nat×List Nat)}{a:AC}(q:ann Tryz.prog f.ntmps h (f.body.getD .skip)=some a:=by (first | (conv=>lhs;(cbv;simp(maxSteps:=9^9)only[u8f,jXk,jXg,↓jXa,↓jXb,↓jPr,Nat.reduceLT])) | (conv=>lhs;(conv=>arg 4;cbv);simp only[ann];(conv=>pattern (occs := *) zUc _ _ _ _ _ _;all_goals cbv);(cbv;simp(maxSteps:=9^9)only[u8f,jXk,jXg,↓jXa,↓jXb,↓jPr,Nat.reduceLT])))):ann Tryz.prog f.ntmps h (f.body.getD .skip)=some a:=q
end Go.Eng
end
