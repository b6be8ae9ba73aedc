/- A part of the proof. -/
import Derived.Test.YtkffggdjdmimgaaGreatDoorA35
set_option linter.all false
section
set_option maxHeartbeats 64000000
set_option maxRecDepth 100000
namespace Go.Eng
open List
open Go.Proofs Go.Proofs.YtkffggdjdmimgaaGreatDoor
theorem qSm (ca cn:List UInt8)(m:Int)(sk rf ot da:List UInt8)(hp:ca.length≤9223372036854775807∧cn.length≤9223372036854775807∧sk.length≤9223372036854775807∧rf.length≤9223372036854775807∧ot.length≤9223372036854775807∧da.length≤9223372036854775807):zMa Tryz.prog gl0 3 [.t (.sl (ca.map qA)),.t (.sl (cn.map qA)),.t (.int .i64 m),.t (.sl (sk.map qA)),.t (.sl (rf.map qA)),.t (.sl (ot.map qA)),.t (.sl (da.map qA))] [] (.t (.bool true)) []:=jVh _ _ _ _ yBr.h (yDa (qUl yBr.t gl0  rfl rfl rfl rfl rfl rfl rfl rfl rfl rfl rfl rfl rfl rfl rfl rfl rfl rfl rfl rfl ca cn m sk rf ot da hp) (by rintro _ rfl;exact⟨rfl,rfl⟩)) (hann:=zS.2)
end Go.Eng
end
