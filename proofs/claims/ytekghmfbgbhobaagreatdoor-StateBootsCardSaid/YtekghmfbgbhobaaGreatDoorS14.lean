/- A part of an abstract machine, its walks, their tie. -/
import Derived.Test.YtekghmfbgbhobaaGreatDoorS13
set_option linter.all false
section
set_option maxRecDepth 100000
set_option maxHeartbeats 64000000
namespace Go.Eng
open Go.Proofs Go.Proofs.YtekghmfbgbhobaaGreatDoor
def qEq:AF Tryz.f70 []:=⟨_,cvG⟩
def qK8:AF Tryz.f80 []:=⟨_,cvG⟩
def qF3:AF Tryz.f128 []:=⟨_,cvG⟩
def qEm:AF Tryz.f178 []:=⟨_,cvG⟩
def kO:AF Tryz.f179 []:=⟨_,cvG⟩
def vV:AF Tryz.f129 []:=⟨_,cvG⟩
def qBz:AF Tryz.f130 []:=⟨_,cvG⟩
def wV:AF Tryz.f131 []:=⟨_,cvG⟩
def kI:AF Tryz.f100 []:=⟨_,cvG⟩
def qIa:AF Tryz.f101 []:=⟨_,cvG⟩
def qPw:AF Tryz.f81 [(4,[1]),(5,[1])]:=⟨_,cvG⟩
def qCc:AF Tryz.f41 []:=⟨_,cvG⟩
def qAc:AF Tryz.f27 [(7,[6]),(9,[1])]:=⟨_,cvG⟩
def qGz:AF Tryz.f14 []:=⟨_,cvG⟩
def kX:AF Tryz.f76 []:=⟨_,cvG⟩
def qCb:AF Tryz.f177 []:=⟨_,cvG⟩
def qK7:AF Tryz.f126 []:=⟨_,cvG⟩
def qCw:AF Tryz.f96 []:=⟨_,cvG⟩
def qA9:AF Tryz.f75 []:=⟨_,cvG⟩
def jM:AF Tryz.f36 []:=⟨_,cvG⟩
def yQ:AF Tryz.f77 []:=⟨_,cvG⟩
def yF:AF Tryz.f37 [(1,[1])]:=⟨_,cvG⟩
def jN:AF Tryz.f15 [(11,[2]),(13,[2])]:=⟨_,cvG⟩
def qEp:AF Tryz.f9 [(1,[1]),(2,[1,2])]:=⟨_,cvG⟩
def qH9:AF Tryz.f29 []:=⟨_,cvG⟩
def qIn:AF Tryz.f82 []:=⟨_,cvG⟩
def qA7:AF Tryz.f132 []:=⟨_,cvG⟩
def qK9:AF Tryz.f133 []:=⟨_,cvG⟩
def qIk:AF Tryz.f134 []:=⟨_,cvG⟩
def qIj:AF Tryz.f135 []:=⟨_,cvG⟩
def qGj:AF Tryz.f136 []:=⟨_,cvG⟩
def qEy:AF Tryz.f102 []:=⟨_,cvG⟩
def qLa:AF Tryz.f83 []:=⟨_,cvG⟩
def qBn:AF Tryz.f43 []:=⟨_,cvG⟩
def qIc:AF Tryz.f71 []:=⟨_,cvG⟩
def xZ:AF Tryz.f28 [(3,[2]),(7,[6])]:=⟨_,cvG⟩
end Go.Eng
end
