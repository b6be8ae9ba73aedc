/- A part of an abstract machine, its walks, their tie. -/
import Derived.Test.YtekghmfbgbhobaaGreatDoorD10
set_option linter.all false
section
set_option maxRecDepth 100000
set_option maxHeartbeats 64000000
namespace Go.Eng
open Go.Proofs Go.Proofs.YtekghmfbgbhobaaGreatDoor
def qGe:AF Tryz.f70 []:=⟨_,cvG⟩
def qMw:AF Tryz.f80 []:=⟨_,cvG⟩
def qHs:AF Tryz.f128 []:=⟨_,cvG⟩
def qGa:AF Tryz.f178 []:=⟨_,cvG⟩
def qAd:AF Tryz.f179 []:=⟨_,cvG⟩
def wV:AF Tryz.f129 []:=⟨_,cvG⟩
def qDe:AF Tryz.f130 []:=⟨_,cvG⟩
def xA:AF Tryz.f131 []:=⟨_,cvG⟩
def xX:AF Tryz.f100 []:=⟨_,cvG⟩
def qJx:AF Tryz.f101 []:=⟨_,cvG⟩
def qR0:AF Tryz.f81 [(4,[1]),(5,[1])]:=⟨_,cvG⟩
def qDw:AF Tryz.f41 []:=⟨_,cvG⟩
def qBi:AF Tryz.f27 [(7,[6]),(9,[1])]:=⟨_,cvG⟩
def qIk:AF Tryz.f14 []:=⟨_,cvG⟩
def qAm:AF Tryz.f76 []:=⟨_,cvG⟩
def qDv:AF Tryz.f177 []:=⟨_,cvG⟩
def qMv:AF Tryz.f126 []:=⟨_,cvG⟩
def qEd:AF Tryz.f96 []:=⟨_,cvG⟩
def qCn:AF Tryz.f75 []:=⟨_,cvG⟩
def jT:AF Tryz.f36 []:=⟨_,cvG⟩
def vF:AF Tryz.f77 []:=⟨_,cvG⟩
def yP:AF Tryz.f37 [(1,[1])]:=⟨_,cvG⟩
def jU:AF Tryz.f15 [(11,[2]),(13,[2])]:=⟨_,cvG⟩
def qGd:AF Tryz.f9 [(1,[1]),(2,[1,2])]:=⟨_,cvG⟩
def qJw:AF Tryz.f29 []:=⟨_,cvG⟩
def qKb:AF Tryz.f82 []:=⟨_,cvG⟩
def qCl:AF Tryz.f132 []:=⟨_,cvG⟩
def qMx:AF Tryz.f133 []:=⟨_,cvG⟩
def qJ8:AF Tryz.f134 []:=⟨_,cvG⟩
def qJ7:AF Tryz.f135 []:=⟨_,cvG⟩
def qH4:AF Tryz.f136 []:=⟨_,cvG⟩
def qGm:AF Tryz.f102 []:=⟨_,cvG⟩
def qMy:AF Tryz.f83 []:=⟨_,cvG⟩
def qC1:AF Tryz.f43 []:=⟨_,cvG⟩
def qJz:AF Tryz.f71 []:=⟨_,cvG⟩
def qBf:AF Tryz.f28 [(3,[2]),(7,[6])]:=⟨_,cvG⟩
def qH0:AF Tryz.f11 []:=⟨_,cvG⟩
def qC4:AF Tryz.f98 []:=⟨_,cvG⟩
def qFy:AF Tryz.f97 []:=⟨_,cvG⟩
def qEx:AF Tryz.f78 []:=⟨_,cvG⟩
def wZ:AF Tryz.f38 []:=⟨_,cvG⟩
def qJ3:AF Tryz.f99 []:=⟨_,cvG⟩
def qBh:AF Tryz.f79 []:=⟨_,cvG⟩
def kR:AF Tryz.f39 [(1,[1])]:=⟨_,cvG⟩
def jQ:AF Tryz.f16 [(10,[3]),(12,[3])]:=⟨_,cvG⟩
def qFu:AF Tryz.f73 [(3,[2,3])]:=⟨_,cvG⟩
def qDz:AF Tryz.f93 []:=⟨_,cvG⟩
def qEe:AF Tryz.f17 []:=⟨_,cvG⟩
def qHt:AF Tryz.f113 []:=⟨_,cvG⟩
def wK:AF Tryz.f114 []:=⟨_,cvG⟩
def qIh:AF Tryz.f246 []:=⟨_,cvG⟩
def qEz:AF Tryz.f272 []:=⟨_,cvG⟩
def qIi:AF Tryz.f273 []:=⟨_,cvG⟩
def qAv:AF Tryz.f274 []:=⟨_,cvG⟩
def qIf:AF Tryz.f249 []:=⟨_,cvG⟩
def qKd:AF Tryz.f42 []:=⟨_,cvG⟩
def qH2:AF Tryz.f191 []:=⟨_,cvG⟩
def qIg:AF Tryz.f275 []:=⟨_,cvG⟩
def qGx:AF Tryz.f250 []:=⟨_,cvG⟩
def qGw:AF Tryz.f219 [(5,[5])]:=⟨_,cvG⟩
def xB:AF Tryz.f118 []:=⟨_,cvG⟩
def xY:AF Tryz.f182 []:=⟨_,cvG⟩
def qD0:AF Tryz.f145 [(1,[2])]:=⟨_,cvG⟩
def yX:AF Tryz.f168 [(5,[2]),(7,[3,4]),(10,[2])]:=⟨_,cvG⟩
def jA:AF Tryz.f115 [(9,[1]),(10,[4]),(13,[8])]:=⟨_,cvG⟩
def qGc:AF Tryz.f116 []:=⟨_,cvG⟩
def qH1:AF Tryz.f142 []:=⟨_,cvG⟩
def qAz:AF Tryz.f220 []:=⟨_,cvG⟩
def qGf:AF Tryz.f221 []:=⟨_,cvG⟩
def qDi:AF Tryz.f229 [(1,[4])]:=⟨_,cvG⟩
def qIb:AF Tryz.f262 [(1,[6])]:=⟨_,cvG⟩
def qJ4:AF Tryz.f231 []:=⟨_,cvG⟩
end Go.Eng
end
