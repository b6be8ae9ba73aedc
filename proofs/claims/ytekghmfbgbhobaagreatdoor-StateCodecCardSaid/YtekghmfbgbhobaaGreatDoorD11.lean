/- A part of an abstract machine, its walks, their tie. -/
import Derived.Test.YtekghmfbgbhobaaGreatDoorD10
set_option linter.all false
section
set_option maxRecDepth 100000
set_option cbv.maxSteps 100000000
namespace Go.Eng
open Go.Proofs Go.Proofs.YtekghmfbgbhobaaGreatDoor
def qGa:AF Tryz.f70 []:=⟨_,cvG⟩
def qMr:AF Tryz.f80 []:=⟨_,cvG⟩
def qHn:AF Tryz.f128 []:=⟨_,cvG⟩
def qF6:AF Tryz.f178 []:=⟨_,cvG⟩
def qAb:AF Tryz.f179 []:=⟨_,cvG⟩
def wT:AF Tryz.f129 []:=⟨_,cvG⟩
def qDb:AF Tryz.f130 []:=⟨_,cvG⟩
def kY:AF Tryz.f131 []:=⟨_,cvG⟩
def xU:AF Tryz.f100 []:=⟨_,cvG⟩
def qJs:AF Tryz.f101 []:=⟨_,cvG⟩
def qRv:AF Tryz.f81 [(4,[1]),(5,[1])]:=⟨_,cvG⟩
def qDt:AF Tryz.f41 []:=⟨_,cvG⟩
def qBf:AF Tryz.f27 [(7,[6]),(9,[1])]:=⟨_,cvG⟩
def qIf:AF Tryz.f14 []:=⟨_,cvG⟩
def qAk:AF Tryz.f76 []:=⟨_,cvG⟩
def qDs:AF Tryz.f177 []:=⟨_,cvG⟩
def qMq:AF Tryz.f126 []:=⟨_,cvG⟩
def qEa:AF Tryz.f96 []:=⟨_,cvG⟩
def qCk:AF Tryz.f75 []:=⟨_,cvG⟩
def jT:AF Tryz.f36 []:=⟨_,cvG⟩
def vF:AF Tryz.f77 []:=⟨_,cvG⟩
def yP:AF Tryz.f37 [(1,[1])]:=⟨_,cvG⟩
def jU:AF Tryz.f15 [(11,[2]),(13,[2])]:=⟨_,cvG⟩
def qF9:AF Tryz.f9 [(1,[1]),(2,[1,2])]:=⟨_,cvG⟩
def qJr:AF Tryz.f29 []:=⟨_,cvG⟩
def qJ6:AF Tryz.f82 []:=⟨_,cvG⟩
def qCi:AF Tryz.f132 []:=⟨_,cvG⟩
def qMs:AF Tryz.f133 []:=⟨_,cvG⟩
def qJ3:AF Tryz.f134 []:=⟨_,cvG⟩
def qJ2:AF Tryz.f135 []:=⟨_,cvG⟩
def qHz:AF Tryz.f136 []:=⟨_,cvG⟩
def qGi:AF Tryz.f102 []:=⟨_,cvG⟩
def qMt:AF Tryz.f83 []:=⟨_,cvG⟩
def qCy:AF Tryz.f43 []:=⟨_,cvG⟩
def qJu:AF Tryz.f71 []:=⟨_,cvG⟩
def qBc:AF Tryz.f28 [(3,[2]),(7,[6])]:=⟨_,cvG⟩
def qHv:AF Tryz.f11 []:=⟨_,cvG⟩
def qC1:AF Tryz.f98 []:=⟨_,cvG⟩
def qFu:AF Tryz.f97 []:=⟨_,cvG⟩
def qEt:AF Tryz.f78 []:=⟨_,cvG⟩
def wW:AF Tryz.f38 []:=⟨_,cvG⟩
def qJy:AF Tryz.f99 []:=⟨_,cvG⟩
def qBe:AF Tryz.f79 []:=⟨_,cvG⟩
def kP:AF Tryz.f39 [(1,[1])]:=⟨_,cvG⟩
def jQ:AF Tryz.f16 [(10,[3]),(12,[3])]:=⟨_,cvG⟩
def qFq:AF Tryz.f73 [(3,[2,3])]:=⟨_,cvG⟩
def qDw:AF Tryz.f93 []:=⟨_,cvG⟩
def qEb:AF Tryz.f17 []:=⟨_,cvG⟩
def qHo:AF Tryz.f113 []:=⟨_,cvG⟩
def wK:AF Tryz.f114 []:=⟨_,cvG⟩
def qIc:AF Tryz.f246 []:=⟨_,cvG⟩
def qEv:AF Tryz.f272 []:=⟨_,cvG⟩
def qId:AF Tryz.f273 []:=⟨_,cvG⟩
def qAs:AF Tryz.f274 []:=⟨_,cvG⟩
def qIa:AF Tryz.f249 []:=⟨_,cvG⟩
def qJ8:AF Tryz.f42 []:=⟨_,cvG⟩
def qHx:AF Tryz.f191 []:=⟨_,cvG⟩
def qIb:AF Tryz.f275 []:=⟨_,cvG⟩
def qGt:AF Tryz.f250 []:=⟨_,cvG⟩
def qGs:AF Tryz.f219 [(5,[5])]:=⟨_,cvG⟩
def kZ:AF Tryz.f118 []:=⟨_,cvG⟩
def xV:AF Tryz.f182 []:=⟨_,cvG⟩
def qDx:AF Tryz.f145 [(1,[2])]:=⟨_,cvG⟩
def yX:AF Tryz.f168 [(5,[2]),(7,[3,4]),(10,[2])]:=⟨_,cvG⟩
def jA:AF Tryz.f115 [(9,[1]),(10,[4]),(13,[8])]:=⟨_,cvG⟩
def qF8:AF Tryz.f116 []:=⟨_,cvG⟩
def qHw:AF Tryz.f142 []:=⟨_,cvG⟩
def qAw:AF Tryz.f220 []:=⟨_,cvG⟩
def qGb:AF Tryz.f221 []:=⟨_,cvG⟩
def qDf:AF Tryz.f229 [(1,[4])]:=⟨_,cvG⟩
def qH6:AF Tryz.f262 [(1,[6])]:=⟨_,cvG⟩
def qJz:AF Tryz.f231 []:=⟨_,cvG⟩
end Go.Eng
end
