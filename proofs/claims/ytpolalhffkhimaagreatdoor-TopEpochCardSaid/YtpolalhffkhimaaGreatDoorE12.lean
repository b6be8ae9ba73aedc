/- A part of an abstract machine, its walks, their tie. -/
import Derived.Test.YtpolalhffkhimaaGreatDoorE10
set_option linter.all false
section
set_option maxRecDepth 100000
set_option maxHeartbeats 64000000
namespace Go.Eng
open Go.Proofs Go.Proofs.YtpolalhffkhimaaGreatDoor
def qH3:AF Tryz.f95 []:=⟨_,cvG⟩
def qGf:AF Tryz.f51 []:=⟨_,cvG⟩
def qGg:AF Tryz.f94 [(11,[1])]:=⟨_,cvG⟩
def qEy:AF Tryz.f50 [(1,[2]),(4,[28]),(9,[5]),(14,[6]),(21,[1])]:=⟨_,cvG⟩
def qDh:AF Tryz.f31 [(1,[1]),(4,[1])]:=⟨_,cvG⟩
def qB5:AF Tryz.f115 []:=⟨_,cvG⟩
def qB4:AF Tryz.f116 []:=⟨_,cvG⟩
def yH:AF Tryz.f117 []:=⟨_,cvG⟩
def qA1:AF Tryz.f96 [(1,[1]),(4,[1]),(7,[2]),(11,[3]),(15,[1]),(16,[1]),(17,[1]),(22,[1]),(23,[1]),(27,[1]),(28,[1,6]),(32,[3]),(34,[1])]:=⟨_,cvG⟩
def yE:AF Tryz.f97 []:=⟨_,cvG⟩
def kB:AF Tryz.f132 []:=⟨_,cvG⟩
def qB6:AF Tryz.f133 []:=⟨_,cvG⟩
def qB3:AF Tryz.f118 [(1,[2]),(4,[24]),(8,[3]),(13,[4]),(32,[4])]:=⟨_,cvG⟩
def qEu:AF Tryz.f119 []:=⟨_,cvG⟩
def qDb:AF Tryz.f136 []:=⟨_,cvG⟩
def vD:AF Tryz.f135 []:=⟨_,cvG⟩
def wZ:AF Tryz.f232 []:=⟨_,cvG⟩
def qAz:AF Tryz.f178 []:=⟨_,cvG⟩
def qEl:AF Tryz.f202 []:=⟨_,cvG⟩
def qHw:AF Tryz.f185 []:=⟨_,cvG⟩
def wK:AF Tryz.f168 [(1,[2]),(2,[2]),(4,[1]),(10,[1]),(12,[2])]:=⟨_,cvG⟩
def qEr:AF Tryz.f134 [(1,[2])]:=⟨_,cvG⟩
def jU:AF Tryz.f120 [(4,[2]),(19,[2]),(31,[5])]:=⟨_,cvG⟩
def yR:AF Tryz.f233 []:=⟨_,cvG⟩
def jW:AF Tryz.f169 [(1,[1])]:=⟨_,cvG⟩
def qRd:AF Tryz.f137 [(11,[2]),(13,[2])]:=⟨_,cvG⟩
def qBi:AF Tryz.f138 [(2,[2])]:=⟨_,cvG⟩
def qPe:AF Tryz.f139 [(11,[1])]:=⟨_,cvG⟩
def vG:AF Tryz.f234 []:=⟨_,cvG⟩
def qDl:AF Tryz.f235 []:=⟨_,cvG⟩
def jN:AF Tryz.f170 []:=⟨_,cvG⟩
def qAg:AF Tryz.f236 []:=⟨_,cvG⟩
def qW:AF Tryz.f171 [(17,[1])]:=⟨_,cvG⟩
def wU:AF Tryz.f172 [(10,[4])]:=⟨_,cvG⟩
def qZ:AF Tryz.f173 [(5,[1])]:=⟨_,cvG⟩
def qAb:AF Tryz.f140 [(7,[9]),(9,[2]),(12,[8]),(18,[2]),(23,[10]),(5,[6]),(25,[2])]:=⟨_,cvG⟩
def qSx:AF Tryz.f160 [(2,[5])]:=⟨_,cvG⟩
def qDf:AF Tryz.f237 []:=⟨_,cvG⟩
def zQ:AF Tryz.f161 [(900000,[1])]:=⟨_,cvG⟩
def qE3:AF Tryz.f228 [(1,[3])]:=⟨_,cvG⟩
def qDm:AF Tryz.f177 [(7,[1]),(9,[3])]:=⟨_,cvG⟩
def vS:AF Tryz.f186 []:=⟨_,cvG⟩
def qAh:AF Tryz.f146 [(1,[2])]:=⟨_,cvG⟩
def qEv:AF Tryz.f142 [(1,[5]),(3,[2]),(4,[2])]:=⟨_,cvG⟩
def zY:AF Tryz.f181 [(1,[2])]:=⟨_,cvG⟩
def qCd:AF Tryz.f259 []:=⟨_,cvG⟩
def qAd:AF Tryz.f258 []:=⟨_,cvG⟩
def qDg:AF Tryz.f260 []:=⟨_,cvG⟩
def jM:AF Tryz.f210 []:=⟨_,cvG⟩
def qAi:AF Tryz.f272 []:=⟨_,cvG⟩
def xH:AF Tryz.f208 []:=⟨_,cvG⟩
def jF:AF Tryz.f273 []:=⟨_,cvG⟩
def vB:AF Tryz.f267 []:=⟨_,cvG⟩
def yJ:AF Tryz.f222 [(1,[2])]:=⟨_,cvG⟩
def kA:AF Tryz.f318 []:=⟨_,cvG⟩
def qA0:AF Tryz.f313 [(6,[3])]:=⟨_,cvG⟩
def qB2:AF Tryz.f314 []:=⟨_,cvG⟩
def qA7:AF Tryz.f301 [(1,[1,3]),(4,[2])]:=⟨_,cvG⟩
def kE:AF Tryz.f274 [(4,[1]),(7,[5]),(9,[6])]:=⟨_,cvG⟩
def qAj:AF Tryz.f277 []:=⟨_,cvG⟩
def jG:AF Tryz.f302 [(4,[5])]:=⟨_,cvG⟩
def zJ:AF Tryz.f276 [(1,[2])]:=⟨_,cvG⟩
def zZ:AF Tryz.f238 [(6,[3]),(14,[2]),(16,[12]),(20,[4])]:=⟨_,cvG⟩
def kZ:AF Tryz.f286 []:=⟨_,cvG⟩
def kY:AF Tryz.f243 [(3,[7])]:=⟨_,cvG⟩
def qBa:AF Tryz.f184 [(2,[3])]:=⟨_,cvG⟩
def zT:AF Tryz.f179 [(1,[2]),(12,[3]),(15,[4])]:=⟨_,cvG⟩
def wG:AF Tryz.f143 [(8,[1]),(4,[1]),(15,[3]),(17,[2]),(18,[6]),(19,[6]),(20,[3])]:=⟨_,cvG⟩
def wR:AF Tryz.f239 []:=⟨_,cvG⟩
def qCo:AF Tryz.f180 []:=⟨_,cvG⟩
def qEk:AF Tryz.f144 [(1,[1]),(6,[2]),(11,[2]),(13,[1])]:=⟨_,cvG⟩
def yG:AF Tryz.f121 [(3,[5]),(4,[3]),(6,[5]),(7,[3]),(17,[3]),(21,[2]),(23,[2]),(27,[2]),(29,[3]),(31,[5]),(33,[1]),(35,[1])]:=⟨_,cvG⟩
end Go.Eng
end
