/- A part of an abstract machine, its walks, their tie. -/
import Derived.Test.YteglhhgmfnbalaaGreatDoorK11
set_option linter.all false
section
set_option maxRecDepth 100000
set_option maxHeartbeats 64000000
namespace Go.Eng
open List
open Go.Proofs Go.Proofs.YteglhhgmfnbalaaGreatDoor
def xY:AF Tryz.f277 []:=⟨_,cvG⟩
def xZ:AF Tryz.f280 []:=⟨_,cvG⟩
def qAa:AF Tryz.f281 []:=⟨_,cvG⟩
def qEr:AF Tryz.f279 [(5,[2]),(6,[2]),(7,[3]),(9,[4])]:=⟨_,cvG⟩
def qDh:AF Tryz.f278 []:=⟨_,cvG⟩
def qBi:AF Tryz.f239 [(3,[1]),(5,[4,5])]:=⟨_,cvG⟩
def qHx:AF Tryz.f240 [(11,[4])]:=⟨_,cvG⟩
def kB:AF Tryz.f180 [(7,[4]),(15,[3])]:=⟨_,cvG⟩
def kT:AF Tryz.f142 [(1,[2]),(12,[5]),(15,[4,7])]:=⟨_,cvG⟩
def jU:AF Tryz.f116 [(3,[5]),(4,[3]),(6,[5]),(7,[3]),(17,[3]),(21,[2]),(23,[2]),(25,[4]),(27,[2]),(28,[14]),(29,[3]),(31,[5]),(33,[1]),(35,[1])]:=⟨_,cvG⟩
def yI:AF Tryz.f192 [(1,[3])]:=⟨_,cvG⟩
def qBd:AF Tryz.f248 []:=⟨_,cvG⟩
def kM:AF Tryz.f193 [(1,[1])]:=⟨_,cvG⟩
def qY:AF Tryz.f185 [(1,[4]),(2,[3]),(6,[4]),(8,[6]),(9,[4])]:=⟨_,cvG⟩
def vH:AF Tryz.f194 []:=⟨_,cvG⟩
def qAt:AF Tryz.f243 [(1,[2])]:=⟨_,cvG⟩
def kP:AF Tryz.f284 []:=⟨_,cvG⟩
def qB7:AF Tryz.f244 [(1,[2])]:=⟨_,cvG⟩
def vC:AF Tryz.f186 [(3,[2,3]),(4,[4,8,9])]:=⟨_,cvG⟩
def qEn:AF Tryz.f187 [(1,[2])]:=⟨_,cvG⟩
def qFq:AF Tryz.f245 []:=⟨_,cvG⟩
def yU:AF Tryz.f188 [(4,[4]),(5,[5]),(7,[5])]:=⟨_,cvG⟩
def yT:AF Tryz.f144 [(1,[1]),(3,[1]),(5,[4]),(7,[5]),(12,[3]),(15,[15])]:=⟨_,cvG⟩
def qDc:AF Tryz.f191 [(1,[2])]:=⟨_,cvG⟩
def zS:AF Tryz.f145 [(1,[4]),(2,[3]),(5,[6]),(9,[5]),(21,[1]),(23,[4]),(24,[5])]:=⟨_,cvG⟩
def vP:AF Tryz.f117 [(5,[2]),(6,[4]),(10,[2]),(12,[3])]:=⟨_,cvG⟩
def qEq:AF Tryz.f195 []:=⟨_,cvG⟩
def qAn:AF Tryz.f172 []:=⟨_,cvG⟩
def qCq:AF Tryz.f197 []:=⟨_,cvG⟩
def qBh:AF Tryz.f196 [(1,[1,3,5,7])]:=⟨_,cvG⟩
def qGs:AF Tryz.f249 []:=⟨_,cvG⟩
def qGt:AF Tryz.f250 []:=⟨_,cvG⟩
def qFt:AF Tryz.f198 [(8,[2]),(10,[1]),(12,[1]),(13,[2])]:=⟨_,cvG⟩
def zZ:AF Tryz.f174 [(900000,[1])]:=⟨_,cvG⟩
def qGi:AF Tryz.f199 [(5,[3])]:=⟨_,cvG⟩
def qB9:AF Tryz.f146 [(1,[1]),(3,[1]),(4,[1]),(5,[1]),(7,[7]),(8,[3,5]),(10,[2]),(11,[5]),(13,[2]),(14,[6])]:=⟨_,cvG⟩
def qDf:AF Tryz.f149 [(1,[2,3]),(3,[2]),(5,[1])]:=⟨_,cvG⟩
def qGe:AF Tryz.f259 []:=⟨_,cvG⟩
def qJe:AF Tryz.f209 [(2,[2])]:=⟨_,cvG⟩
def kQ:AF Tryz.f211 []:=⟨_,cvG⟩
def vZ:AF Tryz.f214 []:=⟨_,cvG⟩
def qP:AF Tryz.f260 [(4,[5])]:=⟨_,cvG⟩
def zE:AF Tryz.f210 [(1,[2])]:=⟨_,cvG⟩
def qW:AF Tryz.f212 [(900000,[1])]:=⟨_,cvG⟩
def qAm:AF Tryz.f153 [(1,[24]),(3,[2]),(4,[4]),(5,[1]),(7,[1]),(8,[3])]:=⟨_,cvG⟩
def zH:AF Tryz.f213 [(1,[1002])]:=⟨_,cvG⟩
def vI:AF Tryz.f262 [(900000,[1])]:=⟨_,cvG⟩
def yK:AF Tryz.f295 []:=⟨_,cvG⟩
def yE:AF Tryz.f261 []:=⟨_,cvG⟩
def qB8:AF Tryz.f215 []:=⟨_,cvG⟩
def kR:AF Tryz.f154 [(1,[3,1005]),(3,[1])]:=⟨_,cvG⟩
def qEo:AF Tryz.f266 []:=⟨_,cvG⟩
def qD2:AF Tryz.f221 []:=⟨_,cvG⟩
def qDd:AF Tryz.f267 []:=⟨_,cvG⟩
def kO:AF Tryz.f223 [(5,[2,3]),(9,[3])]:=⟨_,cvG⟩
def wE:AF Tryz.f156 [(1,[5]),(3,[2]),(13,[5]),(14,[1]),(15,[9]),(17,[2]),(19,[5]),(20,[1]),(27,[2]),(31,[2]),(33,[3])]:=⟨_,cvG⟩
def zW:AF Tryz.f118 [(3,[2]),(9,[2]),(16,[1]),(17,[5]),(19,[3]),(21,[2]),(23,[5]),(29,[2])]:=⟨_,cvG⟩
def qAq:AF Tryz.f159 [(1,[2]),(4,[3])]:=⟨_,cvG⟩
def wJ:AF Tryz.f119 [(4,[2]),(8,[1]),(10,[3]),(14,[2])]:=⟨_,cvG⟩
def qV:AF Tryz.f79 [(1,[1]),(3,[2]),(5,[1]),(7,[1]),(8,[2]),(9,[1]),(11,[3]),(12,[3]),(14,[2]),(15,[2]),(17,[3]),(18,[2])]:=⟨_,cvG⟩
def qHn:AF Tryz.f46 [(1,[1]),(3,[3]),(4,[3]),(5,[2])]:=⟨_,cvG⟩
def wZ:AF Tryz.f47 [(1,[2]),(2,[5]),(3,[5]),(6,[1])]:=⟨_,cvG⟩
def qCo:AF Tryz.f26 [(1,[1]),(2,[1]),(3,[4]),(4,[2])]:=⟨_,cvG⟩
def qM5:AF Tryz.f13 []:=⟨_,cvG⟩
def yB:AF Tryz.f31 []:=⟨_,cvG⟩
def vD:AF Tryz.f14 [(3,[8])]:=⟨_,cvG⟩
def jM:AF Tryz.f48 [(1,[7]),(7,[3])]:=⟨_,cvG⟩
def qAu:AF Tryz.f80 []:=⟨_,cvG⟩
def vQ:AF Tryz.f49 [(1,[7])]:=⟨_,cvG⟩
def jW:AF Tryz.f27 [(1,[1]),(2,[1]),(4,[1]),(8,[3]),(9,[1]),(13,[3]),(14,[1]),(18,[3]),(19,[1])]:=⟨_,cvG⟩
def qLx:AF Tryz.f11 [(1,[1]),(4,[3]),(5,[1])]:=⟨_,cvG⟩
def qCh:AF Tryz.f18 [(1,[3])]:=⟨_,cvG⟩
end Go.Eng
end
