/- A part of an abstract machine, its walks, their tie. -/
import Derived.Test.YtkffggdjdmimgaaGreatDoorA10
set_option linter.all false
section
set_option maxRecDepth 100000
set_option maxHeartbeats 64000000
namespace Go.Eng
open List
open Go.Proofs Go.Proofs.YtkffggdjdmimgaaGreatDoor
def qAg:AF Tryz.f310 []:=⟨_,cvG⟩
def qAh:AF Tryz.f313 []:=⟨_,cvG⟩
def qAi:AF Tryz.f314 []:=⟨_,cvG⟩
def qE5:AF Tryz.f312 [(5,[2]),(6,[2]),(7,[3]),(9,[4])]:=⟨_,cvG⟩
def qDz:AF Tryz.f311 []:=⟨_,cvG⟩
def qBu:AF Tryz.f272 [(3,[1]),(5,[4,5])]:=⟨_,cvG⟩
def qI0:AF Tryz.f273 [(11,[4])]:=⟨_,cvG⟩
def kS:AF Tryz.f213 [(7,[4]),(15,[3])]:=⟨_,cvG⟩
def xJ:AF Tryz.f175 [(1,[2]),(12,[5]),(15,[4,7])]:=⟨_,cvG⟩
def yE:AF Tryz.f148 [(3,[5]),(4,[3]),(6,[5]),(7,[3]),(17,[3]),(21,[2]),(23,[2]),(25,[4]),(27,[2]),(28,[14]),(29,[3]),(31,[5]),(33,[1]),(35,[1])]:=⟨_,cvG⟩
def yS:AF Tryz.f225 [(1,[3])]:=⟨_,cvG⟩
def qBo:AF Tryz.f281 []:=⟨_,cvG⟩
def qBp:AF Tryz.f226 [(1,[1])]:=⟨_,cvG⟩
def zK:AF Tryz.f218 [(1,[4]),(2,[3]),(6,[4]),(8,[6]),(9,[4])]:=⟨_,cvG⟩
def vY:AF Tryz.f227 []:=⟨_,cvG⟩
def qA1:AF Tryz.f276 [(1,[2])]:=⟨_,cvG⟩
def xH:AF Tryz.f317 []:=⟨_,cvG⟩
def qCn:AF Tryz.f277 [(1,[2])]:=⟨_,cvG⟩
def vP:AF Tryz.f219 [(3,[2,3]),(4,[4,8,9])]:=⟨_,cvG⟩
def qE1:AF Tryz.f220 [(1,[2])]:=⟨_,cvG⟩
def qF8:AF Tryz.f278 []:=⟨_,cvG⟩
def vF:AF Tryz.f221 [(4,[4]),(5,[5]),(7,[5])]:=⟨_,cvG⟩
def vE:AF Tryz.f177 [(1,[1]),(3,[1]),(5,[4]),(7,[5]),(12,[3]),(15,[15])]:=⟨_,cvG⟩
def qDt:AF Tryz.f224 [(1,[2])]:=⟨_,cvG⟩
def zV:AF Tryz.f178 [(1,[4]),(2,[3]),(5,[6]),(9,[5]),(21,[1]),(23,[4]),(24,[5])]:=⟨_,cvG⟩
def wJ:AF Tryz.f149 [(5,[2]),(6,[4]),(10,[2]),(12,[3])]:=⟨_,cvG⟩
def qE3:AF Tryz.f228 []:=⟨_,cvG⟩
def qAu:AF Tryz.f205 []:=⟨_,cvG⟩
def qC7:AF Tryz.f230 []:=⟨_,cvG⟩
def qBt:AF Tryz.f229 [(1,[1,3,5,7])]:=⟨_,cvG⟩
def qHb:AF Tryz.f282 []:=⟨_,cvG⟩
def qHc:AF Tryz.f283 []:=⟨_,cvG⟩
def qGb:AF Tryz.f231 [(8,[2]),(10,[1]),(12,[1]),(13,[2])]:=⟨_,cvG⟩
def jF:AF Tryz.f207 [(900000,[1])]:=⟨_,cvG⟩
def qGy:AF Tryz.f232 [(5,[3])]:=⟨_,cvG⟩
def qCp:AF Tryz.f179 [(1,[1]),(3,[1]),(4,[1]),(5,[1]),(7,[7]),(8,[3,5]),(10,[2]),(11,[5]),(13,[2]),(14,[6])]:=⟨_,cvG⟩
def qDx:AF Tryz.f182 [(1,[2,3]),(3,[2]),(5,[1])]:=⟨_,cvG⟩
def qGu:AF Tryz.f292 []:=⟨_,cvG⟩
def qKl:AF Tryz.f242 [(2,[2])]:=⟨_,cvG⟩
def zX:AF Tryz.f293 [(4,[5])]:=⟨_,cvG⟩
def zR:AF Tryz.f243 [(1,[2])]:=⟨_,cvG⟩
def zA:AF Tryz.f245 [(900000,[1])]:=⟨_,cvG⟩
def qDw:AF Tryz.f186 [(1,[24]),(3,[2]),(4,[4]),(5,[1]),(7,[1]),(8,[3])]:=⟨_,cvG⟩
def qDu:AF Tryz.f300 []:=⟨_,cvG⟩
def xD:AF Tryz.f256 [(5,[2,3]),(9,[3])]:=⟨_,cvG⟩
def qCo:AF Tryz.f189 [(1,[5]),(3,[2]),(13,[5]),(14,[1]),(17,[2]),(19,[5]),(20,[1]),(27,[2]),(31,[2]),(33,[3])]:=⟨_,cvG⟩
def yI:AF Tryz.f150 [(3,[2]),(9,[2]),(16,[1]),(17,[5]),(19,[3]),(21,[2]),(29,[2])]:=⟨_,cvG⟩
def qAx:AF Tryz.f192 [(1,[2]),(4,[3])]:=⟨_,cvG⟩
def kJ:AF Tryz.f151 [(4,[2]),(8,[1]),(10,[3]),(14,[2])]:=⟨_,cvG⟩
def jJ:AF Tryz.f117 [(1,[1]),(3,[2]),(5,[1]),(7,[1]),(8,[2]),(9,[1]),(11,[3]),(12,[3]),(14,[2]),(15,[2]),(17,[3]),(18,[2])]:=⟨_,cvG⟩
def qIk:AF Tryz.f74 [(1,[1]),(3,[3]),(4,[3]),(5,[2])]:=⟨_,cvG⟩
def qAs:AF Tryz.f75 [(1,[2]),(2,[5]),(3,[5]),(6,[1])]:=⟨_,cvG⟩
def qGp:AF Tryz.f43 [(1,[1]),(2,[1]),(3,[4]),(4,[2])]:=⟨_,cvG⟩
def qOc:AF Tryz.f76 []:=⟨_,cvG⟩
def yL:AF Tryz.f118 []:=⟨_,cvG⟩
def vQ:AF Tryz.f77 [(3,[8])]:=⟨_,cvG⟩
def jT:AF Tryz.f78 [(1,[7]),(7,[3])]:=⟨_,cvG⟩
def qA2:AF Tryz.f119 []:=⟨_,cvG⟩
def wK:AF Tryz.f79 [(1,[7])]:=⟨_,cvG⟩
def vG:AF Tryz.f44 [(1,[1]),(2,[1]),(4,[1]),(8,[3]),(9,[1]),(13,[3]),(14,[1]),(18,[3]),(19,[1])]:=⟨_,cvG⟩
def qTe:AF Tryz.f19 [(1,[1]),(4,[3]),(5,[1])]:=⟨_,cvG⟩
def qCy:AF Tryz.f14 [(1,[3])]:=⟨_,cvG⟩
def qK4:AF Tryz.f37 [(1,[1,2]),(4,[1,2])]:=⟨_,cvG⟩
def qK6:AF Tryz.f12 [(1,[3]),(4,[1])]:=⟨_,cvG⟩
def qDb:AF Tryz.f81 []:=⟨_,cvG⟩
def qGa:AF Tryz.f80 []:=⟨_,cvG⟩
def qFd:AF Tryz.f46 []:=⟨_,cvG⟩
def kM:AF Tryz.f24 []:=⟨_,cvG⟩
def kX:AF Tryz.f30 []:=⟨_,cvG⟩
def qIm:AF Tryz.f54 []:=⟨_,cvG⟩
def qCt:AF Tryz.f85 []:=⟨_,cvG⟩
def qOa:AF Tryz.f86 []:=⟨_,cvG⟩
end Go.Eng
end
