/- A part of an abstract machine, its walks, their tie. -/
import Derived.Test.YtkffggdjdmimgaaGreatDoorA10
set_option linter.all false
section
set_option maxRecDepth 100000
set_option maxHeartbeats 64000000
namespace Go.Eng
open List
open Go.Proofs Go.Proofs.YtkffggdjdmimgaaGreatDoor
def qIp:AF Tryz.f72 []:=⟨_,cvG⟩
def qIq:AF Tryz.f114 [(11,[1])]:=⟨_,cvG⟩
def qG0:AF Tryz.f71 [(1,[2]),(4,[28]),(9,[5]),(14,[6]),(21,[1])]:=⟨_,cvG⟩
def qE9:AF Tryz.f42 [(1,[1]),(4,[1])]:=⟨_,cvG⟩
def qDq:AF Tryz.f139 []:=⟨_,cvG⟩
def qDp:AF Tryz.f140 []:=⟨_,cvG⟩
def yY:AF Tryz.f144 []:=⟨_,cvG⟩
def qCk:AF Tryz.f115 [(1,[1]),(4,[1]),(7,[2]),(11,[3]),(15,[1]),(16,[1]),(17,[1]),(22,[1]),(23,[1]),(27,[1]),(28,[1,6]),(32,[3]),(34,[1])]:=⟨_,cvG⟩
def yT:AF Tryz.f116 []:=⟨_,cvG⟩
def xP:AF Tryz.f162 []:=⟨_,cvG⟩
def qDr:AF Tryz.f163 []:=⟨_,cvG⟩
def qDo:AF Tryz.f145 [(1,[2]),(4,[24]),(8,[3]),(13,[4]),(32,[4])]:=⟨_,cvG⟩
def qGw:AF Tryz.f146 []:=⟨_,cvG⟩
def qE0:AF Tryz.f166 []:=⟨_,cvG⟩
def wF:AF Tryz.f165 []:=⟨_,cvG⟩
def xM:AF Tryz.f263 []:=⟨_,cvG⟩
def qCi:AF Tryz.f209 []:=⟨_,cvG⟩
def qGn:AF Tryz.f233 []:=⟨_,cvG⟩
def qKj:AF Tryz.f216 []:=⟨_,cvG⟩
def kW:AF Tryz.f199 [(1,[2]),(2,[2]),(4,[1]),(10,[1]),(12,[2])]:=⟨_,cvG⟩
def qGt:AF Tryz.f164 [(1,[2])]:=⟨_,cvG⟩
def yK:AF Tryz.f147 [(4,[2]),(19,[2]),(31,[5])]:=⟨_,cvG⟩
def vK:AF Tryz.f264 []:=⟨_,cvG⟩
def yM:AF Tryz.f200 [(1,[1])]:=⟨_,cvG⟩
def jS:AF Tryz.f167 [(11,[2]),(13,[2])]:=⟨_,cvG⟩
def qC6:AF Tryz.f168 [(2,[2])]:=⟨_,cvG⟩
def wP:AF Tryz.f265 []:=⟨_,cvG⟩
def qFf:AF Tryz.f266 []:=⟨_,cvG⟩
def yG:AF Tryz.f201 []:=⟨_,cvG⟩
def qBw:AF Tryz.f267 []:=⟨_,cvG⟩
def zD:AF Tryz.f202 [(17,[1])]:=⟨_,cvG⟩
def xI:AF Tryz.f203 [(10,[4])]:=⟨_,cvG⟩
def qBs:AF Tryz.f170 [(7,[9]),(9,[2]),(12,[8]),(18,[2]),(23,[10]),(5,[6]),(25,[2])]:=⟨_,cvG⟩
def qFi:AF Tryz.f190 [(2,[5])]:=⟨_,cvG⟩
def qE6:AF Tryz.f268 []:=⟨_,cvG⟩
def zW:AF Tryz.f191 [(900000,[1])]:=⟨_,cvG⟩
def qG7:AF Tryz.f259 [(1,[3])]:=⟨_,cvG⟩
def qFg:AF Tryz.f208 [(7,[1]),(9,[3])]:=⟨_,cvG⟩
def kD:AF Tryz.f217 []:=⟨_,cvG⟩
def qBx:AF Tryz.f176 [(1,[2])]:=⟨_,cvG⟩
def qGx:AF Tryz.f172 [(1,[5]),(3,[2]),(4,[2])]:=⟨_,cvG⟩
def jG:AF Tryz.f212 [(1,[2])]:=⟨_,cvG⟩
def qD0:AF Tryz.f290 []:=⟨_,cvG⟩
def qBv:AF Tryz.f289 []:=⟨_,cvG⟩
def qE7:AF Tryz.f291 []:=⟨_,cvG⟩
def yF:AF Tryz.f241 []:=⟨_,cvG⟩
def qBy:AF Tryz.f302 []:=⟨_,cvG⟩
def qA3:AF Tryz.f239 []:=⟨_,cvG⟩
def jN:AF Tryz.f303 []:=⟨_,cvG⟩
def vZ:AF Tryz.f298 []:=⟨_,cvG⟩
def vA:AF Tryz.f253 [(1,[2])]:=⟨_,cvG⟩
def xO:AF Tryz.f350 []:=⟨_,cvG⟩
def qCj:AF Tryz.f345 [(6,[3])]:=⟨_,cvG⟩
def qDn:AF Tryz.f346 []:=⟨_,cvG⟩
def qCr:AF Tryz.f331 [(1,[1,3]),(4,[2])]:=⟨_,cvG⟩
def xS:AF Tryz.f304 [(4,[1]),(7,[5]),(9,[6])]:=⟨_,cvG⟩
def qBz:AF Tryz.f307 []:=⟨_,cvG⟩
def zM:AF Tryz.f306 [(1,[2])]:=⟨_,cvG⟩
def jI:AF Tryz.f269 [(6,[3]),(14,[2]),(16,[12]),(20,[4])]:=⟨_,cvG⟩
def qAw:AF Tryz.f316 []:=⟨_,cvG⟩
def qAv:AF Tryz.f274 [(3,[7])]:=⟨_,cvG⟩
def qCv:AF Tryz.f215 [(2,[3])]:=⟨_,cvG⟩
def jB:AF Tryz.f210 [(1,[2]),(12,[3]),(15,[4])]:=⟨_,cvG⟩
def kR:AF Tryz.f173 [(8,[1]),(4,[1]),(15,[3]),(17,[2]),(18,[6]),(19,[6]),(20,[3])]:=⟨_,cvG⟩
def xC:AF Tryz.f270 []:=⟨_,cvG⟩
def qEf:AF Tryz.f211 []:=⟨_,cvG⟩
def qGm:AF Tryz.f174 [(1,[1]),(6,[2]),(11,[2]),(13,[1])]:=⟨_,cvG⟩
def qA4:AF Tryz.f214 []:=⟨_,cvG⟩
def xT:AF Tryz.f271 []:=⟨_,cvG⟩
def qDy:AF Tryz.f308 []:=⟨_,cvG⟩
def qCq:AF Tryz.f309 []:=⟨_,cvG⟩
def qE4:AF Tryz.f333 []:=⟨_,cvG⟩
end Go.Eng
end
