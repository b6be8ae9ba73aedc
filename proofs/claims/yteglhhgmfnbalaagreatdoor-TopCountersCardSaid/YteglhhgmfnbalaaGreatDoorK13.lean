/- A part of an abstract machine, its walks, their tie. -/
import Derived.Test.YteglhhgmfnbalaaGreatDoorK11
set_option linter.all false
section
set_option maxRecDepth 100000
set_option maxHeartbeats 64000000
namespace Go.Eng
open List
open Go.Proofs Go.Proofs.YteglhhgmfnbalaaGreatDoor
def yM:AF Tryz.f112 []:=⟨_,cvG⟩
def qB4:AF Tryz.f77 [(1,[1]),(4,[1]),(7,[2]),(11,[3]),(15,[1]),(16,[1]),(17,[1]),(22,[1]),(23,[1]),(27,[1]),(28,[1,6]),(32,[3]),(34,[1])]:=⟨_,cvG⟩
def yJ:AF Tryz.f78 []:=⟨_,cvG⟩
def xB:AF Tryz.f129 []:=⟨_,cvG⟩
def qDa:AF Tryz.f130 []:=⟨_,cvG⟩
def qC7:AF Tryz.f113 [(1,[2]),(4,[24]),(8,[3]),(13,[4]),(32,[4])]:=⟨_,cvG⟩
def qGg:AF Tryz.f114 []:=⟨_,cvG⟩
def qEm:AF Tryz.f133 []:=⟨_,cvG⟩
def vN:AF Tryz.f132 []:=⟨_,cvG⟩
def kZ:AF Tryz.f230 []:=⟨_,cvG⟩
def qB2:AF Tryz.f176 []:=⟨_,cvG⟩
def qF8:AF Tryz.f200 []:=⟨_,cvG⟩
def qJc:AF Tryz.f183 []:=⟨_,cvG⟩
def kF:AF Tryz.f166 [(1,[2]),(2,[2]),(4,[1]),(10,[1]),(12,[2])]:=⟨_,cvG⟩
def qGd:AF Tryz.f131 [(1,[2])]:=⟨_,cvG⟩
def zP:AF Tryz.f115 [(4,[2]),(19,[2]),(31,[5])]:=⟨_,cvG⟩
def qAf:AF Tryz.f161 []:=⟨_,cvG⟩
def qD0:AF Tryz.f311 []:=⟨_,cvG⟩
def qM1:AF Tryz.f296 []:=⟨_,cvG⟩
def qEi:AF Tryz.f268 []:=⟨_,cvG⟩
def qCd:AF Tryz.f227 []:=⟨_,cvG⟩
def jJ:AF Tryz.f160 []:=⟨_,cvG⟩
def yZ:AF Tryz.f231 []:=⟨_,cvG⟩
def yC:AF Tryz.f167 [(1,[1])]:=⟨_,cvG⟩
def jK:AF Tryz.f134 [(11,[2]),(13,[2])]:=⟨_,cvG⟩
def qCp:AF Tryz.f135 [(2,[2])]:=⟨_,cvG⟩
def vR:AF Tryz.f232 []:=⟨_,cvG⟩
def qEy:AF Tryz.f233 []:=⟨_,cvG⟩
def jX:AF Tryz.f168 []:=⟨_,cvG⟩
def qBk:AF Tryz.f234 []:=⟨_,cvG⟩
def zC:AF Tryz.f169 [(17,[1])]:=⟨_,cvG⟩
def kS:AF Tryz.f170 [(10,[4])]:=⟨_,cvG⟩
def qBg:AF Tryz.f137 [(7,[9]),(9,[2]),(12,[8]),(18,[2]),(23,[10]),(5,[6]),(25,[2])]:=⟨_,cvG⟩
def qE1:AF Tryz.f157 [(2,[5])]:=⟨_,cvG⟩
def qEs:AF Tryz.f235 []:=⟨_,cvG⟩
def zT:AF Tryz.f158 [(900000,[1])]:=⟨_,cvG⟩
def qGo:AF Tryz.f226 [(1,[3])]:=⟨_,cvG⟩
def qEz:AF Tryz.f175 [(7,[1]),(9,[3])]:=⟨_,cvG⟩
def wF:AF Tryz.f184 []:=⟨_,cvG⟩
def qBl:AF Tryz.f143 [(1,[2])]:=⟨_,cvG⟩
def qGh:AF Tryz.f139 [(1,[5]),(3,[2]),(4,[2])]:=⟨_,cvG⟩
def jA:AF Tryz.f179 [(1,[2])]:=⟨_,cvG⟩
def qDi:AF Tryz.f257 []:=⟨_,cvG⟩
def qBj:AF Tryz.f256 []:=⟨_,cvG⟩
def qEt:AF Tryz.f258 []:=⟨_,cvG⟩
def jV:AF Tryz.f208 []:=⟨_,cvG⟩
def qBm:AF Tryz.f269 []:=⟨_,cvG⟩
def qAv:AF Tryz.f206 []:=⟨_,cvG⟩
def jH:AF Tryz.f270 []:=⟨_,cvG⟩
def vJ:AF Tryz.f265 []:=⟨_,cvG⟩
def yO:AF Tryz.f220 [(1,[2])]:=⟨_,cvG⟩
def xA:AF Tryz.f317 []:=⟨_,cvG⟩
def qB3:AF Tryz.f312 [(6,[3])]:=⟨_,cvG⟩
def qC6:AF Tryz.f313 []:=⟨_,cvG⟩
def qCb:AF Tryz.f298 [(1,[1,3]),(4,[2])]:=⟨_,cvG⟩
def xI:AF Tryz.f271 [(4,[1]),(7,[5]),(9,[6])]:=⟨_,cvG⟩
def qBn:AF Tryz.f274 []:=⟨_,cvG⟩
def jI:AF Tryz.f299 [(4,[5])]:=⟨_,cvG⟩
def zM:AF Tryz.f273 [(1,[2])]:=⟨_,cvG⟩
def jE:AF Tryz.f236 [(6,[3]),(14,[2]),(16,[12]),(20,[4])]:=⟨_,cvG⟩
def qAp:AF Tryz.f283 []:=⟨_,cvG⟩
def qAo:AF Tryz.f241 [(3,[7])]:=⟨_,cvG⟩
def qCe:AF Tryz.f182 [(2,[3])]:=⟨_,cvG⟩
def zV:AF Tryz.f177 [(1,[2]),(12,[3]),(15,[4])]:=⟨_,cvG⟩
def kA:AF Tryz.f140 [(8,[1]),(4,[1]),(15,[3]),(17,[2]),(18,[6]),(19,[6]),(20,[3])]:=⟨_,cvG⟩
def kL:AF Tryz.f237 []:=⟨_,cvG⟩
def qDz:AF Tryz.f178 []:=⟨_,cvG⟩
def qF7:AF Tryz.f141 [(1,[1]),(6,[2]),(11,[2]),(13,[1])]:=⟨_,cvG⟩
def qAw:AF Tryz.f181 []:=⟨_,cvG⟩
def xJ:AF Tryz.f238 []:=⟨_,cvG⟩
def qDg:AF Tryz.f275 []:=⟨_,cvG⟩
def qCa:AF Tryz.f276 []:=⟨_,cvG⟩
end Go.Eng
end
