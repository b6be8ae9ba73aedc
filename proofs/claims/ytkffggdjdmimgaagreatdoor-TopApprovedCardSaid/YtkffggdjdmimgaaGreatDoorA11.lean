/- A part of an abstract machine, its walks, their tie. -/
import Derived.Test.YtkffggdjdmimgaaGreatDoorA10
set_option linter.all false
section
set_option maxRecDepth 100000
set_option maxHeartbeats 64000000
namespace Go.Eng
open List
open Go.Proofs Go.Proofs.YtkffggdjdmimgaaGreatDoor
def qGv:AF Tryz.f95 []:=⟨_,cvG⟩
def qN9:AF Tryz.f121 []:=⟨_,cvG⟩
def qIi:AF Tryz.f193 []:=⟨_,cvG⟩
def qGs:AF Tryz.f260 []:=⟨_,cvG⟩
def qAf:AF Tryz.f261 []:=⟨_,cvG⟩
def kK:AF Tryz.f194 []:=⟨_,cvG⟩
def qDs:AF Tryz.f195 []:=⟨_,cvG⟩
def xQ:AF Tryz.f196 []:=⟨_,cvG⟩
def qAa:AF Tryz.f153 []:=⟨_,cvG⟩
def qKm:AF Tryz.f154 []:=⟨_,cvG⟩
def qTb:AF Tryz.f122 [(4,[1]),(5,[1])]:=⟨_,cvG⟩
def qEh:AF Tryz.f96 []:=⟨_,cvG⟩
def qBi:AF Tryz.f61 [(7,[6]),(9,[1])]:=⟨_,cvG⟩
def qN7:AF Tryz.f63 []:=⟨_,cvG⟩
def qIy:AF Tryz.f102 []:=⟨_,cvG⟩
def qK8:AF Tryz.f98 []:=⟨_,cvG⟩
def qK7:AF Tryz.f101 []:=⟨_,cvG⟩
def qCx:AF Tryz.f103 []:=⟨_,cvG⟩
def qK2:AF Tryz.f104 []:=⟨_,cvG⟩
def yN:AF Tryz.f126 []:=⟨_,cvG⟩
def kN:AF Tryz.f105 []:=⟨_,cvG⟩
def qFh:AF Tryz.f64 [(5,[4]),(10,[4]),(14,[8]),(15,[3]),(17,[4]),(23,[3]),(27,[14])]:=⟨_,cvG⟩
def qDv:AF Tryz.f97 []:=⟨_,cvG⟩
def qEx:AF Tryz.f155 []:=⟨_,cvG⟩
def qGr:AF Tryz.f123 []:=⟨_,cvG⟩
def qE2:AF Tryz.f99 []:=⟨_,cvG⟩
def qBr:AF Tryz.f156 []:=⟨_,cvG⟩
def qEz:AF Tryz.f125 []:=⟨_,cvG⟩
def qN8:AF Tryz.f124 [(3,[2]),(20,[9])]:=⟨_,cvG⟩
def qIj:AF Tryz.f100 [(2,[4])]:=⟨_,cvG⟩
def qCm:AF Tryz.f62 [(1,[8]),(5,[2]),(6,[8])]:=⟨_,cvG⟩
def qKk:AF Tryz.f106 []:=⟨_,cvG⟩
def qGq:AF Tryz.f65 [(3,[2])]:=⟨_,cvG⟩
def qGo:AF Tryz.f36 [(3,[2]),(6,[1,3,4]),(9,[2])]:=⟨_,cvG⟩
def qBq:AF Tryz.f67 [(1,[1])]:=⟨_,cvG⟩
def xZ:AF Tryz.f73 []:=⟨_,cvG⟩
def qEy:AF Tryz.f107 []:=⟨_,cvG⟩
def qF7:AF Tryz.f127 [(3,[2])]:=⟨_,cvG⟩
def qOf:AF Tryz.f129 []:=⟨_,cvG⟩
def qA7:AF Tryz.f160 []:=⟨_,cvG⟩
def yO:AF Tryz.f161 []:=⟨_,cvG⟩
def wR:AF Tryz.f157 [(4,[1]),(6,[6]),(8,[2])]:=⟨_,cvG⟩
def vR:AF Tryz.f141 [(4,[1]),(6,[6]),(8,[2]),(17,[1])]:=⟨_,cvG⟩
def qB1:AF Tryz.f143 []:=⟨_,cvG⟩
def qAt:AF Tryz.f128 [(1,[1]),(2,[1]),(3,[1]),(4,[2,3]),(5,[1,18])]:=⟨_,cvG⟩
def yZ:AF Tryz.f108 [(1,[1]),(7,[5]),(15,[2])]:=⟨_,cvG⟩
def jW:AF Tryz.f131 [(3,[5]),(4,[5])]:=⟨_,cvG⟩
def qB0:AF Tryz.f130 [(1,[2])]:=⟨_,cvG⟩
def jU:AF Tryz.f142 [(4,[5]),(6,[2]),(10,[1]),(12,[7]),(14,[2])]:=⟨_,cvG⟩
def kO:AF Tryz.f133 [(3,[4]),(4,[5])]:=⟨_,cvG⟩
def qCw:AF Tryz.f132 [(3,[2])]:=⟨_,cvG⟩
def qA5:AF Tryz.f134 [(1,[1])]:=⟨_,cvG⟩
def qAn:AF Tryz.f198 []:=⟨_,cvG⟩
def qN6:AF Tryz.f329 []:=⟨_,cvG⟩
def qEw:AF Tryz.f301 []:=⟨_,cvG⟩
def qCu:AF Tryz.f262 []:=⟨_,cvG⟩
def jR:AF Tryz.f197 []:=⟨_,cvG⟩
def qA6:AF Tryz.f159 []:=⟨_,cvG⟩
def wQ:AF Tryz.f137 [(1,[7])]:=⟨_,cvG⟩
def zU:AF Tryz.f158 [(1,[1]),(2,[1]),(3,[1]),(5,[1]),(6,[1]),(13,[9]),(16,[1])]:=⟨_,cvG⟩
def kA:AF Tryz.f135 [(1,[1]),(4,[1])]:=⟨_,cvG⟩
def qAj:AF Tryz.f136 [(1,[1]),(2,[1]),(3,[1]),(4,[1]),(5,[1]),(6,[1]),(7,[1]),(8,[1])]:=⟨_,cvG⟩
def xU:AF Tryz.f109 [(1,[1]),(2,[1]),(5,[1]),(7,[1]),(8,[1]),(9,[1]),(10,[1]),(11,[1]),(12,[1]),(13,[1]),(14,[1]),(15,[1]),(16,[1]),(18,[3]),(24,[2]),(26,[1]),(28,[1]),(29,[1]),(33,[5])]:=⟨_,cvG⟩
def qIx:AF Tryz.f110 []:=⟨_,cvG⟩
def qCl:AF Tryz.f66 [(1,[1]),(3,[2]),(4,[1]),(7,[1]),(10,[2])]:=⟨_,cvG⟩
def qHa:AF Tryz.f68 []:=⟨_,cvG⟩
def qFa:AF Tryz.f138 []:=⟨_,cvG⟩
def qG1:AF Tryz.f111 [(1,[0])]:=⟨_,cvG⟩
def kL:AF Tryz.f112 []:=⟨_,cvG⟩
def xR:AF Tryz.f113 []:=⟨_,cvG⟩
def qKv:AF Tryz.f31 []:=⟨_,cvG⟩
def qKu:AF Tryz.f45 []:=⟨_,cvG⟩
end Go.Eng
end
