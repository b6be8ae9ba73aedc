/- A part of an abstract machine, its walks, their tie. -/
import Derived.Test.YtlhjonbjbiafaaaGreatDoorU10
set_option linter.all false
section
set_option maxRecDepth 100000
set_option maxHeartbeats 64000000
namespace Go.Eng
open Go.Proofs Go.Proofs.YtlhjonbjbiafaaaGreatDoor
def qD5:AF Tryz.f255 []:=⟨_,cvG⟩
def yO:AF Tryz.f198 [(4,[4]),(5,[5]),(7,[5])]:=⟨_,cvG⟩
def yN:AF Tryz.f154 [(1,[1]),(3,[1]),(5,[4]),(7,[5]),(12,[3]),(15,[15])]:=⟨_,cvG⟩
def qCd:AF Tryz.f201 [(1,[2])]:=⟨_,cvG⟩
def zP:AF Tryz.f155 [(1,[4]),(2,[3]),(5,[6]),(9,[5]),(21,[1]),(23,[4]),(24,[5])]:=⟨_,cvG⟩
def vN:AF Tryz.f126 [(5,[2]),(6,[4]),(10,[2]),(12,[3])]:=⟨_,cvG⟩
def qDc:AF Tryz.f205 []:=⟨_,cvG⟩
def xI:AF Tryz.f182 []:=⟨_,cvG⟩
def qBr:AF Tryz.f207 []:=⟨_,cvG⟩
def qAn:AF Tryz.f206 [(1,[1,3,5,7])]:=⟨_,cvG⟩
def qE3:AF Tryz.f259 []:=⟨_,cvG⟩
def qAh:AF Tryz.f247 []:=⟨_,cvG⟩
def qF1:AF Tryz.f188 []:=⟨_,cvG⟩
def qE4:AF Tryz.f260 []:=⟨_,cvG⟩
def qD8:AF Tryz.f208 [(8,[2]),(10,[1]),(12,[1]),(13,[2])]:=⟨_,cvG⟩
def zX:AF Tryz.f184 [(900000,[1])]:=⟨_,cvG⟩
def qEv:AF Tryz.f209 [(5,[3])]:=⟨_,cvG⟩
def qBg:AF Tryz.f156 [(1,[1]),(3,[1]),(4,[1]),(5,[1]),(7,[7]),(8,[3,5]),(10,[2]),(11,[5]),(13,[2]),(14,[6])]:=⟨_,cvG⟩
def qCf:AF Tryz.f159 [(1,[2,3]),(3,[2]),(5,[1])]:=⟨_,cvG⟩
def wC:AF Tryz.f127 [(3,[2]),(9,[2]),(16,[1]),(17,[5]),(19,[3]),(21,[2]),(29,[2])]:=⟨_,cvG⟩
def xL:AF Tryz.f169 [(1,[2]),(4,[3])]:=⟨_,cvG⟩
def wK:AF Tryz.f128 [(4,[2]),(8,[1]),(10,[3]),(14,[2])]:=⟨_,cvG⟩
def jY:AF Tryz.f94 [(1,[1]),(3,[2]),(5,[1]),(7,[1]),(8,[2]),(9,[1]),(11,[3]),(12,[3]),(14,[2]),(15,[2]),(17,[3]),(18,[2])]:=⟨_,cvG⟩
def qF4:AF Tryz.f51 [(1,[1]),(3,[3]),(4,[3]),(5,[2])]:=⟨_,cvG⟩
def xC:AF Tryz.f52 [(1,[2]),(2,[5]),(3,[5]),(6,[1])]:=⟨_,cvG⟩
def qEn:AF Tryz.f31 [(1,[1]),(2,[1]),(3,[4]),(4,[2])]:=⟨_,cvG⟩
def qKq:AF Tryz.f53 []:=⟨_,cvG⟩
def jZ:AF Tryz.f95 []:=⟨_,cvG⟩
def vB:AF Tryz.f54 [(3,[8])]:=⟨_,cvG⟩
def jJ:AF Tryz.f55 [(1,[7]),(7,[3])]:=⟨_,cvG⟩
def xP:AF Tryz.f96 []:=⟨_,cvG⟩
def vO:AF Tryz.f56 [(1,[7])]:=⟨_,cvG⟩
def yP:AF Tryz.f32 [(1,[1]),(2,[1]),(4,[1]),(8,[3]),(9,[1]),(13,[3]),(14,[1]),(18,[3]),(19,[1])]:=⟨_,cvG⟩
def qO1:AF Tryz.f16 [(1,[1]),(4,[3]),(5,[1])]:=⟨_,cvG⟩
def qBk:AF Tryz.f12 [(1,[3])]:=⟨_,cvG⟩
def qH3:AF Tryz.f27 [(1,[1,2]),(4,[1,2])]:=⟨_,cvG⟩
def qH5:AF Tryz.f10 [(1,[3]),(4,[1])]:=⟨_,cvG⟩
def qBx:AF Tryz.f58 []:=⟨_,cvG⟩
def qD7:AF Tryz.f57 []:=⟨_,cvG⟩
def qDi:AF Tryz.f33 []:=⟨_,cvG⟩
def wO:AF Tryz.f19 []:=⟨_,cvG⟩
def wY:AF Tryz.f20 []:=⟨_,cvG⟩
def qF5:AF Tryz.f35 []:=⟨_,cvG⟩
def qBh:AF Tryz.f59 []:=⟨_,cvG⟩
def qKp:AF Tryz.f60 []:=⟨_,cvG⟩
def qHy:AF Tryz.f61 []:=⟨_,cvG⟩
def qHx:AF Tryz.f62 []:=⟨_,cvG⟩
def qF7:AF Tryz.f63 []:=⟨_,cvG⟩
def qEw:AF Tryz.f34 []:=⟨_,cvG⟩
def qHu:AF Tryz.f21 []:=⟨_,cvG⟩
def qEx:AF Tryz.f6 []:=⟨_,cvG⟩
def qF9:AF Tryz.f24 []:=⟨_,cvG⟩
def qDj:AF Tryz.f68 []:=⟨_,cvG⟩
def qXc:AF Tryz.f69 []:=⟨_,cvG⟩
def qCh:AF Tryz.f70 []:=⟨_,cvG⟩
def qCs:AF Tryz.f38 []:=⟨_,cvG⟩
def qCt:AF Tryz.f39 []:=⟨_,cvG⟩
def qBs:AF Tryz.f25 []:=⟨_,cvG⟩
def qEy:AF Tryz.f8 [(5,[5])]:=⟨_,cvG⟩
def qKu:AF Tryz.f29 []:=⟨_,cvG⟩
def qE1:AF Tryz.f13 [(1,[11])]:=⟨_,cvG⟩
def qKt:AF Tryz.f14 []:=⟨_,cvG⟩
def qGa:AF Tryz.f15 []:=⟨_,cvG⟩
def qSl:AF Tryz.f18 []:=⟨_,cvG⟩
def qSk:AF Tryz.f17 []:=⟨_,cvG⟩
def qH2:AF Tryz.f5 [(1,[0]),(5,[0]),(6,[4]),(7,[3,4]),(10,[1,2]),(13,[7,8]),(16,[5,10,11])]:=⟨_,cvG⟩
def qHw:AF Tryz.f129 []:=⟨_,cvG⟩
def qHv:AF Tryz.f97 []:=⟨_,cvG⟩
def qF6:AF Tryz.f66 []:=⟨_,cvG⟩
def qDh:AF Tryz.f37 []:=⟨_,cvG⟩
def qF8:AF Tryz.f64 []:=⟨_,cvG⟩
def qHt:AF Tryz.f67 []:=⟨_,cvG⟩
end Go.Eng
end
