/- A part of an abstract machine, its walks, their tie. -/
import Derived.Test.YtekghmfbgbhobaaGreatDoorS13
set_option linter.all false
section
set_option maxRecDepth 100000
set_option maxHeartbeats 64000000
namespace Go.Eng
open Go.Proofs Go.Proofs.YtekghmfbgbhobaaGreatDoor
def qC1:AF Tryz.f254 [(1,[2,3])]:=⟨_,cvG⟩
def vG:AF Tryz.f216 [(5,[1])]:=⟨_,cvG⟩
def wD:AF Tryz.f217 []:=⟨_,cvG⟩
def qC0:AF Tryz.f218 []:=⟨_,cvG⟩
def zA:AF Tryz.f165 [(1,[5]),(6,[5]),(9,[5]),(12,[5]),(13,[1]),(14,[9]),(16,[2]),(18,[5]),(19,[1]),(23,[9]),(25,[2]),(27,[5]),(21,[5]),(29,[2])]:=⟨_,cvG⟩
def zP:AF Tryz.f111 [(3,[5]),(4,[3]),(6,[5]),(7,[3]),(9,[1]),(14,[3]),(22,[2]),(28,[2]),(30,[2]),(32,[2]),(34,[2]),(36,[1]),(38,[6]),(41,[15]),(43,[2]),(46,[2])]:=⟨_,cvG⟩
def yV:AF Tryz.f112 [(2,[2]),(6,[1]),(8,[4]),(10,[2])]:=⟨_,cvG⟩
def qU:AF Tryz.f94 [(1,[1]),(3,[2]),(5,[1]),(7,[1]),(8,[2]),(9,[1]),(11,[3]),(13,[2]),(14,[3]),(16,[2])]:=⟨_,cvG⟩
def qBo:AF Tryz.f72 [(1,[1]),(3,[3]),(7,[19,20])]:=⟨_,cvG⟩
def qH8:AF Tryz.f30 [(4,[19]),(5,[1])]:=⟨_,cvG⟩
def qF5:AF Tryz.f10 [(1,[4]),(2,[1,2]),(3,[3])]:=⟨_,cvG⟩
def qCh:AF Tryz.f63 []:=⟨_,cvG⟩
def qIt:AF Tryz.f31 []:=⟨_,cvG⟩
def qGa:AF Tryz.f64 []:=⟨_,cvG⟩
def xL:AF Tryz.f25 []:=⟨_,cvG⟩
def qGg:AF Tryz.f32 []:=⟨_,cvG⟩
def kQ:AF Tryz.f33 []:=⟨_,cvG⟩
def qF7:AF Tryz.f34 []:=⟨_,cvG⟩
def qF9:AF Tryz.f35 []:=⟨_,cvG⟩
def qGe:AF Tryz.f13 [(2,[72,80]),(7,[10]),(12,[27])]:=⟨_,cvG⟩
def jC:AF Tryz.f3 [(3,[2]),(6,[2]),(8,[5]),(9,[2]),(11,[1]),(12,[2,5,6]),(17,[2]),(18,[2]),(19,[6]),(21,[2]),(22,[2])]:=⟨_,cvG⟩
def yR:AF Tryz.f21 [(11,[1])]:=⟨_,cvG⟩
def yD:AF Tryz.f5 [(5,[3]),(7,[2]),(11,[2]),(12,[2]),(13,[6]),(15,[2]),(16,[2])]:=⟨_,cvG⟩
def qIu:AF Tryz.f40 []:=⟨_,cvG⟩
def qDh:AF Tryz.f18 [(2,[5])]:=⟨_,cvG⟩
def kP:AF Tryz.f4 [(3,[2]),(5,[2]),(6,[2]),(7,[2]),(8,[2]),(9,[6,16])]:=⟨_,cvG⟩
def vW:AF Tryz.f6 [(5,[2]),(12,[4]),(16,[2,6]),(18,[2,3])]:=⟨_,cvG⟩
end Go.Eng
end
