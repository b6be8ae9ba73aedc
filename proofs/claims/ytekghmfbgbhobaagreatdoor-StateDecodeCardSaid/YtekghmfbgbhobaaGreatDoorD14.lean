/- A part of an abstract machine, its walks, their tie. -/
import Derived.Test.YtekghmfbgbhobaaGreatDoorD10
set_option linter.all false
section
set_option maxRecDepth 100000
set_option maxHeartbeats 64000000
namespace Go.Eng
open Go.Proofs Go.Proofs.YtekghmfbgbhobaaGreatDoor
def qEi:AF Tryz.f254 [(1,[2,3])]:=⟨_,cvG⟩
def vX:AF Tryz.f216 [(5,[1])]:=⟨_,cvG⟩
def kG:AF Tryz.f217 []:=⟨_,cvG⟩
def qEh:AF Tryz.f218 []:=⟨_,cvG⟩
def zE:AF Tryz.f165 [(1,[5]),(6,[5]),(9,[5]),(12,[5]),(13,[1]),(14,[9]),(16,[2]),(18,[5]),(19,[1]),(23,[9]),(25,[2]),(27,[5]),(21,[5]),(29,[2])]:=⟨_,cvG⟩
def zV:AF Tryz.f111 [(3,[5]),(4,[3]),(6,[5]),(7,[3]),(9,[1]),(14,[3]),(22,[2]),(28,[2]),(30,[2]),(32,[2]),(34,[2]),(36,[1]),(38,[6]),(41,[15]),(43,[2]),(46,[2])]:=⟨_,cvG⟩
def vK:AF Tryz.f112 [(2,[2]),(6,[1]),(8,[4]),(10,[2])]:=⟨_,cvG⟩
def qW:AF Tryz.f94 [(1,[1]),(3,[2]),(5,[1]),(7,[1]),(8,[2]),(9,[1]),(11,[3]),(13,[2]),(14,[3]),(16,[2])]:=⟨_,cvG⟩
def qC3:AF Tryz.f72 [(1,[1]),(3,[3]),(7,[19,20])]:=⟨_,cvG⟩
def qJv:AF Tryz.f30 [(4,[19]),(5,[1])]:=⟨_,cvG⟩
def qHu:AF Tryz.f10 [(1,[4]),(2,[1,2]),(3,[3])]:=⟨_,cvG⟩
def qIl:AF Tryz.f66 []:=⟨_,cvG⟩
def qKk:AF Tryz.f40 []:=⟨_,cvG⟩
def qKj:AF Tryz.f65 []:=⟨_,cvG⟩
def qCp:AF Tryz.f67 []:=⟨_,cvG⟩
def qKi:AF Tryz.f68 []:=⟨_,cvG⟩
def yQ:AF Tryz.f92 []:=⟨_,cvG⟩
def kA:AF Tryz.f69 []:=⟨_,cvG⟩
def qE0:AF Tryz.f26 [(5,[4]),(10,[4]),(14,[8]),(15,[3]),(17,[4]),(23,[3]),(27,[14])]:=⟨_,cvG⟩
def qM1:AF Tryz.f47 []:=⟨_,cvG⟩
def qA4:AF Tryz.f103 []:=⟨_,cvG⟩
def yR:AF Tryz.f104 []:=⟨_,cvG⟩
def vM:AF Tryz.f84 [(4,[1]),(6,[6]),(8,[2]),(17,[1])]:=⟨_,cvG⟩
def qB0:AF Tryz.f85 []:=⟨_,cvG⟩
def yA:AF Tryz.f49 [(3,[5]),(4,[5])]:=⟨_,cvG⟩
def qBz:AF Tryz.f48 [(1,[2])]:=⟨_,cvG⟩
def jX:AF Tryz.f86 [(4,[5]),(6,[2]),(10,[1]),(12,[7]),(14,[2])]:=⟨_,cvG⟩
def kB:AF Tryz.f51 [(3,[4]),(4,[5])]:=⟨_,cvG⟩
def qCo:AF Tryz.f50 [(3,[2])]:=⟨_,cvG⟩
def qA2:AF Tryz.f52 [(1,[1])]:=⟨_,cvG⟩
def wF:AF Tryz.f105 [(4,[1]),(6,[6]),(8,[2])]:=⟨_,cvG⟩
def qA3:AF Tryz.f88 []:=⟨_,cvG⟩
def wE:AF Tryz.f55 [(1,[7])]:=⟨_,cvG⟩
def zZ:AF Tryz.f87 [(1,[1]),(2,[1]),(3,[1]),(5,[1]),(6,[1]),(13,[9]),(16,[1])]:=⟨_,cvG⟩
def wJ:AF Tryz.f53 [(1,[1]),(4,[1])]:=⟨_,cvG⟩
def qAe:AF Tryz.f54 [(1,[1]),(2,[1]),(3,[1]),(4,[1]),(5,[1]),(6,[1]),(7,[1]),(8,[1])]:=⟨_,cvG⟩
def xJ:AF Tryz.f23 [(1,[1]),(2,[1]),(5,[1]),(7,[1]),(8,[1]),(9,[1]),(10,[1]),(11,[1]),(12,[1]),(13,[1]),(14,[1]),(15,[1]),(16,[1]),(18,[3]),(24,[2]),(26,[1]),(28,[1]),(29,[1]),(33,[5])]:=⟨_,cvG⟩
def qJ0:AF Tryz.f45 []:=⟨_,cvG⟩
def qGv:AF Tryz.f46 []:=⟨_,cvG⟩
def qEm:AF Tryz.f22 [(12,[3]),(18,[17])]:=⟨_,cvG⟩
def qD1:AF Tryz.f63 []:=⟨_,cvG⟩
def qKh:AF Tryz.f31 []:=⟨_,cvG⟩
def qHx:AF Tryz.f64 []:=⟨_,cvG⟩
def qA0:AF Tryz.f25 []:=⟨_,cvG⟩
def vI:AF Tryz.f8 [(5,[3]),(7,[1]),(8,[2]),(9,[1]),(10,[3])]:=⟨_,cvG⟩
def qAp:AF Tryz.f58 [(1,[1])]:=⟨_,cvG⟩
def wC:AF Tryz.f106 [(1,[1]),(4,[1]),(5,[1]),(12,[9])]:=⟨_,cvG⟩
def kQ:AF Tryz.f90 [(1,[1]),(2,[1]),(4,[1])]:=⟨_,cvG⟩
def qAo:AF Tryz.f60 [(1,[1]),(4,[1])]:=⟨_,cvG⟩
def qBt:AF Tryz.f61 [(2,[1]),(3,[1]),(4,[1]),(5,[1]),(6,[1]),(7,[1]),(8,[1]),(9,[1])]:=⟨_,cvG⟩
def xC:AF Tryz.f24 [(1,[1]),(2,[1]),(8,[1]),(12,[3]),(16,[3]),(17,[1]),(18,[1]),(19,[1]),(20,[1]),(21,[1]),(22,[1]),(23,[1]),(24,[1]),(28,[3]),(29,[1]),(30,[1]),(31,[1]),(32,[1]),(33,[1]),(34,[1]),(35,[1]),(40,[1]),(41,[1]),(43,[1])]:=⟨_,cvG⟩
def yZ:AF Tryz.f7 [(5,[3]),(7,[1]),(8,[2]),(12,[5]),(13,[1]),(14,[1]),(15,[1]),(16,[1])]:=⟨_,cvG⟩
end Go.Eng
end
