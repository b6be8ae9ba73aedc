/- A part of an abstract machine, its walks, their tie. -/
import Derived.Test.YtlhjonbjbiafaaaGreatDoorU10
set_option linter.all false
section
set_option maxRecDepth 100000
set_option maxHeartbeats 64000000
namespace Go.Eng
open Go.Proofs Go.Proofs.YtlhjonbjbiafaaaGreatDoor
def qAa:AF Tryz.f65 []:=⟨_,cvG⟩
def zS:AF Tryz.f36 [(15,[1])]:=⟨_,cvG⟩
def qCr:AF Tryz.f23 [(3,[5,6])]:=⟨_,cvG⟩
def qDm:AF Tryz.f7 [(1,[0]),(5,[14])]:=⟨_,cvG⟩
def qD6:AF Tryz.f9 []:=⟨_,cvG⟩
def qH4:AF Tryz.f28 []:=⟨_,cvG⟩
def qE0:AF Tryz.f11 [(4,[14,15])]:=⟨_,cvG⟩
def vG:AF Tryz.f3 [(1,[0]),(10,[1]),(12,[5]),(14,[1]),(15,[4]),(21,[3]),(22,[0]),(25,[2]),(28,[3,4]),(31,[1,2]),(34,[7,8]),(37,[7,8]),(40,[5,10,11])]:=⟨_,cvG⟩
def kL:AF Tryz.f4 [(1,[0]),(5,[0]),(8,[2]),(17,[3,4]),(25,[5]),(28,[11]),(30,[9]),(32,[5]),(33,[2]),(37,[7]),(42,[4,5]),(46,[1,5]),(48,[1,5]),(49,[2]),(50,[2])]:=⟨_,cvG⟩
end Go.Eng
end
