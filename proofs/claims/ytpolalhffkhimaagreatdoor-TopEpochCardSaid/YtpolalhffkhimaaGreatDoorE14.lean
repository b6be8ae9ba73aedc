/- A part of an abstract machine, its walks, their tie. -/
import Derived.Test.YtpolalhffkhimaaGreatDoorE10
set_option linter.all false
section
set_option maxRecDepth 100000
set_option maxHeartbeats 64000000
namespace Go.Eng
open Go.Proofs Go.Proofs.YtpolalhffkhimaaGreatDoor
def qCr:AF Tryz.f43 []:=⟨_,cvG⟩
def qCs:AF Tryz.f44 []:=⟨_,cvG⟩
def qE2:AF Tryz.f27 []:=⟨_,cvG⟩
def qE1:AF Tryz.f11 [(5,[5])]:=⟨_,cvG⟩
def qK3:AF Tryz.f23 []:=⟨_,cvG⟩
def qE5:AF Tryz.f16 [(1,[11])]:=⟨_,cvG⟩
def qK2:AF Tryz.f13 []:=⟨_,cvG⟩
def qGj:AF Tryz.f15 []:=⟨_,cvG⟩
def qSz:AF Tryz.f18 []:=⟨_,cvG⟩
def qSy:AF Tryz.f17 []:=⟨_,cvG⟩
def qH6:AF Tryz.f4 [(1,[0]),(5,[0]),(6,[4]),(7,[3,4]),(10,[1,2]),(13,[7,8]),(16,[5,10,11])]:=⟨_,cvG⟩
def qGi:AF Tryz.f7 [(1,[4])]:=⟨_,cvG⟩
def qE4:AF Tryz.f8 [(1,[4])]:=⟨_,cvG⟩
def qAf:AF Tryz.f25 []:=⟨_,cvG⟩
def qAe:AF Tryz.f9 [(1,[1])]:=⟨_,cvG⟩
def qD6:AF Tryz.f19 []:=⟨_,cvG⟩
def kF:AF Tryz.f3 [(1,[0]),(5,[0]),(8,[1,2]),(11,[1,2]),(14,[1]),(16,[4]),(23,[1,2]),(26,[1]),(29,[1,2]),(32,[8,9]),(36,[3,4]),(39,[5,10,11]),(42,[1])]:=⟨_,cvG⟩
end Go.Eng
end
