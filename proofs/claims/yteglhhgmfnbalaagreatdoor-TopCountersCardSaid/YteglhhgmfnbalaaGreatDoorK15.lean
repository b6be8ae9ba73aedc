/- A part of an abstract machine, its walks, their tie. -/
import Derived.Test.YteglhhgmfnbalaaGreatDoorK11
set_option linter.all false
section
set_option maxRecDepth 100000
set_option maxHeartbeats 64000000
namespace Go.Eng
open List
open Go.Proofs Go.Proofs.YteglhhgmfnbalaaGreatDoor
def qJo:AF Tryz.f12 [(1,[1,2]),(4,[1,2])]:=⟨_,cvG⟩
def qJp:AF Tryz.f5 [(1,[3]),(4,[1])]:=⟨_,cvG⟩
def qCw:AF Tryz.f57 []:=⟨_,cvG⟩
def qFr:AF Tryz.f56 []:=⟨_,cvG⟩
def qEw:AF Tryz.f35 []:=⟨_,cvG⟩
def wO:AF Tryz.f16 []:=⟨_,cvG⟩
def kG:AF Tryz.f32 []:=⟨_,cvG⟩
def qHo:AF Tryz.f55 []:=⟨_,cvG⟩
def qCc:AF Tryz.f92 []:=⟨_,cvG⟩
def qM4:AF Tryz.f93 []:=⟨_,cvG⟩
def qJj:AF Tryz.f94 []:=⟨_,cvG⟩
def qJi:AF Tryz.f95 []:=⟨_,cvG⟩
def qHp:AF Tryz.f96 []:=⟨_,cvG⟩
def qGj:AF Tryz.f54 []:=⟨_,cvG⟩
def qJh:AF Tryz.f33 []:=⟨_,cvG⟩
def qGm:AF Tryz.f15 []:=⟨_,cvG⟩
def qHs:AF Tryz.f36 []:=⟨_,cvG⟩
def qEx:AF Tryz.f97 []:=⟨_,cvG⟩
def qDj:AF Tryz.f99 []:=⟨_,cvG⟩
def qD4:AF Tryz.f58 []:=⟨_,cvG⟩
def qD5:AF Tryz.f59 []:=⟨_,cvG⟩
def qCr:AF Tryz.f37 []:=⟨_,cvG⟩
def qGn:AF Tryz.f17 [(5,[5])]:=⟨_,cvG⟩
def qM7:AF Tryz.f8 []:=⟨_,cvG⟩
def qGq:AF Tryz.f19 [(1,[11])]:=⟨_,cvG⟩
def qM6:AF Tryz.f20 []:=⟨_,cvG⟩
def qHw:AF Tryz.f21 []:=⟨_,cvG⟩
def qVr:AF Tryz.f23 []:=⟨_,cvG⟩
def qVq:AF Tryz.f22 []:=⟨_,cvG⟩
def qJn:AF Tryz.f4 [(1,[0]),(5,[0]),(6,[4]),(7,[3,4]),(10,[1,2]),(13,[7,8]),(16,[5,10,11])]:=⟨_,cvG⟩
def qGp:AF Tryz.f6 [(1,[4])]:=⟨_,cvG⟩
def qHv:AF Tryz.f7 [(1,[4])]:=⟨_,cvG⟩
def qD6:AF Tryz.f10 []:=⟨_,cvG⟩
def qJg:AF Tryz.f9 []:=⟨_,cvG⟩
def qFs:AF Tryz.f3 [(1,[0]),(5,[0]),(13,[0]),(17,[0]),(19,[3]),(21,[9]),(22,[2]),(26,[1]),(29,[2,3]),(35,[4,5])]:=⟨_,cvG⟩
end Go.Eng
end
