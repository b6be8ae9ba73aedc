/- A part of an abstract machine, its walks, their tie. -/
import Derived.Test.YtkffggdjdmimgaaGreatDoorA10
set_option linter.all false
section
set_option maxRecDepth 100000
set_option maxHeartbeats 64000000
namespace Go.Eng
open List
open Go.Proofs Go.Proofs.YtkffggdjdmimgaaGreatDoor
def qKs:AF Tryz.f87 []:=⟨_,cvG⟩
def qKr:AF Tryz.f88 []:=⟨_,cvG⟩
def qIo:AF Tryz.f89 []:=⟨_,cvG⟩
def qGz:AF Tryz.f52 []:=⟨_,cvG⟩
def qKo:AF Tryz.f29 []:=⟨_,cvG⟩
def qG6:AF Tryz.f8 []:=⟨_,cvG⟩
def qIw:AF Tryz.f27 []:=⟨_,cvG⟩
def qFe:AF Tryz.f82 []:=⟨_,cvG⟩
def qAb:AF Tryz.f83 []:=⟨_,cvG⟩
def wM:AF Tryz.f51 []:=⟨_,cvG⟩
def wO:AF Tryz.f53 []:=⟨_,cvG⟩
def wT:AF Tryz.f28 []:=⟨_,cvG⟩
def kY:AF Tryz.f6 [(5,[5])]:=⟨_,cvG⟩
def qOe:AF Tryz.f39 []:=⟨_,cvG⟩
def qG9:AF Tryz.f15 [(1,[11])]:=⟨_,cvG⟩
def qOd:AF Tryz.f16 []:=⟨_,cvG⟩
def qIz:AF Tryz.f17 []:=⟨_,cvG⟩
def qXb:AF Tryz.f22 []:=⟨_,cvG⟩
def qXa:AF Tryz.f21 []:=⟨_,cvG⟩
def qK3:AF Tryz.f4 [(1,[0]),(5,[0]),(6,[4]),(7,[3,4]),(10,[1,2]),(13,[7,8]),(16,[5,10,11])]:=⟨_,cvG⟩
def qKt:AF Tryz.f93 []:=⟨_,cvG⟩
def qOb:AF Tryz.f94 []:=⟨_,cvG⟩
def qC8:AF Tryz.f60 []:=⟨_,cvG⟩
def qD1:AF Tryz.f34 [(1,[4])]:=⟨_,cvG⟩
def qIr:AF Tryz.f59 [(1,[6])]:=⟨_,cvG⟩
def qIs:AF Tryz.f58 []:=⟨_,cvG⟩
def qIt:AF Tryz.f69 []:=⟨_,cvG⟩
def qG3:AF Tryz.f50 [(7,[6,7]),(8,[2])]:=⟨_,cvG⟩
def qG5:AF Tryz.f26 [(2,[2]),(6,[3])]:=⟨_,cvG⟩
def qKz:AF Tryz.f47 []:=⟨_,cvG⟩
def qKn:AF Tryz.f49 []:=⟨_,cvG⟩
def qKy:AF Tryz.f25 [(7,[2])]:=⟨_,cvG⟩
def qG4:AF Tryz.f5 [(3,[5,6])]:=⟨_,cvG⟩
def qE8:AF Tryz.f20 []:=⟨_,cvG⟩
def qIl:AF Tryz.f7 []:=⟨_,cvG⟩
def qKq:AF Tryz.f152 []:=⟨_,cvG⟩
def qKp:AF Tryz.f120 []:=⟨_,cvG⟩
def qIn:AF Tryz.f92 []:=⟨_,cvG⟩
def qFc:AF Tryz.f56 []:=⟨_,cvG⟩
def qIv:AF Tryz.f90 []:=⟨_,cvG⟩
def qBh:AF Tryz.f91 []:=⟨_,cvG⟩
def jA:AF Tryz.f55 [(15,[1])]:=⟨_,cvG⟩
def qEi:AF Tryz.f32 [(3,[5,6])]:=⟨_,cvG⟩
def qFj:AF Tryz.f9 [(1,[0]),(5,[14])]:=⟨_,cvG⟩
def qCs:AF Tryz.f11 []:=⟨_,cvG⟩
def qG2:AF Tryz.f57 []:=⟨_,cvG⟩
def qKw:AF Tryz.f33 [(3,[1]),(8,[10,11])]:=⟨_,cvG⟩
def qKx:AF Tryz.f35 [(9,[2])]:=⟨_,cvG⟩
def qK1:AF Tryz.f10 [(3,[5,8]),(4,[3,4])]:=⟨_,cvG⟩
def qK5:AF Tryz.f38 []:=⟨_,cvG⟩
def qG8:AF Tryz.f13 [(4,[14,15])]:=⟨_,cvG⟩
def qFb:AF Tryz.f40 [(3,[1]),(8,[14]),(9,[2])]:=⟨_,cvG⟩
def qIu:AF Tryz.f41 [(8,[8]),(9,[8])]:=⟨_,cvG⟩
def qF9:AF Tryz.f23 []:=⟨_,cvG⟩
def qAo:AF Tryz.f18 [(8,[5]),(15,[3])]:=⟨_,cvG⟩
def zS:AF Tryz.f3 [(1,[0]),(6,[1]),(7,[1,5]),(8,[1]),(9,[1]),(10,[4]),(11,[3,4]),(12,[0]),(15,[2]),(18,[3,4]),(21,[1,2]),(24,[7,8]),(27,[4]),(28,[4,6]),(29,[12]),(32,[5,10,11]),(35,[1,5])]:=⟨_,cvG⟩
end Go.Eng
end
