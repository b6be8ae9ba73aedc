/- A part of an abstract machine, its walks, their tie. -/
import Derived.Test.YtpolalhffkhimaaGreatDoorE10
set_option linter.all false
section
set_option maxRecDepth 100000
set_option maxHeartbeats 64000000
namespace Go.Eng
open Go.Proofs Go.Proofs.YtpolalhffkhimaaGreatDoor
def qEt:AF Tryz.f60 []:=⟨_,cvG⟩
def qKx:AF Tryz.f101 []:=⟨_,cvG⟩
def qGa:AF Tryz.f163 []:=⟨_,cvG⟩
def qEq:AF Tryz.f229 []:=⟨_,cvG⟩
def kO:AF Tryz.f230 []:=⟨_,cvG⟩
def vW:AF Tryz.f164 []:=⟨_,cvG⟩
def qB7:AF Tryz.f165 []:=⟨_,cvG⟩
def kC:AF Tryz.f166 []:=⟨_,cvG⟩
def kJ:AF Tryz.f125 []:=⟨_,cvG⟩
def qHz:AF Tryz.f126 []:=⟨_,cvG⟩
def qPb:AF Tryz.f102 [(4,[1]),(5,[1])]:=⟨_,cvG⟩
def qCq:AF Tryz.f61 []:=⟨_,cvG⟩
def xQ:AF Tryz.f36 [(7,[6]),(9,[1])]:=⟨_,cvG⟩
def qKv:AF Tryz.f38 []:=⟨_,cvG⟩
def zC6:AF Tryz.f67 []:=⟨_,cvG⟩
def qIa:AF Tryz.f63 []:=⟨_,cvG⟩
def qH9:AF Tryz.f66 []:=⟨_,cvG⟩
def qPd:AF Tryz.f68 []:=⟨_,cvG⟩
def zAb:AF Tryz.f69 []:=⟨_,cvG⟩
def jX:AF Tryz.f106 []:=⟨_,cvG⟩
def vZ:AF Tryz.f70 []:=⟨_,cvG⟩
def qSw:AF Tryz.f39 [(5,[4]),(10,[4]),(14,[8]),(15,[3]),(17,[4]),(23,[3]),(27,[14])]:=⟨_,cvG⟩
def qCa:AF Tryz.f62 []:=⟨_,cvG⟩
def qC8:AF Tryz.f127 []:=⟨_,cvG⟩
def qEp:AF Tryz.f103 []:=⟨_,cvG⟩
def qDd:AF Tryz.f64 []:=⟨_,cvG⟩
def qDa:AF Tryz.f105 []:=⟨_,cvG⟩
def qAa:AF Tryz.f107 []:=⟨_,cvG⟩
def qKw:AF Tryz.f104 [(3,[2]),(20,[9])]:=⟨_,cvG⟩
def qGb:AF Tryz.f65 [(2,[4])]:=⟨_,cvG⟩
def qA3:AF Tryz.f37 [(1,[8]),(5,[2]),(6,[8])]:=⟨_,cvG⟩
def qHx:AF Tryz.f71 []:=⟨_,cvG⟩
def qEo:AF Tryz.f40 [(3,[2])]:=⟨_,cvG⟩
def qEm:AF Tryz.f22 [(3,[2]),(6,[1,3,4]),(9,[2])]:=⟨_,cvG⟩
def xZ:AF Tryz.f29 [(1,[1])]:=⟨_,cvG⟩
def kI:AF Tryz.f45 []:=⟨_,cvG⟩
def qC9:AF Tryz.f46 []:=⟨_,cvG⟩
def qD4:AF Tryz.f80 [(3,[2])]:=⟨_,cvG⟩
def qK4:AF Tryz.f82 []:=⟨_,cvG⟩
def xJ:AF Tryz.f128 []:=⟨_,cvG⟩
def jY:AF Tryz.f129 []:=⟨_,cvG⟩
def vI:AF Tryz.f108 [(4,[1]),(6,[6]),(8,[2])]:=⟨_,cvG⟩
def yW:AF Tryz.f109 [(4,[1]),(6,[6]),(8,[2]),(17,[1])]:=⟨_,cvG⟩
def qAk:AF Tryz.f110 []:=⟨_,cvG⟩
def kW:AF Tryz.f81 [(1,[1]),(2,[1]),(3,[1]),(4,[2,3]),(5,[1,18])]:=⟨_,cvG⟩
def yI:AF Tryz.f47 [(1,[1]),(7,[5]),(15,[2])]:=⟨_,cvG⟩
def qH5:AF Tryz.f84 [(3,[5]),(4,[5])]:=⟨_,cvG⟩
def qNm:AF Tryz.f83 [(1,[2])]:=⟨_,cvG⟩
def jK:AF Tryz.f111 [(4,[5]),(6,[2]),(10,[1]),(12,[7]),(14,[2])]:=⟨_,cvG⟩
def qK0:AF Tryz.f86 [(3,[4]),(4,[5])]:=⟨_,cvG⟩
def qPc:AF Tryz.f85 [(3,[2])]:=⟨_,cvG⟩
def qK1:AF Tryz.f87 [(1,[1])]:=⟨_,cvG⟩
def kR:AF Tryz.f131 []:=⟨_,cvG⟩
def qCp:AF Tryz.f300 []:=⟨_,cvG⟩
def qKu:AF Tryz.f270 []:=⟨_,cvG⟩
def qC7:AF Tryz.f231 []:=⟨_,cvG⟩
def qA9:AF Tryz.f167 []:=⟨_,cvG⟩
def jI:AF Tryz.f130 []:=⟨_,cvG⟩
def xI:AF Tryz.f113 []:=⟨_,cvG⟩
def vH:AF Tryz.f90 [(1,[7])]:=⟨_,cvG⟩
def zO:AF Tryz.f112 [(1,[1]),(2,[1]),(3,[1]),(5,[1]),(6,[1]),(13,[9]),(16,[1])]:=⟨_,cvG⟩
def qJ4:AF Tryz.f88 [(1,[1]),(4,[1])]:=⟨_,cvG⟩
def qJ3:AF Tryz.f89 [(1,[1]),(2,[1]),(3,[1]),(4,[1]),(5,[1]),(6,[1]),(7,[1]),(8,[1])]:=⟨_,cvG⟩
def qSv:AF Tryz.f48 [(1,[1]),(2,[1]),(5,[1]),(7,[1]),(8,[1]),(9,[1]),(10,[1]),(11,[1]),(12,[1]),(13,[1]),(14,[1]),(15,[1]),(16,[1]),(18,[3]),(24,[2]),(26,[1]),(28,[1]),(29,[1]),(33,[5])]:=⟨_,cvG⟩
def qXq:AF Tryz.f49 []:=⟨_,cvG⟩
def qA2:AF Tryz.f28 [(1,[1]),(3,[2]),(4,[1]),(7,[1]),(10,[2])]:=⟨_,cvG⟩
def qE6:AF Tryz.f30 []:=⟨_,cvG⟩
def qDi:AF Tryz.f114 []:=⟨_,cvG⟩
def qEz:AF Tryz.f91 [(1,[0])]:=⟨_,cvG⟩
def vX:AF Tryz.f92 []:=⟨_,cvG⟩
def kD:AF Tryz.f93 []:=⟨_,cvG⟩
def qH4:AF Tryz.f10 []:=⟨_,cvG⟩
end Go.Eng
end
