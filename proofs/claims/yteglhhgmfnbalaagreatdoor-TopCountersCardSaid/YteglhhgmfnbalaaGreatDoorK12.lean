/- A part of an abstract machine, its walks, their tie. -/
import Derived.Test.YteglhhgmfnbalaaGreatDoorK11
set_option linter.all false
section
set_option maxRecDepth 100000
set_option maxHeartbeats 64000000
namespace Go.Eng
open List
open Go.Proofs Go.Proofs.YteglhhgmfnbalaaGreatDoor
def qGf:AF Tryz.f60 []:=⟨_,cvG⟩
def qM3:AF Tryz.f100 []:=⟨_,cvG⟩
def qHm:AF Tryz.f162 []:=⟨_,cvG⟩
def qGc:AF Tryz.f228 []:=⟨_,cvG⟩
def xX:AF Tryz.f229 []:=⟨_,cvG⟩
def wK:AF Tryz.f163 []:=⟨_,cvG⟩
def qDb:AF Tryz.f164 []:=⟨_,cvG⟩
def xC:AF Tryz.f165 []:=⟨_,cvG⟩
def xS:AF Tryz.f124 []:=⟨_,cvG⟩
def qJf:AF Tryz.f125 []:=⟨_,cvG⟩
def qRy:AF Tryz.f101 [(4,[1]),(5,[1])]:=⟨_,cvG⟩
def qD3:AF Tryz.f61 []:=⟨_,cvG⟩
def qA6:AF Tryz.f38 [(7,[6]),(9,[1])]:=⟨_,cvG⟩
def qM2:AF Tryz.f40 []:=⟨_,cvG⟩
def qHu:AF Tryz.f67 []:=⟨_,cvG⟩
def qJr:AF Tryz.f63 []:=⟨_,cvG⟩
def qJq:AF Tryz.f66 []:=⟨_,cvG⟩
def qCg:AF Tryz.f68 []:=⟨_,cvG⟩
def qJm:AF Tryz.f69 []:=⟨_,cvG⟩
def yD:AF Tryz.f105 []:=⟨_,cvG⟩
def wQ:AF Tryz.f70 []:=⟨_,cvG⟩
def qE0:AF Tryz.f41 [(5,[4]),(10,[4]),(14,[8]),(15,[3]),(17,[4]),(23,[3]),(27,[14])]:=⟨_,cvG⟩
def qDe:AF Tryz.f62 []:=⟨_,cvG⟩
def qEj:AF Tryz.f126 []:=⟨_,cvG⟩
def qGb:AF Tryz.f102 []:=⟨_,cvG⟩
def qEp:AF Tryz.f64 []:=⟨_,cvG⟩
def qBf:AF Tryz.f120 []:=⟨_,cvG⟩
def xD:AF Tryz.f104 []:=⟨_,cvG⟩
def qEl:AF Tryz.f103 [(3,[2]),(20,[9])]:=⟨_,cvG⟩
def qD1:AF Tryz.f65 [(2,[4])]:=⟨_,cvG⟩
def qB6:AF Tryz.f39 [(1,[8]),(5,[2]),(6,[8])]:=⟨_,cvG⟩
def qJd:AF Tryz.f71 []:=⟨_,cvG⟩
def qGa:AF Tryz.f42 [(3,[2])]:=⟨_,cvG⟩
def qF9:AF Tryz.f24 [(3,[2]),(6,[1,3,4]),(9,[2])]:=⟨_,cvG⟩
def qBe:AF Tryz.f29 [(1,[1])]:=⟨_,cvG⟩
def xR:AF Tryz.f45 []:=⟨_,cvG⟩
def qEk:AF Tryz.f50 []:=⟨_,cvG⟩
def qFp:AF Tryz.f81 [(3,[2])]:=⟨_,cvG⟩
def qM8:AF Tryz.f83 []:=⟨_,cvG⟩
def qAz:AF Tryz.f127 []:=⟨_,cvG⟩
def yF:AF Tryz.f128 []:=⟨_,cvG⟩
def vT:AF Tryz.f121 [(4,[1]),(6,[6]),(8,[2])]:=⟨_,cvG⟩
def vE:AF Tryz.f109 [(4,[1]),(6,[6]),(8,[2]),(17,[1])]:=⟨_,cvG⟩
def qBp:AF Tryz.f111 []:=⟨_,cvG⟩
def yN:AF Tryz.f82 [(1,[1]),(2,[1]),(3,[1]),(4,[2,3]),(5,[1,18])]:=⟨_,cvG⟩
def jT:AF Tryz.f51 [(1,[1]),(7,[5]),(15,[2])]:=⟨_,cvG⟩
def qBo:AF Tryz.f84 [(1,[2])]:=⟨_,cvG⟩
def jO:AF Tryz.f85 [(3,[5]),(4,[5])]:=⟨_,cvG⟩
def qCf:AF Tryz.f86 [(3,[2])]:=⟨_,cvG⟩
def wR:AF Tryz.f87 [(3,[4]),(4,[5])]:=⟨_,cvG⟩
def qAx:AF Tryz.f88 [(1,[1])]:=⟨_,cvG⟩
def wC:AF Tryz.f89 [(1,[1]),(4,[1])]:=⟨_,cvG⟩
def qAb:AF Tryz.f90 [(1,[1]),(2,[1]),(3,[1]),(4,[1]),(5,[1]),(6,[1]),(7,[1]),(8,[1])]:=⟨_,cvG⟩
def qAy:AF Tryz.f123 []:=⟨_,cvG⟩
def vS:AF Tryz.f91 [(1,[7])]:=⟨_,cvG⟩
def xK:AF Tryz.f52 [(1,[1]),(2,[1]),(5,[1]),(7,[1]),(8,[1]),(9,[1]),(10,[1]),(11,[1]),(12,[1]),(13,[1]),(14,[1]),(15,[1]),(16,[1]),(18,[3]),(24,[2]),(26,[1]),(28,[1]),(29,[1]),(33,[5])]:=⟨_,cvG⟩
def qHt:AF Tryz.f53 []:=⟨_,cvG⟩
def qB5:AF Tryz.f28 [(1,[1]),(3,[2]),(4,[1]),(7,[1]),(10,[2])]:=⟨_,cvG⟩
def qGr:AF Tryz.f30 []:=⟨_,cvG⟩
def qEv:AF Tryz.f106 []:=⟨_,cvG⟩
def qGl:AF Tryz.f72 [(1,[0])]:=⟨_,cvG⟩
def wM:AF Tryz.f73 []:=⟨_,cvG⟩
def xH:AF Tryz.f74 []:=⟨_,cvG⟩
def qJl:AF Tryz.f34 []:=⟨_,cvG⟩
def qJk:AF Tryz.f76 []:=⟨_,cvG⟩
def qHq:AF Tryz.f44 []:=⟨_,cvG⟩
def qHr:AF Tryz.f75 [(11,[1])]:=⟨_,cvG⟩
def qGk:AF Tryz.f43 [(1,[2]),(4,[28]),(9,[5]),(14,[6]),(21,[1])]:=⟨_,cvG⟩
def qEu:AF Tryz.f25 [(1,[1]),(4,[1])]:=⟨_,cvG⟩
def qC9:AF Tryz.f107 []:=⟨_,cvG⟩
def qC8:AF Tryz.f108 []:=⟨_,cvG⟩
def jN:AF Tryz.f110 [(4,[5]),(6,[2]),(10,[1]),(12,[7]),(14,[2])]:=⟨_,cvG⟩
end Go.Eng
end
