/- A part of an abstract machine, its walks, their tie. -/
import Derived.Test.YtlhjonbjbiafaaaGreatDoorU10
set_option linter.all false
section
set_option maxRecDepth 100000
set_option maxHeartbeats 64000000
namespace Go.Eng
open Go.Proofs Go.Proofs.YtlhjonbjbiafaaaGreatDoor
def qEs:AF Tryz.f71 []:=⟨_,cvG⟩
def qKo:AF Tryz.f98 []:=⟨_,cvG⟩
def qF2:AF Tryz.f170 []:=⟨_,cvG⟩
def qEq:AF Tryz.f237 []:=⟨_,cvG⟩
def kV:AF Tryz.f238 []:=⟨_,cvG⟩
def wM:AF Tryz.f171 []:=⟨_,cvG⟩
def qCc:AF Tryz.f172 []:=⟨_,cvG⟩
def kK:AF Tryz.f173 []:=⟨_,cvG⟩
def kR:AF Tryz.f130 []:=⟨_,cvG⟩
def qHs:AF Tryz.f131 []:=⟨_,cvG⟩
def qOx:AF Tryz.f99 [(4,[1]),(5,[1])]:=⟨_,cvG⟩
def qCq:AF Tryz.f72 []:=⟨_,cvG⟩
def qAb:AF Tryz.f40 [(7,[6]),(9,[1])]:=⟨_,cvG⟩
def qKm:AF Tryz.f42 []:=⟨_,cvG⟩
def zDg:AF Tryz.f78 []:=⟨_,cvG⟩
def qH7:AF Tryz.f74 []:=⟨_,cvG⟩
def qH6:AF Tryz.f77 []:=⟨_,cvG⟩
def qOz:AF Tryz.f79 []:=⟨_,cvG⟩
def zAi:AF Tryz.f80 []:=⟨_,cvG⟩
def yB:AF Tryz.f103 []:=⟨_,cvG⟩
def wP:AF Tryz.f81 []:=⟨_,cvG⟩
def qSi:AF Tryz.f43 [(5,[4]),(10,[4]),(14,[8]),(15,[3]),(17,[4]),(23,[3]),(27,[14])]:=⟨_,cvG⟩
def qCe:AF Tryz.f73 []:=⟨_,cvG⟩
def qC6:AF Tryz.f132 []:=⟨_,cvG⟩
def qEp:AF Tryz.f100 []:=⟨_,cvG⟩
def qDb:AF Tryz.f75 []:=⟨_,cvG⟩
def qC8:AF Tryz.f102 []:=⟨_,cvG⟩
def qAl:AF Tryz.f133 []:=⟨_,cvG⟩
def qKn:AF Tryz.f101 [(3,[2]),(20,[9])]:=⟨_,cvG⟩
def qF3:AF Tryz.f76 [(2,[4])]:=⟨_,cvG⟩
def qBe:AF Tryz.f41 [(1,[8]),(5,[2]),(6,[8])]:=⟨_,cvG⟩
def qHr:AF Tryz.f82 []:=⟨_,cvG⟩
def qEo:AF Tryz.f44 [(3,[2])]:=⟨_,cvG⟩
def qEm:AF Tryz.f26 [(3,[2]),(6,[1,3,4]),(9,[2])]:=⟨_,cvG⟩
def qAk:AF Tryz.f46 [(1,[1])]:=⟨_,cvG⟩
def kQ:AF Tryz.f50 []:=⟨_,cvG⟩
def qC7:AF Tryz.f83 []:=⟨_,cvG⟩
def qD4:AF Tryz.f104 [(3,[2])]:=⟨_,cvG⟩
def qKv:AF Tryz.f106 []:=⟨_,cvG⟩
def xS:AF Tryz.f137 []:=⟨_,cvG⟩
def yC:AF Tryz.f138 []:=⟨_,cvG⟩
def vR:AF Tryz.f134 [(4,[1]),(6,[6]),(8,[2])]:=⟨_,cvG⟩
def vC:AF Tryz.f118 [(4,[1]),(6,[6]),(8,[2]),(17,[1])]:=⟨_,cvG⟩
def qAv:AF Tryz.f120 []:=⟨_,cvG⟩
def xD:AF Tryz.f105 [(1,[1]),(2,[1]),(3,[1]),(4,[2,3]),(5,[1,18])]:=⟨_,cvG⟩
def yL:AF Tryz.f84 [(1,[1]),(7,[5]),(15,[2])]:=⟨_,cvG⟩
def qH1:AF Tryz.f108 [(3,[5]),(4,[5])]:=⟨_,cvG⟩
def qM1:AF Tryz.f107 [(1,[2])]:=⟨_,cvG⟩
def jK:AF Tryz.f119 [(4,[5]),(6,[2]),(10,[1]),(12,[7]),(14,[2])]:=⟨_,cvG⟩
def qKr:AF Tryz.f110 [(3,[4]),(4,[5])]:=⟨_,cvG⟩
def qOy:AF Tryz.f109 [(3,[2])]:=⟨_,cvG⟩
def qKs:AF Tryz.f111 [(1,[1])]:=⟨_,cvG⟩
def kZ:AF Tryz.f175 []:=⟨_,cvG⟩
def qCp:AF Tryz.f321 []:=⟨_,cvG⟩
def qKl:AF Tryz.f306 []:=⟨_,cvG⟩
def qC5:AF Tryz.f278 []:=⟨_,cvG⟩
def qBi:AF Tryz.f239 []:=⟨_,cvG⟩
def jH:AF Tryz.f174 []:=⟨_,cvG⟩
def xR:AF Tryz.f136 []:=⟨_,cvG⟩
def vQ:AF Tryz.f114 [(1,[7])]:=⟨_,cvG⟩
def zO:AF Tryz.f135 [(1,[1]),(2,[1]),(3,[1]),(5,[1]),(6,[1]),(13,[9]),(16,[1])]:=⟨_,cvG⟩
def qJ1:AF Tryz.f112 [(1,[1]),(4,[1])]:=⟨_,cvG⟩
def qJ0:AF Tryz.f113 [(1,[1]),(2,[1]),(3,[1]),(4,[1]),(5,[1]),(6,[1]),(7,[1]),(8,[1])]:=⟨_,cvG⟩
def qSh:AF Tryz.f85 [(1,[1]),(2,[1]),(5,[1]),(7,[1]),(8,[1]),(9,[1]),(10,[1]),(11,[1]),(12,[1]),(13,[1]),(14,[1]),(15,[1]),(16,[1]),(18,[3]),(24,[2]),(26,[1]),(28,[1]),(29,[1]),(33,[5])]:=⟨_,cvG⟩
def qXd:AF Tryz.f86 []:=⟨_,cvG⟩
def qBd:AF Tryz.f45 [(1,[1]),(3,[2]),(4,[1]),(7,[1]),(10,[2])]:=⟨_,cvG⟩
def qE2:AF Tryz.f47 []:=⟨_,cvG⟩
def qDg:AF Tryz.f115 []:=⟨_,cvG⟩
def yV:AF Tryz.f87 [(1,[0])]:=⟨_,cvG⟩
def yQ:AF Tryz.f88 []:=⟨_,cvG⟩
def vA:AF Tryz.f89 []:=⟨_,cvG⟩
def qH0:AF Tryz.f22 []:=⟨_,cvG⟩
end Go.Eng
end
