/- A part of an abstract machine, its walks, their tie. -/
import Derived.Test.YtlhjonbjbiafaaaGreatDoorU10
set_option linter.all false
section
set_option maxRecDepth 100000
set_option maxHeartbeats 64000000
namespace Go.Eng
open Go.Proofs Go.Proofs.YtlhjonbjbiafaaaGreatDoor
def qHz:AF Tryz.f91 []:=⟨_,cvG⟩
def qAp:AF Tryz.f49 []:=⟨_,cvG⟩
def qAq:AF Tryz.f90 [(11,[1])]:=⟨_,cvG⟩
def jR:AF Tryz.f48 [(1,[2]),(4,[28]),(9,[5]),(14,[6]),(21,[1])]:=⟨_,cvG⟩
def qDf:AF Tryz.f30 [(1,[1]),(4,[1])]:=⟨_,cvG⟩
def qCa:AF Tryz.f116 []:=⟨_,cvG⟩
def qB9:AF Tryz.f117 []:=⟨_,cvG⟩
def yK:AF Tryz.f121 []:=⟨_,cvG⟩
def qBc:AF Tryz.f92 [(1,[1]),(4,[1]),(7,[2]),(11,[3]),(15,[1]),(16,[1]),(17,[1]),(22,[1]),(23,[1]),(27,[1]),(28,[1,6]),(32,[3]),(34,[1])]:=⟨_,cvG⟩
def yI:AF Tryz.f93 []:=⟨_,cvG⟩
def kJ:AF Tryz.f139 []:=⟨_,cvG⟩
def qCb:AF Tryz.f140 []:=⟨_,cvG⟩
def qB8:AF Tryz.f122 [(1,[2]),(4,[24]),(8,[3]),(13,[4]),(32,[4])]:=⟨_,cvG⟩
def qEt:AF Tryz.f123 []:=⟨_,cvG⟩
def qC9:AF Tryz.f143 []:=⟨_,cvG⟩
def vL:AF Tryz.f142 []:=⟨_,cvG⟩
def kI:AF Tryz.f240 []:=⟨_,cvG⟩
def qBb:AF Tryz.f186 []:=⟨_,cvG⟩
def qEl:AF Tryz.f210 []:=⟨_,cvG⟩
def qHq:AF Tryz.f193 []:=⟨_,cvG⟩
def wW:AF Tryz.f176 [(1,[2]),(2,[2]),(4,[1]),(10,[1]),(12,[2])]:=⟨_,cvG⟩
def qEr:AF Tryz.f141 [(1,[2])]:=⟨_,cvG⟩
def wE:AF Tryz.f124 [(4,[2]),(19,[2]),(31,[5])]:=⟨_,cvG⟩
def yW:AF Tryz.f241 []:=⟨_,cvG⟩
def yA:AF Tryz.f177 [(1,[1])]:=⟨_,cvG⟩
def qQv:AF Tryz.f144 [(11,[2]),(13,[2])]:=⟨_,cvG⟩
def qBq:AF Tryz.f145 [(2,[2])]:=⟨_,cvG⟩
def qO0:AF Tryz.f146 [(11,[1])]:=⟨_,cvG⟩
def vP:AF Tryz.f242 []:=⟨_,cvG⟩
def qDk:AF Tryz.f243 []:=⟨_,cvG⟩
def jT:AF Tryz.f178 []:=⟨_,cvG⟩
def qAr:AF Tryz.f244 []:=⟨_,cvG⟩
def qZ:AF Tryz.f179 [(17,[1])]:=⟨_,cvG⟩
def kG:AF Tryz.f180 [(10,[4])]:=⟨_,cvG⟩
def zC:AF Tryz.f181 [(5,[1])]:=⟨_,cvG⟩
def qAm:AF Tryz.f147 [(7,[9]),(9,[2]),(12,[8]),(18,[2]),(23,[10]),(5,[6]),(25,[2])]:=⟨_,cvG⟩
def qSj:AF Tryz.f167 [(2,[5])]:=⟨_,cvG⟩
def qDd:AF Tryz.f245 []:=⟨_,cvG⟩
def zQ:AF Tryz.f168 [(900000,[1])]:=⟨_,cvG⟩
def qEz:AF Tryz.f236 [(1,[3])]:=⟨_,cvG⟩
def qDl:AF Tryz.f185 [(7,[1]),(9,[3])]:=⟨_,cvG⟩
def wF:AF Tryz.f194 []:=⟨_,cvG⟩
def qAs:AF Tryz.f153 [(1,[2])]:=⟨_,cvG⟩
def qEu:AF Tryz.f149 [(1,[5]),(3,[2]),(4,[2])]:=⟨_,cvG⟩
def zY:AF Tryz.f189 [(1,[2])]:=⟨_,cvG⟩
def qCg:AF Tryz.f267 []:=⟨_,cvG⟩
def qAo:AF Tryz.f266 []:=⟨_,cvG⟩
def qDe:AF Tryz.f268 []:=⟨_,cvG⟩
def jS:AF Tryz.f218 []:=⟨_,cvG⟩
def qAt:AF Tryz.f279 []:=⟨_,cvG⟩
def xQ:AF Tryz.f216 []:=⟨_,cvG⟩
def jD:AF Tryz.f280 []:=⟨_,cvG⟩
def qAu:AF Tryz.f284 []:=⟨_,cvG⟩
def jE:AF Tryz.f309 [(4,[5])]:=⟨_,cvG⟩
def zI:AF Tryz.f283 [(1,[2])]:=⟨_,cvG⟩
def jI:AF Tryz.f246 [(6,[3]),(14,[2]),(16,[12]),(20,[4])]:=⟨_,cvG⟩
def xK:AF Tryz.f293 []:=⟨_,cvG⟩
def xJ:AF Tryz.f251 [(3,[7])]:=⟨_,cvG⟩
def qBj:AF Tryz.f192 [(2,[3])]:=⟨_,cvG⟩
def jM:AF Tryz.f187 [(1,[2]),(12,[3]),(15,[4])]:=⟨_,cvG⟩
def xH:AF Tryz.f150 [(8,[1]),(4,[1]),(15,[3]),(17,[2]),(18,[6]),(19,[6]),(20,[3])]:=⟨_,cvG⟩
def yZ:AF Tryz.f125 [(3,[5]),(4,[3]),(6,[5]),(7,[3]),(17,[3]),(21,[2]),(23,[2]),(27,[2]),(29,[3]),(31,[5]),(33,[1]),(35,[1])]:=⟨_,cvG⟩
def yH:AF Tryz.f202 [(1,[3])]:=⟨_,cvG⟩
def qAi:AF Tryz.f258 []:=⟨_,cvG⟩
def qAj:AF Tryz.f203 [(1,[1])]:=⟨_,cvG⟩
def zH:AF Tryz.f195 [(1,[4]),(2,[3]),(6,[4]),(8,[6]),(9,[4])]:=⟨_,cvG⟩
def vI:AF Tryz.f204 []:=⟨_,cvG⟩
def xO:AF Tryz.f253 [(1,[2])]:=⟨_,cvG⟩
def kF:AF Tryz.f294 []:=⟨_,cvG⟩
def qBf:AF Tryz.f254 [(1,[2])]:=⟨_,cvG⟩
def yY:AF Tryz.f196 [(3,[2,3]),(4,[4,8,9])]:=⟨_,cvG⟩
def qDa:AF Tryz.f197 [(1,[2])]:=⟨_,cvG⟩
end Go.Eng
end
