/- A part of an abstract machine, its walks, their tie. -/
import Derived.Test.YtpolalhffkhimaaGreatDoorE10
set_option linter.all false
section
set_option maxRecDepth 100000
set_option maxHeartbeats 64000000
namespace Go.Eng
open Go.Proofs Go.Proofs.YtpolalhffkhimaaGreatDoor
def yD:AF Tryz.f194 [(1,[3])]:=⟨_,cvG⟩
def xX:AF Tryz.f250 []:=⟨_,cvG⟩
def xY:AF Tryz.f195 [(1,[1])]:=⟨_,cvG⟩
def zH:AF Tryz.f187 [(1,[4]),(2,[3]),(6,[4]),(8,[6]),(9,[4])]:=⟨_,cvG⟩
def vA:AF Tryz.f196 []:=⟨_,cvG⟩
def xC:AF Tryz.f245 [(1,[2])]:=⟨_,cvG⟩
def wT:AF Tryz.f287 []:=⟨_,cvG⟩
def qA4:AF Tryz.f246 [(1,[2])]:=⟨_,cvG⟩
def yU:AF Tryz.f188 [(3,[2,3]),(4,[4,8,9])]:=⟨_,cvG⟩
def qDc:AF Tryz.f189 [(1,[2])]:=⟨_,cvG⟩
def qD5:AF Tryz.f247 []:=⟨_,cvG⟩
def yM:AF Tryz.f190 [(4,[4]),(5,[5]),(7,[5])]:=⟨_,cvG⟩
def yL:AF Tryz.f147 [(1,[1]),(3,[1]),(5,[4]),(7,[5]),(12,[3]),(15,[15])]:=⟨_,cvG⟩
def qB8:AF Tryz.f193 [(1,[2])]:=⟨_,cvG⟩
def zP:AF Tryz.f148 [(1,[4]),(2,[3]),(5,[6]),(9,[5]),(21,[1]),(23,[4]),(24,[5])]:=⟨_,cvG⟩
def vE:AF Tryz.f122 [(5,[2]),(6,[4]),(10,[2]),(12,[3])]:=⟨_,cvG⟩
def qDe:AF Tryz.f197 []:=⟨_,cvG⟩
def kX:AF Tryz.f174 []:=⟨_,cvG⟩
def qBj:AF Tryz.f199 []:=⟨_,cvG⟩
def qAc:AF Tryz.f198 [(1,[1,3,5,7])]:=⟨_,cvG⟩
def qE7:AF Tryz.f251 []:=⟨_,cvG⟩
def qE8:AF Tryz.f252 []:=⟨_,cvG⟩
def qD8:AF Tryz.f200 [(8,[2]),(10,[1]),(12,[1]),(13,[2])]:=⟨_,cvG⟩
def zX:AF Tryz.f176 [(900000,[1])]:=⟨_,cvG⟩
def qEw:AF Tryz.f201 [(5,[3])]:=⟨_,cvG⟩
def qA6:AF Tryz.f149 [(1,[1]),(3,[1]),(4,[1]),(5,[1]),(7,[7]),(8,[3,5]),(10,[2]),(11,[5]),(13,[2]),(14,[6])]:=⟨_,cvG⟩
def qCc:AF Tryz.f152 [(1,[2,3]),(3,[2]),(5,[1])]:=⟨_,cvG⟩
def qEs:AF Tryz.f261 []:=⟨_,cvG⟩
def qHy:AF Tryz.f211 [(2,[2])]:=⟨_,cvG⟩
def zR:AF Tryz.f262 [(4,[5])]:=⟨_,cvG⟩
def zM:AF Tryz.f212 [(1,[2])]:=⟨_,cvG⟩
def qT:AF Tryz.f214 [(900000,[1])]:=⟨_,cvG⟩
def qCb:AF Tryz.f156 [(1,[24]),(3,[2]),(4,[4]),(5,[1]),(7,[1]),(8,[3])]:=⟨_,cvG⟩
def qB9:AF Tryz.f269 []:=⟨_,cvG⟩
def wS:AF Tryz.f225 [(5,[2,3]),(9,[3])]:=⟨_,cvG⟩
def qA5:AF Tryz.f159 [(1,[5]),(3,[2]),(13,[5]),(14,[1]),(17,[2]),(19,[5]),(20,[1]),(27,[2]),(31,[2]),(33,[3])]:=⟨_,cvG⟩
def jR:AF Tryz.f123 [(3,[2]),(9,[2]),(16,[1]),(17,[5]),(19,[3]),(21,[2]),(29,[2])]:=⟨_,cvG⟩
def xA:AF Tryz.f162 [(1,[2]),(4,[3])]:=⟨_,cvG⟩
def vV:AF Tryz.f124 [(4,[2]),(8,[1]),(10,[3]),(14,[2])]:=⟨_,cvG⟩
def jA:AF Tryz.f98 [(1,[1]),(3,[2]),(5,[1]),(7,[1]),(8,[2]),(9,[1]),(11,[3]),(12,[3]),(14,[2]),(15,[2]),(17,[3]),(18,[2])]:=⟨_,cvG⟩
def qGc:AF Tryz.f52 [(1,[1]),(3,[3]),(4,[3]),(5,[2])]:=⟨_,cvG⟩
def kV:AF Tryz.f53 [(1,[2]),(2,[5]),(3,[5]),(6,[1])]:=⟨_,cvG⟩
def qEn:AF Tryz.f32 [(1,[1]),(2,[1]),(3,[4]),(4,[2])]:=⟨_,cvG⟩
def qKz:AF Tryz.f54 []:=⟨_,cvG⟩
def jV:AF Tryz.f99 []:=⟨_,cvG⟩
def yV:AF Tryz.f55 [(3,[8])]:=⟨_,cvG⟩
def jJ:AF Tryz.f56 [(1,[7]),(7,[3])]:=⟨_,cvG⟩
def xD:AF Tryz.f100 []:=⟨_,cvG⟩
def vF:AF Tryz.f57 [(1,[7])]:=⟨_,cvG⟩
def yN:AF Tryz.f33 [(1,[1]),(2,[1]),(4,[1]),(8,[3]),(9,[1]),(13,[3]),(14,[1]),(18,[3]),(19,[1])]:=⟨_,cvG⟩
def qPf:AF Tryz.f14 [(1,[1]),(4,[3]),(5,[1])]:=⟨_,cvG⟩
def qBb:AF Tryz.f6 [(1,[3])]:=⟨_,cvG⟩
def qH7:AF Tryz.f12 [(1,[1,2]),(4,[1,2])]:=⟨_,cvG⟩
def qH8:AF Tryz.f5 [(1,[3]),(4,[1])]:=⟨_,cvG⟩
def qBn:AF Tryz.f59 []:=⟨_,cvG⟩
def qD7:AF Tryz.f58 []:=⟨_,cvG⟩
def qDj:AF Tryz.f35 []:=⟨_,cvG⟩
def vY:AF Tryz.f21 []:=⟨_,cvG⟩
def wM:AF Tryz.f34 []:=⟨_,cvG⟩
def qGd:AF Tryz.f42 []:=⟨_,cvG⟩
def qA8:AF Tryz.f72 []:=⟨_,cvG⟩
def qKy:AF Tryz.f73 []:=⟨_,cvG⟩
def qH2:AF Tryz.f74 []:=⟨_,cvG⟩
def qH1:AF Tryz.f75 []:=⟨_,cvG⟩
def qGe:AF Tryz.f76 []:=⟨_,cvG⟩
def qEx:AF Tryz.f41 []:=⟨_,cvG⟩
def qH0:AF Tryz.f24 []:=⟨_,cvG⟩
def qE0:AF Tryz.f20 []:=⟨_,cvG⟩
def qGh:AF Tryz.f26 []:=⟨_,cvG⟩
def qDk:AF Tryz.f77 []:=⟨_,cvG⟩
def qXp:AF Tryz.f78 []:=⟨_,cvG⟩
def qCe:AF Tryz.f79 []:=⟨_,cvG⟩
end Go.Eng
end
