/- A part of an abstract machine, its walks, their tie. -/
import Derived.Test.YtekghmfbgbhobaaGreatDoorD10
set_option linter.all false
section
set_option maxRecDepth 100000
set_option maxHeartbeats 64000000
namespace Go.Eng
open Go.Proofs Go.Proofs.YtekghmfbgbhobaaGreatDoor
def qIc:AF Tryz.f261 []:=⟨_,cvG⟩
def qId:AF Tryz.f279 []:=⟨_,cvG⟩
def qAr:AF Tryz.f259 [(7,[6,7]),(8,[2])]:=⟨_,cvG⟩
def qGt:AF Tryz.f227 [(2,[2]),(6,[3])]:=⟨_,cvG⟩
def xI:AF Tryz.f257 []:=⟨_,cvG⟩
def qKg:AF Tryz.f278 []:=⟨_,cvG⟩
def qR1:AF Tryz.f258 [(5,[14])]:=⟨_,cvG⟩
def qFx:AF Tryz.f226 [(7,[2])]:=⟨_,cvG⟩
def qAs:AF Tryz.f172 [(3,[5,6])]:=⟨_,cvG⟩
def qBr:AF Tryz.f222 [(2,[3])]:=⟨_,cvG⟩
def qDx:AF Tryz.f169 [(11,[2]),(12,[5])]:=⟨_,cvG⟩
def qKc:AF Tryz.f44 []:=⟨_,cvG⟩
def qEg:AF Tryz.f171 []:=⟨_,cvG⟩
def qHv:AF Tryz.f223 []:=⟨_,cvG⟩
def qJy:AF Tryz.f225 [(1,[3])]:=⟨_,cvG⟩
def qGr:AF Tryz.f255 [(1,[4])]:=⟨_,cvG⟩
def qM0:AF Tryz.f256 [(1,[2])]:=⟨_,cvG⟩
def qKf:AF Tryz.f224 [(3,[3])]:=⟨_,cvG⟩
def qDf:AF Tryz.f170 [(1,[1]),(3,[2,8])]:=⟨_,cvG⟩
def qBe:AF Tryz.f117 [(1,[2]),(4,[3]),(5,[1,21]),(8,[9])]:=⟨_,cvG⟩
def vH:AF Tryz.f123 []:=⟨_,cvG⟩
def qCj:AF Tryz.f119 [(1,[2]),(18,[4,10]),(23,[2])]:=⟨_,cvG⟩
def qAn:AF Tryz.f120 [(5,[3]),(6,[3])]:=⟨_,cvG⟩
def qCk:AF Tryz.f174 []:=⟨_,cvG⟩
def qGs:AF Tryz.f260 []:=⟨_,cvG⟩
def qC5:AF Tryz.f228 [(3,[1]),(8,[10,11])]:=⟨_,cvG⟩
def qBg:AF Tryz.f230 [(9,[2])]:=⟨_,cvG⟩
def jZ:AF Tryz.f173 [(3,[5,8]),(4,[3,4])]:=⟨_,cvG⟩
def qBo:AF Tryz.f121 [(1,[2]),(2,[2]),(3,[1]),(4,[1]),(5,[3]),(6,[4,5]),(8,[2])]:=⟨_,cvG⟩
def qGb:AF Tryz.f122 [(2,[4]),(6,[13])]:=⟨_,cvG⟩
def qGk:AF Tryz.f144 []:=⟨_,cvG⟩
def qO:AF Tryz.f124 [(1,[2]),(5,[7]),(6,[2])]:=⟨_,cvG⟩
def kL:AF Tryz.f146 [(1,[2]),(4,[2])]:=⟨_,cvG⟩
def qBq:AF Tryz.f263 []:=⟨_,cvG⟩
def qBp:AF Tryz.f233 [(1,[1])]:=⟨_,cvG⟩
def kU:AF Tryz.f234 []:=⟨_,cvG⟩
def qBu:AF Tryz.f192 [(1,[2]),(3,[6]),(4,[2]),(6,[7]),(7,[1])]:=⟨_,cvG⟩
def qGn:AF Tryz.f153 [(5,[7])]:=⟨_,cvG⟩
def qGp:AF Tryz.f175 [(1,[2])]:=⟨_,cvG⟩
def qEp:AF Tryz.f152 []:=⟨_,cvG⟩
def qJ9:AF Tryz.f151 []:=⟨_,cvG⟩
def zK:AF Tryz.f125 [(2,[2]),(9,[3]),(10,[3]),(12,[1]),(13,[3,5,10]),(18,[3])]:=⟨_,cvG⟩
def qH:AF Tryz.f95 [(3,[1]),(17,[7]),(29,[4]),(31,[2]),(32,[4]),(36,[2]),(37,[7]),(39,[2,5]),(42,[2]),(45,[2]),(48,[2]),(58,[4]),(60,[2,7,12]),(63,[3]),(65,[2]),(69,[4]),(71,[7]),(80,[5]),(82,[7]),(90,[4])]:=⟨_,cvG⟩
def qEt:AF Tryz.f180 []:=⟨_,cvG⟩
def kN:AF Tryz.f138 [(1,[0])]:=⟨_,cvG⟩
def qH8:AF Tryz.f139 []:=⟨_,cvG⟩
def qEs:AF Tryz.f140 []:=⟨_,cvG⟩
def qH9:AF Tryz.f181 []:=⟨_,cvG⟩
def qIa:AF Tryz.f141 [(11,[1])]:=⟨_,cvG⟩
def vD:AF Tryz.f107 [(1,[2]),(4,[28]),(9,[5]),(14,[6]),(21,[1])]:=⟨_,cvG⟩
def qEu:AF Tryz.f108 []:=⟨_,cvG⟩
def qEo:AF Tryz.f143 [(1,[9,15])]:=⟨_,cvG⟩
def qZ:AF Tryz.f109 [(12,[2]),(14,[2]),(25,[5])]:=⟨_,cvG⟩
def qGo:AF Tryz.f184 []:=⟨_,cvG⟩
def qH5:AF Tryz.f183 []:=⟨_,cvG⟩
def xD:AF Tryz.f185 [(1,[2]),(4,[2])]:=⟨_,cvG⟩
def qFw:AF Tryz.f20 []:=⟨_,cvG⟩
def xZ:AF Tryz.f147 [(4,[2]),(5,[12,13]),(7,[2])]:=⟨_,cvG⟩
def qHz:AF Tryz.f186 []:=⟨_,cvG⟩
def vY:AF Tryz.f187 [(1,[2]),(4,[2])]:=⟨_,cvG⟩
def vV:AF Tryz.f232 []:=⟨_,cvG⟩
def qEl:AF Tryz.f188 [(1,[2])]:=⟨_,cvG⟩
def qBw:AF Tryz.f148 [(2,[6]),(3,[2,10])]:=⟨_,cvG⟩
def qGi:AF Tryz.f189 []:=⟨_,cvG⟩
def qHy:AF Tryz.f190 [(1,[2])]:=⟨_,cvG⟩
def kM:AF Tryz.f149 [(4,[6]),(5,[2]),(6,[6])]:=⟨_,cvG⟩
def jM:AF Tryz.f150 [(1,[6]),(2,[2]),(5,[2]),(7,[8]),(9,[5]),(10,[11])]:=⟨_,cvG⟩
def zX:AF Tryz.f110 [(2,[3]),(5,[2]),(7,[4]),(10,[2]),(12,[6]),(13,[2]),(15,[2]),(18,[3,5,10]),(19,[6])]:=⟨_,cvG⟩
def qC0:AF Tryz.f154 [(2,[2])]:=⟨_,cvG⟩
def vE:AF Tryz.f12 [(10,[2])]:=⟨_,cvG⟩
def qCz:AF Tryz.f155 []:=⟨_,cvG⟩
def kP:AF Tryz.f74 []:=⟨_,cvG⟩
end Go.Eng
end
