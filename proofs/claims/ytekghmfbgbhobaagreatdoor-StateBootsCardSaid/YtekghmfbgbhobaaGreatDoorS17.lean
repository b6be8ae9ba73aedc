/- A part of an abstract machine, its walks, their tie. -/
import Derived.Test.YtekghmfbgbhobaaGreatDoorS13
set_option linter.all false
section
set_option maxRecDepth 100000
set_option maxHeartbeats 64000000
namespace Go.Eng
open Go.Proofs Go.Proofs.YtekghmfbgbhobaaGreatDoor
def qAn:AF Tryz.f192 [(1,[2]),(3,[6]),(4,[2]),(6,[7]),(7,[1])]:=⟨_,cvG⟩
def qEz:AF Tryz.f153 [(5,[7])]:=⟨_,cvG⟩
def qE1:AF Tryz.f175 [(1,[2])]:=⟨_,cvG⟩
def qC7:AF Tryz.f152 []:=⟨_,cvG⟩
def qIl:AF Tryz.f151 []:=⟨_,cvG⟩
def zG:AF Tryz.f125 [(2,[2]),(9,[3]),(10,[3]),(12,[1]),(13,[3,5,10]),(18,[3])]:=⟨_,cvG⟩
def qG:AF Tryz.f95 [(3,[1]),(17,[7]),(29,[4]),(31,[2]),(32,[4]),(36,[2]),(37,[7]),(39,[2,5]),(42,[2]),(45,[2]),(48,[2]),(58,[4]),(60,[2,7,12]),(63,[3]),(65,[2]),(69,[4]),(71,[7]),(80,[5]),(82,[7]),(90,[4])]:=⟨_,cvG⟩
def qDb:AF Tryz.f180 []:=⟨_,cvG⟩
def wJ:AF Tryz.f138 [(1,[0])]:=⟨_,cvG⟩
def qGn:AF Tryz.f139 []:=⟨_,cvG⟩
def qDa:AF Tryz.f140 []:=⟨_,cvG⟩
def qGo:AF Tryz.f181 []:=⟨_,cvG⟩
def qGp:AF Tryz.f141 [(11,[1])]:=⟨_,cvG⟩
def yN:AF Tryz.f107 [(1,[2]),(4,[28]),(9,[5]),(14,[6]),(21,[1])]:=⟨_,cvG⟩
def qDc:AF Tryz.f108 []:=⟨_,cvG⟩
def qC6:AF Tryz.f143 [(1,[9,15])]:=⟨_,cvG⟩
def qX:AF Tryz.f109 [(12,[2]),(14,[2]),(25,[5])]:=⟨_,cvG⟩
def qE0:AF Tryz.f184 []:=⟨_,cvG⟩
def qGk:AF Tryz.f183 []:=⟨_,cvG⟩
def wX:AF Tryz.f185 [(1,[2]),(4,[2])]:=⟨_,cvG⟩
def qD9:AF Tryz.f20 []:=⟨_,cvG⟩
def kK:AF Tryz.f147 [(4,[2]),(5,[12,13]),(7,[2])]:=⟨_,cvG⟩
def qGc:AF Tryz.f186 []:=⟨_,cvG⟩
def vH:AF Tryz.f187 [(1,[2]),(4,[2])]:=⟨_,cvG⟩
def vD:AF Tryz.f232 []:=⟨_,cvG⟩
def qC4:AF Tryz.f188 [(1,[2])]:=⟨_,cvG⟩
def qAp:AF Tryz.f148 [(2,[6]),(3,[2,10])]:=⟨_,cvG⟩
def qEu:AF Tryz.f189 []:=⟨_,cvG⟩
def qGb:AF Tryz.f190 [(1,[2])]:=⟨_,cvG⟩
def wI:AF Tryz.f149 [(4,[6]),(5,[2]),(6,[6])]:=⟨_,cvG⟩
def jF:AF Tryz.f150 [(1,[6]),(2,[2]),(5,[2]),(7,[8]),(9,[5]),(10,[11])]:=⟨_,cvG⟩
def zQ:AF Tryz.f110 [(2,[3]),(5,[2]),(7,[4]),(10,[2]),(12,[6]),(13,[2]),(15,[2]),(18,[3,5,10]),(19,[6])]:=⟨_,cvG⟩
def qBm:AF Tryz.f154 [(2,[2])]:=⟨_,cvG⟩
def yP:AF Tryz.f12 [(10,[2])]:=⟨_,cvG⟩
def qBl:AF Tryz.f155 []:=⟨_,cvG⟩
def wL:AF Tryz.f74 []:=⟨_,cvG⟩
end Go.Eng
end
