/- A part of an abstract machine, its walks, their tie. -/
import Derived.Test.YtekghmfbgbhobaaGreatDoorS13
set_option linter.all false
section
set_option maxRecDepth 100000
set_option maxHeartbeats 64000000
namespace Go.Eng
open Go.Proofs Go.Proofs.YtekghmfbgbhobaaGreatDoor
def qE6:AF Tryz.f244 []:=⟨_,cvG⟩
def qEv:AF Tryz.f267 []:=⟨_,cvG⟩
def qAm:AF Tryz.f245 [(1,[0])]:=⟨_,cvG⟩
def yM:AF Tryz.f204 [(1,[2]),(3,[1]),(5,[1]),(7,[1]),(9,[2]),(12,[2]),(14,[1]),(15,[3]),(17,[2])]:=⟨_,cvG⟩
def jK:AF Tryz.f157 [(3,[2]),(5,[2]),(7,[2]),(9,[2]),(11,[2]),(13,[2]),(14,[2])]:=⟨_,cvG⟩
def qAo:AF Tryz.f205 [(7,[1]),(8,[6])]:=⟨_,cvG⟩
def yU:AF Tryz.f248 [(1,[2])]:=⟨_,cvG⟩
def jO:AF Tryz.f268 []:=⟨_,cvG⟩
def zD:AF Tryz.f269 []:=⟨_,cvG⟩
def qId:AF Tryz.f213 []:=⟨_,cvG⟩
def qGy:AF Tryz.f283 []:=⟨_,cvG⟩
def qEc:AF Tryz.f282 [(1,[1,3])]:=⟨_,cvG⟩
def qDf:AF Tryz.f281 [(3,[2,7]),(5,[2,6]),(7,[2]),(9,[2])]:=⟨_,cvG⟩
def qEx:AF Tryz.f270 [(5,[1]),(8,[5]),(10,[6])]:=⟨_,cvG⟩
def qB1:AF Tryz.f271 []:=⟨_,cvG⟩
def zC:AF Tryz.f247 [(1,[2]),(4,[1]),(12,[3]),(21,[2]),(23,[14]),(37,[3]),(38,[3])]:=⟨_,cvG⟩
def jG:AF Tryz.f206 [(4,[1]),(9,[3]),(10,[1]),(11,[3]),(14,[6]),(15,[3])]:=⟨_,cvG⟩
def jV:AF Tryz.f207 [(1,[2]),(14,[3]),(15,[3])]:=⟨_,cvG⟩
def vR:AF Tryz.f276 [(3,[1]),(8,[14]),(9,[2])]:=⟨_,cvG⟩
def jL:AF Tryz.f277 [(8,[8]),(9,[8])]:=⟨_,cvG⟩
def wK:AF Tryz.f251 [(8,[5]),(15,[3])]:=⟨_,cvG⟩
def vE:AF Tryz.f209 [(1,[2]),(13,[5,7]),(16,[3,6]),(17,[3])]:=⟨_,cvG⟩
def zL:AF Tryz.f158 [(3,[5]),(5,[2]),(6,[2]),(9,[2]),(12,[1]),(13,[10,19]),(14,[3]),(16,[4]),(18,[2]),(19,[14]),(20,[3]),(21,[5]),(23,[1])]:=⟨_,cvG⟩
def qEs:AF Tryz.f252 []:=⟨_,cvG⟩
def qD8:AF Tryz.f210 [(1,[9])]:=⟨_,cvG⟩
def vQ:AF Tryz.f159 [(1,[24]),(3,[2]),(4,[4]),(5,[1]),(7,[1])]:=⟨_,cvG⟩
def qB2:AF Tryz.f211 []:=⟨_,cvG⟩
def kL:AF Tryz.f160 [(2,[3]),(4,[1]),(6,[4]),(7,[4])]:=⟨_,cvG⟩
def qAr:AF Tryz.f161 [(2,[1])]:=⟨_,cvG⟩
def qE2:AF Tryz.f162 [(1,[1])]:=⟨_,cvG⟩
def qEt:AF Tryz.f163 []:=⟨_,cvG⟩
def qC3:AF Tryz.f164 []:=⟨_,cvG⟩
def qCj:AF Tryz.f212 [(1,[2])]:=⟨_,cvG⟩
def qC2:AF Tryz.f253 []:=⟨_,cvG⟩
def qCe:AF Tryz.f214 [(3,[5])]:=⟨_,cvG⟩
def qBj:AF Tryz.f215 [(3,[6])]:=⟨_,cvG⟩
end Go.Eng
end
