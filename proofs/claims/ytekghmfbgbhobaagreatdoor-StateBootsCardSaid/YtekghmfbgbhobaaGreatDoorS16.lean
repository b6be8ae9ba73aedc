/- A part of an abstract machine, its walks, their tie. -/
import Derived.Test.YtekghmfbgbhobaaGreatDoorS13
set_option linter.all false
section
set_option maxRecDepth 100000
set_option maxHeartbeats 64000000
namespace Go.Eng
open Go.Proofs Go.Proofs.YtekghmfbgbhobaaGreatDoor
def qGr:AF Tryz.f261 []:=⟨_,cvG⟩
def qGs:AF Tryz.f279 []:=⟨_,cvG⟩
def xA:AF Tryz.f259 [(7,[6,7]),(8,[2])]:=⟨_,cvG⟩
def qE5:AF Tryz.f227 [(2,[2]),(6,[3])]:=⟨_,cvG⟩
def wZ:AF Tryz.f257 []:=⟨_,cvG⟩
def qIs:AF Tryz.f278 []:=⟨_,cvG⟩
def qPx:AF Tryz.f258 [(5,[14])]:=⟨_,cvG⟩
def qEa:AF Tryz.f226 [(7,[2])]:=⟨_,cvG⟩
def xB:AF Tryz.f172 [(3,[5,6])]:=⟨_,cvG⟩
def qAl:AF Tryz.f222 [(2,[3])]:=⟨_,cvG⟩
def qCd:AF Tryz.f169 [(11,[2]),(12,[5])]:=⟨_,cvG⟩
def qIo:AF Tryz.f44 []:=⟨_,cvG⟩
def qCz:AF Tryz.f171 []:=⟨_,cvG⟩
def qF6:AF Tryz.f223 []:=⟨_,cvG⟩
def qIb:AF Tryz.f225 [(1,[3])]:=⟨_,cvG⟩
def qE3:AF Tryz.f255 [(1,[4])]:=⟨_,cvG⟩
def qLc:AF Tryz.f256 [(1,[2])]:=⟨_,cvG⟩
def qIr:AF Tryz.f224 [(3,[3])]:=⟨_,cvG⟩
def qB0:AF Tryz.f170 [(1,[1]),(3,[2,8])]:=⟨_,cvG⟩
def xY:AF Tryz.f117 [(1,[2]),(4,[3]),(5,[1,21]),(8,[9])]:=⟨_,cvG⟩
def yT:AF Tryz.f123 []:=⟨_,cvG⟩
def qA5:AF Tryz.f119 [(1,[2]),(18,[4,10]),(23,[2])]:=⟨_,cvG⟩
def kY:AF Tryz.f120 [(5,[3]),(6,[3])]:=⟨_,cvG⟩
def qA6:AF Tryz.f174 []:=⟨_,cvG⟩
def qE4:AF Tryz.f260 []:=⟨_,cvG⟩
def qBq:AF Tryz.f228 [(3,[1]),(8,[10,11])]:=⟨_,cvG⟩
def qAa:AF Tryz.f230 [(9,[2])]:=⟨_,cvG⟩
def jR:AF Tryz.f173 [(3,[5,8]),(4,[3,4])]:=⟨_,cvG⟩
def qAi:AF Tryz.f121 [(1,[2]),(2,[2]),(3,[1]),(4,[1]),(5,[3]),(6,[4,5]),(8,[2])]:=⟨_,cvG⟩
def qEn:AF Tryz.f122 [(2,[4]),(6,[13])]:=⟨_,cvG⟩
def qEw:AF Tryz.f144 []:=⟨_,cvG⟩
def qL:AF Tryz.f124 [(1,[2]),(5,[7]),(6,[2])]:=⟨_,cvG⟩
def wH:AF Tryz.f146 [(1,[2]),(4,[2])]:=⟨_,cvG⟩
def qAk:AF Tryz.f263 []:=⟨_,cvG⟩
def qAj:AF Tryz.f233 [(1,[1])]:=⟨_,cvG⟩
def wP:AF Tryz.f234 []:=⟨_,cvG⟩
end Go.Eng
end
