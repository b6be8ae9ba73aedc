/- A part of an abstract machine, its walks, their tie. -/
import Derived.Test.YtekghmfbgbhobaaGreatDoorS13
set_option linter.all false
section
set_option maxRecDepth 100000
set_option maxHeartbeats 64000000
namespace Go.Eng
open Go.Proofs Go.Proofs.YtekghmfbgbhobaaGreatDoor
def vK:AF Tryz.f193 []:=⟨_,cvG⟩
def qGt:AF Tryz.f235 []:=⟨_,cvG⟩
def qIi:AF Tryz.f280 []:=⟨_,cvG⟩
def qIh:AF Tryz.f264 []:=⟨_,cvG⟩
def qGi:AF Tryz.f236 []:=⟨_,cvG⟩
def zV:AF Tryz.f194 [(15,[1])]:=⟨_,cvG⟩
def qDd:AF Tryz.f195 []:=⟨_,cvG⟩
def qCk:AF Tryz.f196 [(3,[5,6])]:=⟨_,cvG⟩
def zY:AF Tryz.f197 [(6,[1])]:=⟨_,cvG⟩
def jD:AF Tryz.f156 [(7,[2]),(10,[8]),(12,[5]),(13,[10]),(3,[6]),(15,[2])]:=⟨_,cvG⟩
def qA8:AF Tryz.f237 []:=⟨_,cvG⟩
def qC9:AF Tryz.f238 []:=⟨_,cvG⟩
def qGl:AF Tryz.f239 []:=⟨_,cvG⟩
def qIm:AF Tryz.f240 []:=⟨_,cvG⟩
def wE:AF Tryz.f198 [(1,[1]),(3,[10,20]),(5,[2]),(6,[1]),(8,[1]),(9,[9]),(10,[7])]:=⟨_,cvG⟩
def qC8:AF Tryz.f241 [(1,[8])]:=⟨_,cvG⟩
def qC5:AF Tryz.f19 [(3,[6])]:=⟨_,cvG⟩
def wY:AF Tryz.f199 [(1,[2]),(3,[1]),(4,[1]),(5,[2,11]),(7,[2]),(8,[7])]:=⟨_,cvG⟩
def qLb:AF Tryz.f56 []:=⟨_,cvG⟩
def yE:AF Tryz.f89 []:=⟨_,cvG⟩
def yW:AF Tryz.f57 [(3,[8])]:=⟨_,cvG⟩
def jP:AF Tryz.f59 [(1,[7]),(7,[3])]:=⟨_,cvG⟩
def xM:AF Tryz.f91 []:=⟨_,cvG⟩
def vI:AF Tryz.f62 [(1,[7])]:=⟨_,cvG⟩
def qCy:AF Tryz.f208 [(1,[1]),(3,[1]),(4,[1]),(5,[1]),(6,[1]),(7,[1]),(8,[1])]:=⟨_,cvG⟩
def vJ:AF Tryz.f137 [(3,[8])]:=⟨_,cvG⟩
def qIq:AF Tryz.f265 [(1,[1]),(2,[1]),(3,[1]),(4,[1]),(5,[1]),(10,[3])]:=⟨_,cvG⟩
def qF8:AF Tryz.f242 [(1,[2,3,7]),(4,[1]),(6,[1]),(7,[1]),(8,[1]),(9,[1]),(12,[5])]:=⟨_,cvG⟩
def vX:AF Tryz.f200 [(1,[2]),(3,[1]),(4,[4]),(6,[2]),(7,[7]),(9,[2]),(10,[1]),(12,[1]),(13,[7]),(14,[5])]:=⟨_,cvG⟩
def qIe:AF Tryz.f166 []:=⟨_,cvG⟩
def qBk:AF Tryz.f167 [(1,[2]),(4,[3])]:=⟨_,cvG⟩
def kZ:AF Tryz.f201 [(1,[5]),(3,[3]),(4,[5]),(6,[1])]:=⟨_,cvG⟩
def qAq:AF Tryz.f202 [(1,[2]),(3,[1])]:=⟨_,cvG⟩
def qGm:AF Tryz.f266 []:=⟨_,cvG⟩
def qCi:AF Tryz.f243 [(1,[2]),(4,[9])]:=⟨_,cvG⟩
def vY:AF Tryz.f203 [(1,[2]),(3,[1]),(5,[1]),(7,[1]),(8,[6]),(10,[2])]:=⟨_,cvG⟩
end Go.Eng
end
