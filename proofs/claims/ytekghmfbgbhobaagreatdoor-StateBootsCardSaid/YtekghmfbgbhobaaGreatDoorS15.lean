/- A part of an abstract machine, its walks, their tie. -/
import Derived.Test.YtekghmfbgbhobaaGreatDoorS13
set_option linter.all false
section
set_option maxRecDepth 100000
set_option maxHeartbeats 64000000
namespace Go.Eng
open Go.Proofs Go.Proofs.YtekghmfbgbhobaaGreatDoor
def qGd:AF Tryz.f11 []:=⟨_,cvG⟩
def qBp:AF Tryz.f98 []:=⟨_,cvG⟩
def qEb:AF Tryz.f97 []:=⟨_,cvG⟩
def qDe:AF Tryz.f78 []:=⟨_,cvG⟩
def vZ:AF Tryz.f38 []:=⟨_,cvG⟩
def qIf:AF Tryz.f99 []:=⟨_,cvG⟩
def qAb:AF Tryz.f79 []:=⟨_,cvG⟩
def wM:AF Tryz.f39 [(1,[1])]:=⟨_,cvG⟩
def jJ:AF Tryz.f16 [(10,[3]),(12,[3])]:=⟨_,cvG⟩
def qD7:AF Tryz.f73 [(3,[2,3])]:=⟨_,cvG⟩
def qCf:AF Tryz.f93 []:=⟨_,cvG⟩
def qCx:AF Tryz.f17 []:=⟨_,cvG⟩
def qF4:AF Tryz.f113 []:=⟨_,cvG⟩
def vP:AF Tryz.f114 []:=⟨_,cvG⟩
def qGw:AF Tryz.f246 []:=⟨_,cvG⟩
def qDg:AF Tryz.f272 []:=⟨_,cvG⟩
def qGx:AF Tryz.f273 []:=⟨_,cvG⟩
def xH:AF Tryz.f274 []:=⟨_,cvG⟩
def qGu:AF Tryz.f249 []:=⟨_,cvG⟩
def qIp:AF Tryz.f42 []:=⟨_,cvG⟩
def qGh:AF Tryz.f191 []:=⟨_,cvG⟩
def qGv:AF Tryz.f275 []:=⟨_,cvG⟩
def qE8:AF Tryz.f250 []:=⟨_,cvG⟩
def qE7:AF Tryz.f219 [(5,[5])]:=⟨_,cvG⟩
def wW:AF Tryz.f118 []:=⟨_,cvG⟩
def kJ:AF Tryz.f182 []:=⟨_,cvG⟩
def qCg:AF Tryz.f145 [(1,[2])]:=⟨_,cvG⟩
def yI:AF Tryz.f168 [(5,[2]),(7,[3,4]),(10,[2])]:=⟨_,cvG⟩
def zS:AF Tryz.f115 [(9,[1]),(10,[4]),(13,[8])]:=⟨_,cvG⟩
def qEo:AF Tryz.f116 []:=⟨_,cvG⟩
def qGf:AF Tryz.f142 []:=⟨_,cvG⟩
def xK:AF Tryz.f220 []:=⟨_,cvG⟩
def qEr:AF Tryz.f221 []:=⟨_,cvG⟩
def qB3:AF Tryz.f229 [(1,[4])]:=⟨_,cvG⟩
def qGq:AF Tryz.f262 [(1,[6])]:=⟨_,cvG⟩
def qIg:AF Tryz.f231 []:=⟨_,cvG⟩
end Go.Eng
end
