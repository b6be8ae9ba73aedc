/- A part of an abstract machine, its walks, their tie. -/
import Derived.Test.YtekghmfbgbhobaaGreatDoorD10
set_option linter.all false
section
set_option maxRecDepth 100000
set_option maxHeartbeats 64000000
namespace Go.Eng
open Go.Proofs Go.Proofs.YtekghmfbgbhobaaGreatDoor
def wD:AF Tryz.f193 []:=⟨_,cvG⟩
def qIe:AF Tryz.f235 []:=⟨_,cvG⟩
def qJ6:AF Tryz.f280 []:=⟨_,cvG⟩
def qJ5:AF Tryz.f264 []:=⟨_,cvG⟩
def qH3:AF Tryz.f236 []:=⟨_,cvG⟩
def jD:AF Tryz.f194 [(15,[1])]:=⟨_,cvG⟩
def qEw:AF Tryz.f195 []:=⟨_,cvG⟩
def qD4:AF Tryz.f196 [(3,[5,6])]:=⟨_,cvG⟩
def jG:AF Tryz.f197 [(6,[1])]:=⟨_,cvG⟩
def jJ:AF Tryz.f156 [(7,[2]),(10,[8]),(12,[5]),(13,[10]),(3,[6]),(15,[2])]:=⟨_,cvG⟩
def qCm:AF Tryz.f237 []:=⟨_,cvG⟩
def qEr:AF Tryz.f238 []:=⟨_,cvG⟩
def qH6:AF Tryz.f239 []:=⟨_,cvG⟩
def qKa:AF Tryz.f240 []:=⟨_,cvG⟩
def kH:AF Tryz.f198 [(1,[1]),(3,[10,20]),(5,[2]),(6,[1]),(8,[1]),(9,[9]),(10,[7])]:=⟨_,cvG⟩
def qEq:AF Tryz.f241 [(1,[8])]:=⟨_,cvG⟩
def qEn:AF Tryz.f19 [(3,[6])]:=⟨_,cvG⟩
def xH:AF Tryz.f199 [(1,[2]),(3,[1]),(4,[1]),(5,[2,11]),(7,[2]),(8,[7])]:=⟨_,cvG⟩
def qMz:AF Tryz.f56 []:=⟨_,cvG⟩
def yO:AF Tryz.f89 []:=⟨_,cvG⟩
def vL:AF Tryz.f57 [(3,[8])]:=⟨_,cvG⟩
def jW:AF Tryz.f59 [(1,[7]),(7,[3])]:=⟨_,cvG⟩
def qA1:AF Tryz.f91 []:=⟨_,cvG⟩
def vZ:AF Tryz.f62 [(1,[7])]:=⟨_,cvG⟩
def qEf:AF Tryz.f208 [(1,[1]),(3,[1]),(4,[1]),(5,[1]),(6,[1]),(7,[1]),(8,[1])]:=⟨_,cvG⟩
def wA:AF Tryz.f137 [(3,[8])]:=⟨_,cvG⟩
def qKe:AF Tryz.f265 [(1,[1]),(2,[1]),(3,[1]),(4,[1]),(5,[1]),(10,[3])]:=⟨_,cvG⟩
def qHw:AF Tryz.f242 [(1,[2,3,7]),(4,[1]),(6,[1]),(7,[1]),(8,[1]),(9,[1]),(12,[5])]:=⟨_,cvG⟩
def wW:AF Tryz.f200 [(1,[2]),(3,[1]),(4,[4]),(6,[2]),(7,[7]),(9,[2]),(10,[1]),(12,[1]),(13,[7]),(14,[5])]:=⟨_,cvG⟩
def qJ2:AF Tryz.f166 []:=⟨_,cvG⟩
def qCy:AF Tryz.f167 [(1,[2]),(4,[3])]:=⟨_,cvG⟩
def qAq:AF Tryz.f201 [(1,[5]),(3,[3]),(4,[5]),(6,[1])]:=⟨_,cvG⟩
def qBx:AF Tryz.f202 [(1,[2]),(3,[1])]:=⟨_,cvG⟩
def qH7:AF Tryz.f266 []:=⟨_,cvG⟩
def qD2:AF Tryz.f243 [(1,[2]),(4,[9])]:=⟨_,cvG⟩
def wY:AF Tryz.f203 [(1,[2]),(3,[1]),(5,[1]),(7,[1]),(8,[6]),(10,[2])]:=⟨_,cvG⟩
def qGu:AF Tryz.f244 []:=⟨_,cvG⟩
def qGj:AF Tryz.f267 []:=⟨_,cvG⟩
def qBs:AF Tryz.f245 [(1,[0])]:=⟨_,cvG⟩
def vC:AF Tryz.f204 [(1,[2]),(3,[1]),(5,[1]),(7,[1]),(9,[2]),(12,[2]),(14,[1]),(15,[3]),(17,[2])]:=⟨_,cvG⟩
def jR:AF Tryz.f157 [(3,[2]),(5,[2]),(7,[2]),(9,[2]),(11,[2]),(13,[2]),(14,[2])]:=⟨_,cvG⟩
def qBv:AF Tryz.f205 [(7,[1]),(8,[6])]:=⟨_,cvG⟩
def vJ:AF Tryz.f248 [(1,[2])]:=⟨_,cvG⟩
def jV:AF Tryz.f268 []:=⟨_,cvG⟩
def zH:AF Tryz.f269 []:=⟨_,cvG⟩
def qJ1:AF Tryz.f213 []:=⟨_,cvG⟩
def qIj:AF Tryz.f283 []:=⟨_,cvG⟩
def qFz:AF Tryz.f282 [(1,[1,3])]:=⟨_,cvG⟩
def qEy:AF Tryz.f281 [(3,[2,7]),(5,[2,6]),(7,[2]),(9,[2])]:=⟨_,cvG⟩
def qGl:AF Tryz.f270 [(5,[1]),(8,[5]),(10,[6])]:=⟨_,cvG⟩
def qDg:AF Tryz.f271 []:=⟨_,cvG⟩
def zG:AF Tryz.f247 [(1,[2]),(4,[1]),(12,[3]),(21,[2]),(23,[14]),(37,[3]),(38,[3])]:=⟨_,cvG⟩
def jO:AF Tryz.f206 [(4,[1]),(9,[3]),(10,[1]),(11,[3]),(14,[6]),(15,[3])]:=⟨_,cvG⟩
def yI:AF Tryz.f207 [(1,[2]),(14,[3]),(15,[3])]:=⟨_,cvG⟩
def wO:AF Tryz.f276 [(3,[1]),(8,[14]),(9,[2])]:=⟨_,cvG⟩
def jS:AF Tryz.f277 [(8,[8]),(9,[8])]:=⟨_,cvG⟩
def kO:AF Tryz.f251 [(8,[5]),(15,[3])]:=⟨_,cvG⟩
def vW:AF Tryz.f209 [(1,[2]),(13,[5,7]),(16,[3,6]),(17,[3])]:=⟨_,cvG⟩
def zP:AF Tryz.f158 [(3,[5]),(5,[2]),(6,[2]),(9,[2]),(12,[1]),(13,[10,19]),(14,[3]),(16,[4]),(18,[2]),(19,[14]),(20,[3]),(21,[5]),(23,[1])]:=⟨_,cvG⟩
def qGg:AF Tryz.f252 []:=⟨_,cvG⟩
def qFv:AF Tryz.f210 [(1,[9])]:=⟨_,cvG⟩
def wM:AF Tryz.f159 [(1,[24]),(3,[2]),(4,[4]),(5,[1]),(7,[1])]:=⟨_,cvG⟩
def qDh:AF Tryz.f211 []:=⟨_,cvG⟩
def qAa:AF Tryz.f160 [(2,[3]),(4,[1]),(6,[4]),(7,[4])]:=⟨_,cvG⟩
def qBy:AF Tryz.f161 [(2,[1])]:=⟨_,cvG⟩
def qGq:AF Tryz.f162 [(1,[1])]:=⟨_,cvG⟩
def qGh:AF Tryz.f163 []:=⟨_,cvG⟩
def qEk:AF Tryz.f164 []:=⟨_,cvG⟩
def qD3:AF Tryz.f212 [(1,[2])]:=⟨_,cvG⟩
def qEj:AF Tryz.f253 []:=⟨_,cvG⟩
def qDy:AF Tryz.f214 [(3,[5])]:=⟨_,cvG⟩
def qCx:AF Tryz.f215 [(3,[6])]:=⟨_,cvG⟩
end Go.Eng
end
