/- A part of an abstract machine, its walks, their tie. -/
import Derived.Test.YteglhhgmfnbalaaGreatDoorK40
import Derived.WideKeyArgs
import Derived.Handed
import Derived.OpenShut
import Derived.RowKit
import Derived.ProofKit
import Derived.LaidMore
import Derived.MakeChecks
import Derived.Stop.Joined
set_option linter.all false
section
set_option maxRecDepth 100000
namespace Go.Eng
open List
open Go.Proofs Go.Proofs.YteglhhgmfnbalaaGreatDoor
def gl0:Gl:=λg=>if g=2 then some (qTv.map jG) else if g=0 then some (jDn) else if g=1 then some (zVv) else none
abbrev TO (t:Tab):Prop:=xQ Tryz.prog gl0 t
structure TT where
 t:Tab
 h:TO t
def T0:TT:=⟨[],xQ.nil⟩
noncomputable section
def aE {n:Nat}{E:ECt}(T:TT)(h:∃g:EF E,FOk Tryz.prog gl0 n (E.fs g)):TT:=⟨(n,E.fs h.choose)::T.t,.cons h.choose_spec T.h⟩
def aF {n:Nat}{f:FnS}(T:TT)(h:FOk Tryz.prog gl0 n f):TT:=⟨(n,f)::T.t,.cons h T.h⟩
abbrev Cl (n:Nat)(fn:Func)(rs:List (Nat×Option (Nat×Bool))):Prop:=Tryz.prog.funcs[n]?=some fn/\(fn.name == "runtime.NumGoroutine")=false/\fn.body=some (fn.body.getD .skip)/\Tryz.prog.follows .mixedOrders=true/\qMb Tryz.prog fn.results.toList=some rs
def xE (n:Nat)(T:TT)(E:ECt){fn:Func}{h:List (Nat×List Nat)}{rs:List (Nat×Option (Nat×Bool))}(c:AF fn h)(w:∀x,E.pre x->c.1.wp T.t gl0 (qD 0 (E.aS x)) (qD 0 (E.ins x)) (qZ rs (E.ins x).length (E.K x)))(k:Cl n fn rs:=by exact⟨by kernel_rfl,by kernel_rfl,by kernel_rfl,by kernel_rfl,by kernel_rfl⟩)(z:c.1.strict=true:=by kernel_rfl)(u:∀x,(E.aS x).length<=fn.ntmps:=by exact λ_=>Nat.le_of_ble_eq_true (by kernel_rfl))(v:∀x,(E.ins x).length<=100:=by exact λ_=>Nat.le_of_ble_eq_true (by kernel_rfl)):TT:=aE (n:=n) T (jXh _ _ _ _ T.h E w k.1 k.2.1 k.2.2.1 c.2 k.2.2.2.1 k.2.2.2.2 z u v)
def xG (n:Nat)(T:TT)(E:ECt){fn:Func}{h:List (Nat×List Nat)}{rs:List (Nat×Option (Nat×Bool))}(c:AF fn h)(w:∀x,E.pre x->c.1.wp T.t gl0 (qD 0 (E.aS x)) (qD 0 (E.ins x)) (xO [] rs (E.ins x).length (E.K x)))(k:Cl n fn rs:=by exact⟨by kernel_rfl,by kernel_rfl,by kernel_rfl,by kernel_rfl,by kernel_rfl⟩)(z:c.1.strict=true:=by kernel_rfl)(u:∀x,(E.aS x).length<=fn.ntmps:=by exact λ_=>Nat.le_of_ble_eq_true (by kernel_rfl))(v:∀x,(E.ins x).length<=100:=by exact λ_=>Nat.le_of_ble_eq_true (by kernel_rfl)):TT:=aE (n:=n) T (jXi [] _ _ _ _ T.h E w k.1 k.2.1 k.2.2.1 c.2 k.2.2.2.1 k.2.2.2.2 z u v)
def xW (n:Nat)(T:TT)(E:Ct){fn:Func}{h:List (Nat×List Nat)}{rs:List (Nat×Option (Nat×Bool))}(c:AF fn h)(w:∀x,E.pre x->c.1.wp T.t gl0 (qD 0 (E.aS x)) (qD 0 (E.ins x)) (qZ rs (E.ins x).length (λr' o'=>r'=E.r x/\o'=E.outs x)))(k:Cl n fn rs:=by exact⟨by kernel_rfl,by kernel_rfl,by kernel_rfl,by kernel_rfl,by kernel_rfl⟩)(u:∀x,(E.aS x).length<=fn.ntmps:=by exact λ_=>Nat.le_of_ble_eq_true (by kernel_rfl))(v:∀x,(E.ins x).length<=100:=by exact λ_=>Nat.le_of_ble_eq_true (by kernel_rfl)):TT:=aF (n:=n) T (yFt k.1 k.2.1 k.2.2.1 c.2 k.2.2.2.1 T.h k.2.2.2.2 E u v w)
def xF (fz:List Nat)(n:Nat)(T:TT)(E:Ct){fn:Func}{h:List (Nat×List Nat)}{rs:List (Nat×Option (Nat×Bool))}(c:AF fn h)(w:∀x,E.pre x->c.1.wp T.t gl0 (qD 0 (E.aS x)) (qD 0 (E.ins x)) (xO fz rs (E.ins x).length (λr' o'=>r'=E.r x/\o'=E.outs x)))(k:Cl n fn rs:=by exact⟨by kernel_rfl,by kernel_rfl,by kernel_rfl,by kernel_rfl,by kernel_rfl⟩)(u:∀x,(E.aS x).length<=fn.ntmps:=by exact λ_=>Nat.le_of_ble_eq_true (by kernel_rfl))(v:∀x,(E.ins x).length<=100:=by exact λ_=>Nat.le_of_ble_eq_true (by kernel_rfl)):TT:=aF (n:=n) T (yFr fz k.1 k.2.1 k.2.2.1 c.2 k.2.2.2.1 T.h k.2.2.2.2 E u v w)
def xN (t0 nb z0 n:Nat)(T:TT)(E:Ct){fn:Func}{h:List (Nat×List Nat)}{rs:List (Nat×Option (Nat×Bool))}(c:AF fn h)(w:∀x,E.pre x->c.1.wp T.t gl0 (qD 0 (E.aS x)) (qD 0 (E.ins x)) (jRq t0 nb z0 (xO [] rs (E.ins x).length (λr' o'=>r'=E.r x/\o'=E.outs x))))(k:Cl n fn rs:=by exact⟨by kernel_rfl,by kernel_rfl,by kernel_rfl,by kernel_rfl,by kernel_rfl⟩)(u:∀x,(E.aS x).length<=fn.ntmps:=by exact λ_=>Nat.le_of_ble_eq_true (by kernel_rfl))(v:∀x,(E.ins x).length<=100:=by exact λ_=>Nat.le_of_ble_eq_true (by kernel_rfl)):TT:=aF (n:=n) T (yFs t0 nb z0 k.1 k.2.1 k.2.2.1 c.2 k.2.2.2.1 T.h k.2.2.2.2 E u v w)
def T1:=xW 60 T0 zKt qGf λ_ _=>zDo T0.t _
def T2:=xF [] 100 T1 zBh qM3 λx _=>zO2 T1.t _ x
def T3:=xF [] 162 T2 qTs qHm λx hx=>zGh T2.t _ x hx
def T4:=xW 228 T3 qJz qGc λx hx=>zDn T3.t _ x.1 x.2 hx.1 hx.2
def T5:=xW 229 T4 qR4 xX λx hx=>qPv T4.t _ x.1 x.2 hx
def T6:=xW 163 T5 (qA1 5 qI8) wK λx hx=>qP6 T5.t _ rfl rfl x hx
def T7:=xF [] 164 T6 qCy qDb λx hx=>qYh T6.t _ x hx
def T8:=xW 165 T7 (qA1 8 vK) xC λx hx=>qMk T7.t _ rfl rfl rfl x.2 x.1 hx.1 hx.2
def T9:=xF [] 124 T8 qE6 xS λx hx=>zGg T8.t _ rfl rfl rfl rfl x.1 hx.1 x.2 hx.2
def T10:=xF [] 125 T9 zBi qJf λx hx=>zJd T9.t _ x.1 x.2 hx
def T11:=xF [] 101 T10 zKu qRy λx hx=>zVb T10.t _ rfl rfl x.1 x.2 hx.1 hx.2
def T12:=xW 61 T11 qTr qD3 λx hx=>zGi T11.t _ rfl rfl x.1 x.2.1 x.2.2.1 x.2.2.2 hx.1 hx.2.1 hx.2.2.1 hx.2.2.2
def T13:=xW 38 T12 zBu qA6 λx hx=>zJm T12.t _ rfl rfl x.1 x.2 hx
def T14:=xE 40 T13 qNj qM2 λn hp=>zOt T13.t _ n hp
def T15:=xE 67 T14 qNd qHu λ⟨l,i⟩ hp=>zOu T14.t _ l i hp
def T16:=xF [] 63 T15 yQ qJr λx hx=>zJo T15.t _ x.1 x.2.1 x.2.2 hx.1 hx.2
def T17:=xF [] 66 T16 qGu qJq λx hx=>zJn T16.t _ rfl x.1 x.2 hx.1 hx.2
def T18:=xF [] 68 T17 zBj qCg λx hx=>qU2 T17.t _ rfl x.1 x.2 hx
def T19:=xE 69 T18 qOg qJm λb hp=>zI6 T18.t _ b
def T20:=xW 105 T19 kD yD λx hx=>qP8 T19.t _ x hx
def T21:=xF [] 70 T20 zBg wQ λx hx=>qRo T20.t _ rfl rfl x.1 x.2 hx
def T22:=xG 41 T21 qKq qE0 λs hp=>qZn T21.t _ rfl rfl rfl rfl rfl rfl s hp
def T23:=xE 62 T22 qKb qDe λn hp=>qX0 T22.t _ n hp
def T24:=xF [] 126 T23 qFv qEj λx hx=>qZs T23.t _ x.1 hx.1 x.2 hx.2
def T25:=xF [] 102 T24 yP qGb λx hx=>zDl T24.t _ rfl rfl x.1 x.2 hx.1 hx.2
def T26:=xE 64 T25 qKc qEp λ⟨n,p⟩ hp=>qZb T25.t _ rfl rfl n p hp
def T27:=xE 120 T26 qH3 qBf λ⟨k,i⟩ hp=>zF7 T26.t _ k i hp
def T28:=xW 104 T27 zEi xD λx hx=>qZu T27.t _ x.1 x.2.1 x.2.2.1 x.2.2.2 hx
def T29:=xW 103 T28 (zBf 104) qEl λx hx=>zO1 T28.t _ 104 rfl rfl x.1 x.2.1 x.2.2 hx
def T30:=xE 65 T29 qJ6 qD1 λ⟨k,i,b⟩ hp=>zF6 T29.t _ rfl k i b hp
def T31:=xE 39 T30 qH6 qB6 λ⟨k,b,n,p⟩ hp=>qUi T30.t _ rfl rfl rfl rfl k b n p hp
def T32:=xE 71 T31 qNm qJd λk hp=>zI3 T31.t _ k
def T33:=xE 42 T32 qG1 qGa λd hp=>zC4 T32.t _ rfl d
def T34:=xE 24 T33 qKv qF9 λ⟨n,en,a⟩ hp=>zC2 T33.t _ rfl rfl rfl rfl rfl n en a hp
def T35:=xE 29 T34 qKw qBe λd hp=>qSy T34.t _ rfl d
def T36:=xE 45 T35 qKx xR λd hp=>qUh T35.t _ d
def T37:=xE 50 T36 qNl qEk λk hp=>qY7 T36.t _ k
def T38:=xE 81 T37 qNk qFp λ⟨k,i⟩ hp=>zI2 T37.t _ rfl k i hp
def T39:=xF [8208] 83 T38 qE5 qM8 λx hx=>zO6 T38.t _ x hx
def T40:=xW 127 T39 qR1 qAz λx hx=>zJp T39.t _ x.1 hx x.2
def T41:=xW 128 T40 wS yF λx hx=>zGq T40.t _ x hx
def T42:=xW 121 T41 zBs vT λx hx=>qTo T41.t _ rfl rfl x.1 hx.1 x.2 hx.2
def T43:=xW 109 T42 qE4 vE λx hx=>qRs T42.t _ rfl rfl x.1 hx.1 x.2 hx.2
def T44:=xW 111 T43 qNc qBp λx hx=>qTn T43.t _ x hx
def T45:=xE 82 T44 qKd yN λ⟨b,w⟩ hp=>qX1 T44.t _ rfl rfl rfl rfl rfl b w hp
def T46:=xE 51 T45 qKe jT λ⟨k,b⟩ hp=>qS0 T45.t _ rfl rfl rfl k b hp
def T47:=xE 85 T46 qH4 jO λ⟨s,e,k,m⟩ hp=>qMj T46.t _ rfl rfl s e k m hp
def T48:=xE 84 T47 qNv qBo λ⟨s,e,k⟩ hp=>qS7 T47.t _ rfl s e k hp
def T49:=xW 110 T48 qFw jN λx hx=>qRq T48.t _ rfl rfl x.1 hx.1 x.2 hx.2
def T50:=xE 87 T49 qGx wR λ⟨s,e⟩ hp=>qRh T49.t _ rfl rfl s e hp
def T51:=xE 86 T50 qR7 qCf λ⟨s,e,n⟩ hp=>qUt T50.t _ rfl s e n hp
def T52:=xE 88 T51 qNw qAx λ⟨s,e⟩ hp=>qRi T51.t _ rfl s e hp
def T53:=xW 161 T52 qCi qAf λx _=>zDm T52.t _ x
def T54:=xW 311 T53 qL1 qD0 λx hx=>zGf T53.t _ x hx
def T55:=xW 296 T54 qL1 qM1 λx hx=>zO0 T54.t _ rfl x hx
def T56:TT:=aF T55 (show FOk Tryz.prog gl0 297 zEg.fs from jOf (fn:=Tryz.f297) (ps := #[3]) (t:=22) (e:=5) (by kernel_rfl) (by kernel_rfl) (by kernel_rfl) (by kernel_rfl) (by kernel_rfl) (by kernel_rfl))
def T57:=xF [] 268 T56 qQf qEi λx hx=>qZr T56.t _ rfl rfl x.1 x.2 hx
def T58:=xF [] 227 T57 kI qCd λx hx=>qUy T57.t _ rfl x.2 x.1 hx
def T59:=xF [] 160 T58 qAg jJ λx hx=>qU3 T58.t _ rfl rfl x
def T60:=xW 123 T59 qR2 qAy λx hx=>qRr T59.t _ x hx
def T61:=xW 91 T60 qJx vS λx hx=>qTm T60.t _ rfl x hx
def T62:=xW 122 T61 zHs yF0 λx hx=>yF2 T61.t _ rfl rfl rfl rfl rfl rfl rfl x hx
def T63:=xE 89 T62 qR8 wC λ⟨s,e⟩ hp=>qPu T62.t _ rfl rfl s e hp
def T64:=xE 90 T63 qR9 qAb λ⟨s,e⟩ hp=>qPt T63.t _ rfl rfl rfl s e hp
def T65:=xE 52 T64 qNn xK λb hp=>qZm T64.t _ rfl rfl rfl rfl rfl rfl rfl rfl rfl b hp
def T66:=xE 53 T65 qNg qHt λs hp=>zGa T65.t _ s
def T67:=xE 28 T66 qOw qB5 λd hp=>qUg T66.t _ rfl rfl rfl rfl rfl d hp
def T68:=xE 30 T67 qK7 qGr λm hp=>zDg T67.t _ m
def T69:=xE 106 T68 qId qEv λ_ hp=>qZh T68.t _
def T70:=xE 72 T69 qOv qGl λk hp=>qZq T69.t _ rfl k hp
def T71:=xE 73 T70 qKs wM λ⟨a,b⟩ hp=>zDh T70.t _ a b
def T72:=xE 74 T71 qKt xH λh hp=>qYe T71.t _ h
def T73:=xF [] 34 T72 yQ qJl λx hx=>zJj T72.t _ x.1 x.2.1 x.2.2 hx.1 hx.2
def T74:=xF [] 76 T73 qGu qJk λx hx=>zJi T73.t _ rfl x.1 x.2 hx.1 hx.2
def T75:=xE 44 T74 qIe qHq λq hp=>zDi T74.t _ rfl rfl q hp
def T76:=xE 75 T75 qOu qHr λq hp=>zDj T75.t _ rfl q hp
def T77:=xE 43 T76 qOs qGk λq hp=>qZp T76.t _ rfl rfl rfl rfl q hp
def T78:=xE 25 T77 qOt qEu λq hp=>qZg T77.t _ rfl rfl q hp
def T79:=xE 107 T78 qJ3 qC9 λb hp=>qXu T78.t _ rfl b hp
def T80:=xE 108 T79 qJ2 qC8 λk hp=>qXt T79.t _ rfl k hp
def T81:=xE 112 T80 qH2 yM λ⟨n,s⟩ hp=>qSx T80.t _ n s
def T82:=xE 77 T81 qJ0 qB4 λb hp=>qUf T81.t _ rfl rfl rfl rfl rfl rfl rfl rfl b hp
def T83:=xE 78 T82 qJ1 yJ λr hp=>qHk T82.t _ rfl rfl r hp
def T84:=xE 129 T83 qJ4 xB λn hp=>qY6 T83.t _ n
def T85:=xE 130 T84 qJ5 qDa λq hp=>qXv T84.t _ rfl rfl rfl q hp
def T86:=xE 113 T85 qNh qC7 λq hp=>qXs T85.t _ rfl rfl rfl rfl q hp
def T87:=xE 114 T86 qE8 qGg λ⟨s,e⟩ hp=>zC9 T86.t _ s e
def T88:=xE 133 T87 qE7 qEm λ⟨s,h⟩ hp=>qY8 T87.t _ s h hp
def T89:=xE 132 T88 qGw vN λ⟨s,h⟩ hp=>qXx T88.t _ s h hp
def T90:=xE 230 T89 qNr kZ λh hp=>qMg T89.t _ rfl h hp
def T91:=xE 176 T90 qH5 qB2 λx hp=>qUe T90.t _ rfl rfl x hp
def T92:=xG 200 T91 qIh qF8 λx hp=>zC1 T91.t _ rfl x hp
def T93:=xE 183 T92 qG2 qJc λx hp=>zI1 T92.t _ rfl rfl x hp
def T94:=xE 166 T93 qGv kF λ⟨s,h⟩ hp=>zC6 T93.t _ rfl rfl rfl rfl rfl s h hp
def T95:=xE 131 T94 qNo qGd λ⟨s,h⟩ hp=>zC5 T94.t _ rfl s h hp
def T96:=xE 115 T95 qN4 zP λ⟨s,q⟩ hp=>qUl T95.t _ rfl rfl rfl s q hp
def T97:=xF [] 231 T96 kJ yZ λx hx=>qTp T96.t _ x hx
def T98:=xW 167 T97 qJy yC λx hx=>qP7 T97.t _ rfl rfl rfl x hx
def T99:=xE 134 T98 qOr jK λ⟨s,m⟩ hp=>qYd T98.t _ rfl rfl s m hp
def jYt:=xE 135 T99 qKj qCp λ⟨s,c,e⟩ hp=>zC8 T99.t _ rfl s c e
def jYu:=xW 232 jYt qAr vR λx _=>qTd jYt.t _ x
def jYv:=xW 233 jYu qL8 qEy λx hx=>qZ0 jYu.t _ rfl x.1 x.2.1 hx.1 x.2.2 hx.2
def jYw:=xF [] 168 jYv zK1 jX λx hx=>qTc jYv.t _ rfl rfl x.1 x.2.1 x.2.2.1 x.2.2.2 hx
def jYx:=xW 234 jYw qH1 qBk λx _=>qTe jYw.t _ x.1 x.2
def jYy:=xW 169 jYx qI0 zC λx hx=>qRp jYx.t _ rfl rfl rfl rfl rfl rfl x hx
def jYz:=xW 170 jYy zQo kS λx hx=>qTb jYy.t _ rfl rfl rfl x.1 x.2.1 x.2.2.1 x.2.2.2.1 x.2.2.2.2 hx.1 hx.2.1 hx.2.2
def jY0:=xE 137 jYz qOa qBg λ⟨s,lo,q⟩ hp=>qS2 jYz.t _ rfl rfl rfl s lo q hp
def jY1:=xE 157 jY0 qOk qE1 λ⟨s,n⟩ hp=>qZo jY0.t _ rfl rfl s n hp
def jY2:=xF [] 235 jY1 qWc qEs λ_ _=>qZw jY1.t _
def jY3:=xF [] 158 jY2 zKm zT λx hx=>qU0 jY2.t _ x hx
def jY4:=xE 226 jY3 qIa qGo λ⟨s,k,x⟩ hp=>zDd jY3.t _ rfl s k x hp
def jY5:=xE 175 jY4 qOq qEz λ⟨s,k⟩ hp=>qZj jY4.t _ rfl rfl rfl s k hp
def jY6:=xE 184 jY5 qIc wF λ⟨s,h⟩ hp=>qZk jY5.t _ s h hp
def jY7:=xE 143 jY6 qG0 qBl λ⟨s,h⟩ hp=>qZi jY6.t _ rfl s h hp
def jY8:=xE 139 jY7 qN8 qGh λ⟨s,q⟩ hp=>zDa jY7.t _ rfl rfl s q hp
def jY9:=xE 179 jY8 qKp jA λ⟨s,h⟩ hp=>qIu jY8.t _ rfl s h hp
def jZa:=xW 257 jY9 zBq qDi λx _=>qYi jY9.t _ x.1 x.2.1 x.2.2
def jZb:=xW 256 jZa zBk qBj λx _=>qS9 jZa.t _ x
def jZc:=xE 258 jZb qOi qEt λ⟨e,b⟩ hp=>qZf jZb.t _ e b
def jZd:=xE 208 jZc qKm jV λa hp=>qZe jZc.t _ rfl rfl rfl a hp
def jZe:=xW 269 jZd zWz qBm λx hx=>qTh jZd.t _ x.1 x.2.1 x.2.2
def jZf:=xF [] 206 jZe qNb qAv λx hx=>qRn jZe.t _ rfl rfl rfl x.1 x.2.1 x.2.2.1 x.2.2.2 hx
def jZg:=xE 270 jZf qOp jH λ⟨s,x,a⟩ hp=>qHl jZf.t _ rfl s x a hp
def jZh:=xE 265 jZg qOy vJ λ⟨l,v⟩ hp=>qG8 jZg.t _ l v hp
def jZi:=xE 220 jZh qK0 yO λ⟨l,v⟩ hp=>qEe jZh.t _ rfl l v hp
def yDn:=xE 317 jZi qNf xA λ⟨a,c⟩ hp=>qMh jZi.t _ a c hp
def jZj:=xW 312 yDn zKh qB3 λx hx=>qUu yDn.t _ rfl x hx
def jZk:TT:=aF jZj (show FOk Tryz.prog gl0 321 zEd.fs from jOe (fn:=Tryz.f321) (by kernel_rfl) (by kernel_rfl) (by kernel_rfl) (by kernel_rfl) (by kernel_rfl))
def jZl:=xE 313 jZk qNe qC6 λ⟨a,b⟩ hp=>qXr jZk.t _ rfl a b hp
def jZm:=xE 298 jZl qKl qCb λ⟨op,a,b⟩ hp=>qUq jZl.t _ rfl rfl op a b hp
def jZn:=xE 271 jZm qKo xI λ⟨s,a⟩ hp=>qMi jZm.t _ rfl rfl rfl s a hp
def jZo:=xW 274 jZn zKk qBn λx hx=>qTi jZn.t _ x.1 x.2
def jZp:=xW 299 jZo (zKr 274) jI λx hx=>qMl jZo.t _ 274 rfl x.1 x.2 hx
def jZq:=xW 273 jZp (zKi 274) zM λx hx=>qIw jZp.t _ 274 rfl x.1 x.2 hx
def jZr:=xE 236 jZq qOn jE λ⟨s,x,a⟩ hp=>qYb jZq.t _ rfl rfl rfl rfl s x a hp
def jZs:=xE 283 jZr qOh qAp λ⟨d,a⟩ hp=>qX9 jZr.t _ rfl d a
def jZt:=xG 241 jZs qKn qAo λ⟨d,a⟩ hp=>qX8 jZs.t _ rfl rfl rfl d a hp
def jZu:=xE 182 jZt qIb qCe λ⟨s,k,x,a⟩ hp=>qUs jZt.t _ rfl rfl s k x a hp
def jZv:=xE 177 jZu qOm zV λ⟨s,h,a⟩ hp=>qUr jZu.t _ rfl rfl rfl rfl rfl s h a hp
def jZw:=xE 140 jZv qN5 kA λ⟨s,q⟩ hp=>qX2 jZv.t _ rfl rfl rfl rfl s q hp
def jZx:=xE 237 jZw qO5 kL λk hp=>qSt jZw.t _ k hp
def jZy:=xE 178 jZx qIg qDz λx hp=>zF5 jZx.t _ rfl x hp
def jZz:=xE 141 jZy qO3 qF7 λb hp=>zC0 jZy.t _ rfl rfl rfl rfl rfl b hp
def jZ0:=xE 181 jZz qK8 qAw λ⟨d,r⟩ hp=>qRg jZz.t _ rfl d r hp
def jZ1:=xE 238 jZ0 qO4 xJ λh hp=>qZl jZ0.t _ h
def jZ2:=xE 275 jZ1 qO6 qDg λl hp=>qX6 jZ1.t _ l hp
def jZ3:=xE 276 jZ2 qK9 qCa λm hp=>qUp jZ2.t _ rfl m hp
def jZ4:=xE 300 jZ3 qWi yF7 λ⟨l,c,p,x⟩ hp=>yF8 jZ3.t _ rfl l c p x hp
def jZ5:=xW 277 jZ4 zKx xY λx hx=>qPx jZ4.t _ x.1 x.2 hx
def jZ6:=xW 280 jZ5 zKy xZ λx hx=>qPy jZ5.t _ x.1 x.2 hx
def jZ7:=xW 281 jZ6 zKz qAa λx _=>qPz jZ6.t _ x
def jZ8:=xW 279 jZ7 (zK2 277 280 281) qEr λx hx=>qZv jZ7.t _ 277 280 281 rfl rfl rfl rfl x.1 x.2 hx
def jZ9:=xE 278 jZ8 qLc qDh λ⟨l,e⟩ hp=>qX7 jZ8.t _ rfl l e hp
def yAa:=xE 239 jZ9 qLa qBi λ⟨l,m,sg⟩ hp=>qS5 jZ9.t _ rfl rfl rfl rfl l m sg hp
def yAb:=xE 240 yAa qO2 qHx λ⟨x,i,p⟩ hp=>zGe yAa.t _ x i p hp
def yAc:=xE 180 yAb qLb kB λ⟨p,m,sg⟩ hp=>qYc yAb.t _ rfl rfl rfl p m sg hp
def yAd:=xE 142 yAc qOl kT λ⟨s,h,x,r,w⟩ hp=>qS6 yAc.t _ rfl rfl rfl rfl rfl rfl s h x r w hp
def yAe:=xE 116 yAd qN9 jU λ⟨s,lo,q⟩ hp=>qZc yAd.t _ rfl rfl rfl rfl rfl rfl rfl rfl s lo q hp
def yAf:=xE 192 yAe qKf yI λ⟨c,h⟩ hp=>qHj yAe.t _ rfl c h hp
def yAg:=xE 248 yAf qOj qBd λk hp=>qSv yAf.t _ k
def yAh:=xE 193 yAg qKz kM λ⟨k,r,w⟩ hp=>qSw yAg.t _ rfl k r w hp
def yAi:=xE 185 yAh qNz qY λc hp=>qDr yAh.t _ rfl rfl rfl c hp
def yAj:=xE 194 yAi qNy vH λc hp=>qG7 yAi.t _ c
def yAk:=xE 243 yAj qNq qAt λ⟨s,h⟩ hp=>qRf yAj.t _ rfl s h hp
def yAl:=xE 284 yAk qN2 kP λ⟨l,n⟩ hp=>qS1 yAk.t _ l n hp
def yAm:=xE 244 yAl qN3 qB7 λ⟨l,n⟩ hp=>qUj yAl.t _ rfl l n hp
def yAn:=xE 186 yAm qKh vC λc hp=>qFo yAm.t _ rfl rfl rfl c hp
def yAo:=xE 187 yAn qJ7 qEn λ⟨s,h⟩ hp=>qY9 yAn.t _ rfl s h hp
def yAp:=xW 245 yAo zBt qFq λx hx=>zJc yAo.t _ x.1 x.2 hx
def yAq:=xE 188 yAp qKg yU λ⟨c,a,b⟩ hp=>qFj yAp.t _ rfl c a b hp
def yAr:=xE 144 yAq qN1 yT λ⟨c,x⟩ hp=>qFi yAq.t _ rfl rfl rfl rfl c x hp
def yAs:=xE 191 yAr qNp qDc λ⟨s,h⟩ hp=>qXy yAr.t _ rfl s h hp
def yAt:=xE 145 yAs qKi zS λ⟨c,x,lo⟩ hp=>qEd yAs.t _ rfl rfl rfl rfl rfl c x lo hp
def yAu:=xE 117 yAt qNx vP λ⟨s,lo,q⟩ hp=>qSu yAt.t _ rfl rfl rfl s lo q hp
def yAv:=xE 195 yAu qH9 qEq λq hp=>qZd yAu.t _ q hp
def yAw:=xE 172 yAv qOd qAn λ⟨q,i⟩ hp=>qX5 yAv.t _ q i hp
def yAx:=xE 197 yAw qGz qCq λ⟨q,i⟩ hp=>zDb yAw.t _ q i hp
def yAy:=xE 196 yAx qKk qBh λq hp=>qS4 yAx.t _ rfl rfl q hp
def yAz:=xW 249 yAy jCl qGs λx _=>zDu yAy.t _ x
def yA0:=xF [] 250 yAz zK0 qGt λx hx=>zDv yAz.t _ rfl x.1 x.2.1 x.2.2 hx
def yA1:=xE 198 yA0 qKy qFt λ⟨k,p,au,da⟩ hp=>zJa yA0.t _ rfl rfl rfl rfl k p au da hp
def yA2:=xF [] 174 yA1 zKl zZ λx hx=>qUz yA1.t _ x hx
def yA3:=xE 199 yA2 qOc qGi λ⟨s,x⟩ hp=>zDc yA2.t _ rfl s x hp
def yA4:=xE 146 yA3 qOe qB9 λ⟨s,q⟩ hp=>qUo yA3.t _ rfl rfl rfl rfl rfl rfl rfl rfl rfl s q hp
def yA5:=xE 149 yA4 qOf qDf λ⟨s,q⟩ hp=>qX4 yA4.t _ rfl rfl s q hp
def yA6:=xE 259 yA5 qNt qGe λ⟨k,z⟩ hp=>zC7 yA5.t _ k z hp
def jE1:=xE 209 yA6 qJ9 qJe λ⟨n,k,t,z,au,po⟩ hp=>zI4 yA6.t _ rfl n k t z au po hp
def yA7:=xW 211 jE1 zKv kQ λx _=>qS8 jE1.t _ x.1 x.2
def jE2:=xW 214 yA7 zKw vZ λx _=>qPw yA7.t _ x.1 x.2
def yA8:TT:=aF (n:=260) jE2 (jDu (xQ.hd (show xQ _ _ ((260,(qWb 211).fs)::jE2.t) from(xW 260 jE2 (qWb 211) qP (λx hx=>qMm jE2.t _ 211 rfl x.1 x.2 hx)).h)) (xQ.hd (show xQ _ _ ((260,(zEf 214).fs)::jE2.t) from(xW 260 jE2 (zEf 214) qP (λx hx=>qMn jE2.t _ 214 rfl x.1 x.2 hx)).h)))
def yA9:=xW 210 yA8 (zKj 211) zE λx hx=>qIx yA8.t _ 211 214 rfl x.1 x.2 hx
def yBa:TT:=aF (n:=212) yA9 (jDu (xQ.hd (show xQ _ _ ((212,qQe.fs)::yA9.t) from(xN 2 200 8 212 yA9 qQe qW (λx hx=>qTj yA9.t _)).h)) (xQ.hd (show xQ _ _ ((212,qWa.fs)::yA9.t) from(xF [] 212 yA9 qWa qW (λx hx=>qTk yA9.t _ x)).h)))
def yBb:=xE 153 yBa qH7 qAm λ⟨s,q⟩ hp=>qX3 yBa.t _ rfl rfl rfl rfl s q hp
def yBc:=xF [] 213 yBb (zKo 214) zH λx hx=>qLu yBb.t _ 211 214 rfl x.1 x.2 hx
def yBd:=xW 262 yBc zKn vI λ_ _=>qU1 yBc.t _
def yBe:=xW 295 yBd (zKq 263) yK λx _=>qMo yBd.t _ 263 x
def yBf:=xW 261 yBe (zKp 263) yE λx _=>qLv yBe.t _ 263 rfl x
def yBg:=xE 215 yBf qOz qB8 λ⟨l,v⟩ hp=>qUn yBf.t _ rfl rfl l v hp
def yBh:=xE 154 yBg qH8 kR λ⟨s,n⟩ hp=>qS3 yBg.t _ rfl rfl rfl rfl s n hp
def yBi:=xE 266 yBh qNs qEo λ⟨x,o,z⟩ hp=>qZa yBh.t _ x o z hp
def yBj:=xE 221 yBi qKa qD2 λ⟨x,o,z⟩ hp=>zF8 yBi.t _ rfl x o z hp
def yBk:=xE 267 yBj qNu qDd λ⟨x,d⟩ hp=>qXz yBj.t _ x d hp
def yBl:=xE 223 yBk qJ8 kO λ⟨x,m⟩ hp=>qSz yBk.t _ rfl rfl rfl rfl x m hp
def yBm:=xE 156 yBl qGy wE λ⟨s,q⟩ hp=>qUm yBl.t _ rfl rfl rfl rfl rfl rfl s q hp
def yBn:=xE 118 yBm qN6 zW λ⟨s,q⟩ hp=>qPs yBm.t _ rfl rfl rfl rfl rfl s q hp
def yBo:=xE 159 yBn qOo qAq λ⟨s,h⟩ hp=>qYa yBn.t _ rfl rfl s h hp
def yBp:=xE 119 yBo qN0 wJ λ⟨s,q⟩ hp=>qRe yBo.t _ rfl rfl s q hp
def yBq:=xE 79 yBp qN7 qV λ⟨s,lo,q⟩ hp=>qUk yBp.t _ rfl rfl rfl rfl rfl rfl rfl s lo q hp
def yBr:=xE 46 yBq qOb qHn λ⟨s,lo,b⟩ hp=>zF9 yBq.t _ rfl rfl rfl s lo b hp
def yBs:=xE 47 yBr qKu wZ λ⟨d,s⟩ hp=>qXw yBr.t _ rfl rfl rfl d s hp
def yBt:=xE 26 yBs qOx qCo λ⟨d,lo,b⟩ hp=>zC3 yBs.t _ rfl rfl rfl rfl d lo b hp
def yBu:=xF [] 13 yBt qE5 qM5 λx hx=>zO4 yBt.t _ x hx
def yBv:=xW 31 yBu qAd yB λx hx=>zGo yBu.t _ x hx
def yBw:=xW 14 yBv qE4 vD λx hx=>qRm yBv.t _ rfl x.1 hx.1 x.2 hx.2
def yBx:=xW 48 yBw qFw jM λx hx=>qRk yBw.t _ rfl x.1 hx.1 x.2 hx.2
def yBy:=xW 80 yBx qR2 qAu λx hx=>qRl yBx.t _ x hx
def yBz:=xW 49 yBy qJx vQ λx hx=>qTa yBy.t _ rfl x hx
def yB0:=xE 27 yBz qKr jW λb hp=>qI9 yBz.t _ rfl rfl rfl rfl b hp
def yB1:=xE 11 yB0 qBr qLx λ⟨d,lo,q⟩ hp=>zU7 yB0.t _ rfl rfl rfl d lo q hp
def yB2:=xE 18 yB1 xL qCh λ⟨d,lo,q,i,b⟩ hp=>zOv yB1.t _ rfl d lo q i b hp
def yB3:=xE 12 yB2 qCj qJo λd hp=>zI8 yB2.t _ rfl rfl rfl rfl d hp
def yB4:=xE 5 yB3 qK1 qJp λa hp=>zI9 yB3.t _ rfl rfl a hp
def yB5:=xW 57 yB4 qCi qCw λx _=>zJf yB4.t _ x
def yB6:=xF [] 56 yB5 kI qFr λx hx=>zGp yB5.t _ x hx
def yB7:=xF [] 35 yB6 qH0 qEw λx hx=>qZy yB6.t _ rfl rfl x.1 hx x.2
def yB8:=xF [] 16 yB7 qAg wO λx hx=>zJr yB7.t _ rfl x
def yB9:=xW 32 yB8 qDl kG λx hx=>qZ1 yB8.t _ x hx
def yCa:=xF [] 55 yB9 qFv qHo λx hx=>zGj yB9.t _ x.1 hx.1 x.2 hx.2
def yCb:=xW 92 yCa qU6 qCc λ_ _=>qUw yCa.t _
def yCc:=xF [] 93 yCb qTs qM4 λx hx=>zO3 yCb.t _ x hx
def yCd:=xW 94 yCc qJz qJj λx hx=>zJh yCc.t _ x.1 x.2 hx.1 hx.2
def yCe:=xW 95 yCd zBr qJi λx hx=>zJg yCd.t _ x.1 x.2 hx
def yCf:=xF [] 96 yCe qCy qHp λx hx=>zGk yCe.t _ x hx
def yCg:=xF [] 54 yCf (zEh 32 jF) qGj λx hx=>zDp yCf.t _ rfl rfl rfl rfl rfl x hx
def yCh:=xF [] 33 yCg yP qJh λx hx=>zJe yCg.t _ rfl rfl x.1 x.2 hx.1 hx.2
def yCi:=xF [] 15 yCh qNb qGm λx hx=>zDr yCh.t _ rfl rfl rfl x.1 x.2.1 x.2.2.1 x.2.2.2 hx
def yCj:=xF [] 36 yCi qWc qHs λ_ _=>zGn yCi.t _
def yCk:=xW 97 yCj zBp qEx λx hx=>qZz yCj.t _ x.1 x.2 hx.1 hx.2
def yCl:=xW 99 yCk zBl qDj λx hx=>qYj yCk.t _ x hx
def yCm:=xW 58 yCl qR3 qD4 λx hx=>zGl yCl.t _ rfl rfl x hx
def yCn:=xF [] 59 yCm zBo qD5 λx hx=>zGm yCm.t _ rfl rfl x.1 x.2 hx.1 hx.2
def yCo:=xF [] 37 yCn zBn qCr λx hx=>zDt yCn.t _ rfl rfl rfl x.1 x.2 hx.1 hx.2
def yCp:=xW 17 yCo zBm qGn λx hx=>zDs yCo.t _ rfl rfl x hx
def yCq:=xE 8 yCp qE9 qM7 λ⟨q,v⟩ hp=>zOx yCp.t _ q v
def yCr:=xE 19 yCq qK6 qGq λ⟨h,k,a,t,p,u,d⟩ hp=>zDf yCq.t _ rfl h k a t p u d
def yCs:=xE 20 yCr qK4 qM6 λk hp=>zOw yCr.t _ k
def yCt:=xE 21 yCs qK5 qHw λ⟨h,k,s,n,o,b⟩ hp=>zGd yCs.t _ h k s n o b
def yCu:=xE 23 yCt qK3 qVr λ⟨c,h,b⟩ hp=>jBf yCt.t _ c h b
def yCv:=xF [] 22 yCu zK3 qVq λx _=>jBk yCu.t _ x.1 x.2
def yCw:=xE 4 yCv qO0 qJn λ_ hp=>zI7 yCv.t _ rfl rfl rfl rfl rfl rfl rfl rfl rfl rfl
def yCx:=xE 6 yCw qIf qGp λ⟨c,ns⟩ hp=>zDe yCw.t _ rfl c ns
def yCy:=xE 7 yCx qO1 qHv λ_ hp=>zGb yCx.t _ rfl
def yF6:=xE 10 yCy qK2 qD6 λ⟨l,i⟩ hp=>zGc yCy.t _ l i hp
def yGb:=xE 9 yF6 qNi qJg λ⟨k,a,t⟩ hp=>zI5 yF6.t _ k a t
end
end Go.Eng
end
section
set_option maxRecDepth 20000
namespace Go.Eng
open List
open Go.ChangeShapes Go.WideShapes Go.RowKit
inductive Ty where
 |int (k:IntKind)
 |bool
 |str
 |sl (e:Ty)
 |st (fs:List Ty)
mutual
def Ty.size:Ty->Nat
 |.st fs=>Ty.sizeL fs
 |_=>1
def Ty.sizeL:List Ty->Nat
 |[]=>0
 |f::r=>f.size+Ty.sizeL r
end
def isK (P:Program)(t:TypeId)(k:IntKind):Bool:=match P.underlying t with
 |some (.int k')=>decide (k'=k)
 |_=>false
theorem jDc {P:Program}{t:TypeId}{k:IntKind}(h:isK P t k=true):P.underlying t=some (.int k):=by
 unfold isK at h;split at h
 .rename_i h1;rw[h1,of_decide_eq_true h]
 .cases h
mutual
def Ty.ok (P:Program):Ty->TypeId->Bool
 |.int k,t=>isK P t k
 |.bool,t=>match P.underlying t with|some .bool=>true|_=>false
 |.str,t=>match P.underlying t with|some .string=>true|_=>false
 |.sl e,t=>match P.underlying t with|some (.slice te)=>e.ok P te&&Nat.beq (P.cellsOf te) e.size&&Nat.ble 1 e.size|_=>false
 |.st fs,t=>Nat.beq (P.cellsOf t) (Ty.sizeL fs)&&match P.underlying t with
  |some (.struct gs)=>Ty.okF P fs gs.toList 0
  |some (.array n te)=>Nat.beq fs.length n&&Ty.okA P fs te
  |_=>false
def Ty.okF (P:Program):List Ty->List Field->Nat->Bool
 |[],[],_=>true
 |f::r,g::gs,off=>Nat.beq g.offset off&&Nat.beq (P.cellsOf g.type) f.size&&f.ok P g.type&&Ty.okF P r gs (off+f.size)
 |_,_,_=>false
def Ty.okA (P:Program):List Ty->TypeId->Bool
 |[],_=>true
 |f::r,te=>f.ok P te&&Nat.beq (P.cellsOf te) f.size&&Ty.okA P r te
end
mutual
def Ty.is:Ty->T->Prop
 |.int k,x=>∃n,(Lit.int k n).wf=true/\x=.int k n
 |.bool,x=>∃b,x=.bool b
 |.str,x=>∃s:ByteArray,s.size<=maxLen/\x=.str s
 |.sl e,x=>∃es:List T,es.length<=maxLen/\(∀y∈es,e.is y)/\x=.sl es
 |.st fs,x=>∃cs,Ty.isL fs cs/\x=.agg cs
def Ty.isL:List Ty->List T->Prop
 |[],cs=>cs=[]
 |f::r,cs=>∃x rest,f.is x/\Ty.isL r rest/\cs=x.cells++rest
end
mutual
theorem Ty.is_size:∀(ty:Ty)(x:T),ty.is x->x.cells.length=ty.size
 |.int k,x,h=>by obtain⟨n,_,rfl⟩:=h;rfl
 |.bool,x,h=>by obtain⟨n,rfl⟩:=h;rfl
 |.str,x,h=>by obtain⟨n,_,rfl⟩:=h;rfl
 |.sl e,x,h=>by obtain⟨es,_,_,rfl⟩:=h;rfl
 |.st fs,x,h=>by
  obtain⟨cs,h1,rfl⟩:=h;show cs.length=Ty.sizeL fs;exact Ty.isL_size fs cs h1
theorem Ty.isL_size:∀(fs:List Ty)(cs:List T),Ty.isL fs cs->cs.length=Ty.sizeL fs
 |[],cs,h=>by cases h;rfl
 |f::r,cs,h=>by
  obtain⟨x,rest,h1,h2,rfl⟩:=h;rw[length_append,Ty.is_size f x h1,Ty.isL_size r rest h2,Ty.sizeL]
end
theorem zFi {α:Type}{Q:Nat->α->Prop}:∀(n:Nat),(∀i,i<n->∃y,Q i y)->∃l:List α,l.length=n/\∀i y,l[i]?=some y->Q i y
 |0,_=>⟨[],rfl,sM⟩
 |n+1,h=>by
  obtain⟨l,hl,hq⟩:=zFi n (λi hi=>h i oM);obtain⟨y,hy⟩:=h n oM;refine⟨l++[y],by simp[hl],λi z hz=>?_⟩;rw[getElem?_append]at hz;split at hz
  .exact hq i z hz
  .have h1:i-l.length=0:=by
    rcases Nat.eq_zero_or_pos (i-l.length)with h|h
    .exact h
    .rw[getElem?_eq_none soM]at hz;cases hz
   rw[h1]at hz;simp only[getElem?_cons_zero,Option.some.injEq]at hz;subst hz;have:i=n:=oM;subst this;exact hy
theorem qV5 {w:World}{a:Addr}{u:Value}(h:w.cell? a=some u):a.block<w.heap.size/\a.spot=none:=by
 unfold World.cell? at h;split at h
 .rename_i hb;refine⟨(Array.getElem?_eq_some_iff.1 hb).1,?_⟩;split at h
  .cases h
  .rename_i hs;simpa using hs
 .cases h
section
variable {H:Type}{enc:TypeId×Value->H}{P:Program}{w:World}{base:Nat}{sp:Nat->Bool}{held:Bool}
structure qJb (w:World)(ds:List T)(cs:List Value):Prop where
 len:ds.length=cs.length
 one:∀u∈cs,u.oneCell'=true
 rep:∀(i:Nat)(c:T)(u:Value),ds[i]?=some c->cs[i]?=some u->Rep (λb=>b<w.heap.size) w c u
theorem qJb.one1 {x:T}{c:Value}(hc:c.oneCell'=true)(h:Rep (λb=>b<w.heap.size) w x c):qJb w [x] [c]:=
 ⟨rfl,by simpa using hc,λi d u hd hu=>by
  cases i with
  |zero=>simp only[getElem?_cons_zero,Option.some.injEq]at hd hu;subst hd;subst hu;exact h
  |succ i=>simp at hd⟩
theorem qJb.app {ds es:List T}{cs vs:List Value}(h:qJb w ds cs)(h2:qJb w es vs):qJb w (ds++es) (cs++vs):=by
 refine⟨by rw[length_append,length_append,h.len,h2.len],λu hu=>?_,λi c u hc hu=>?_⟩
 .rcases mem_append.1 hu with h3|h3
  .exact h.one u h3
  .exact h2.one u h3
 .rw[getElem?_append]at hc hu;rw[h.len]at hc;split at hc
  .rename_i hl;rw[if_pos hl]at hu;exact h.rep i c u hc hu
  .rename_i hl;rw[if_neg hl]at hu;exact h2.rep _ c u hc hu
theorem qJb.nil:qJb w [] []:=⟨rfl,sM,λi c u hc=>by simp at hc⟩
theorem qWz (n:Nat)(IH:∀(ty:Ty)(t:TypeId)(cs:List Value)(x:DataW H×List MemPlace),ty.ok P t=true->cs.length=ty.size->DataW.trod enc P w base sp held n t cs=some x->∃y:T,ty.is y/\qJb w y.cells cs){cs:List Value} :
  ∀(fs:List Ty)(gs:List Field)(off:Nat),Ty.okF P fs gs off=true->off+Ty.sizeL fs=cs.length->(∀g∈gs,∃x,DataW.trod enc P w base sp held n g.type ((cs.drop g.offset).take (P.cellsOf g.type))=some x)->
   ∃ds,Ty.isL fs ds/\qJb w ds (cs.drop off)
 |[],[],off,_,hl,_=>⟨[],rfl,by
   have:cs.drop off=[]:=drop_eq_nil_of_le (by simp only[Ty.sizeL]at hl;omega);rw[this];exact qJb.nil⟩
 |[],_::_,_,h,_,_=>by simp[Ty.okF]at h
 |_::_,[],_,h,_,_=>by simp[Ty.okF]at h
 |f::r,g::gs,off,h,hl,hg=>by
  simp only[Ty.okF,Bool.and_eq_true]at h;obtain⟨⟨⟨h1,h2⟩,h3⟩,h4⟩:=h;have e1:=Nat.eq_of_beq_eq_true h1;have e2:=Nat.eq_of_beq_eq_true h2;simp only[Ty.sizeL]at hl;obtain⟨ds,hd1,hd2⟩:=qWz n IH r gs (off+f.size) h4 oM (λg' hg'=>hg g' (.tail _ hg'));obtain⟨x,hx⟩:=hg g (.head _);rw[e1,e2]at hx;obtain⟨y,hy1,hy2⟩:=IH f g.type _ x h3 soM hx;refine⟨y.cells++ds,⟨y,ds,hy1,hd1,rfl⟩,?_⟩;have e3:cs.drop off=(cs.drop off).take f.size++cs.drop (off+f.size):=by
   rw[<-drop_drop,take_append_drop]
  rw[e3];exact hy2.app hd2
theorem zAm (n:Nat)(IH:∀(ty:Ty)(t:TypeId)(cs:List Value)(x:DataW H×List MemPlace),ty.ok P t=true->cs.length=ty.size->DataW.trod enc P w base sp held n t cs=some x->∃y:T,ty.is y/\qJb w y.cells cs){cs:List Value}{te:TypeId} :
  ∀(fs:List Ty)(i:Nat),Ty.okA P fs te=true->i*P.cellsOf te+Ty.sizeL fs=cs.length->(∀j,j<fs.length->∃x,DataW.trod enc P w base sp held n te ((cs.drop ((i+j)*P.cellsOf te)).take (P.cellsOf te))=some x)->
   ∃ds,Ty.isL fs ds/\qJb w ds (cs.drop (i*P.cellsOf te))
 |[],i,_,hl,_=>⟨[],rfl,by
   have:cs.drop (i*P.cellsOf te)=[]:=drop_eq_nil_of_le (by simp only[Ty.sizeL]at hl;omega);rw[this];exact qJb.nil⟩
 |f::r,i,h,hl,hg=>by
  simp only[Ty.okA,Bool.and_eq_true]at h;obtain⟨⟨h3,h2⟩,h4⟩:=h;have e2:=Nat.eq_of_beq_eq_true h2;simp only[Ty.sizeL]at hl;have e4:(i+1)*P.cellsOf te=i*P.cellsOf te+f.size:=by rw[Nat.add_mul,Nat.one_mul,e2]
  obtain⟨ds,hd1,hd2⟩:=zAm n IH (cs:=cs) r (i+1) h4 (by rw[e4];omega) (λj hj=>by
   have:=hg (j+1) soM;rw[show i+1+j=i+(j+1) by omega];exact this)
  obtain⟨x,hx⟩:=hg 0 sM;rw[Nat.add_zero,e2,<-e2]at hx;obtain⟨y,hy1,hy2⟩:=IH f te _ x h3 (by rw[e2]at hl⊢;rw[length_take,length_drop];omega) hx;refine⟨y.cells++ds,⟨y,ds,hy1,hd1,rfl⟩,?_⟩;have e3:cs.drop (i*P.cellsOf te)=(cs.drop (i*P.cellsOf te)).take (P.cellsOf te)++cs.drop ((i+1)*P.cellsOf te):=by
   rw[e4,<-e2,<-drop_drop,take_append_drop]
  rw[e3];exact hy2.app hd2
theorem zAn:∀(n:Nat)(ty:Ty)(t:TypeId)(cs:List Value)(x:DataW H×List MemPlace),ty.ok P t=true->cs.length=ty.size->DataW.trod enc P w base sp held n t cs=some x->∃y:T,ty.is y/\qJb w y.cells cs:=by
 intro n
 induction n with
 |zero=>intro ty t cs x _ _ h;simp[DataW.trod]at h
 |succ n IH=>
  intro ty t cs x hty hlen h;cases ty with
  |int k=>
   obtain⟨m,rfl,_,hw⟩:=DataW.trod_int (jDc hty) h;exact⟨.int k m,⟨m,hw,rfl⟩,.one1 rfl (.int k m)⟩
  |bool=>
   simp only[Ty.ok]at hty;split at hty
   .rename_i hu;obtain⟨b,rfl,_⟩:=DataW.trod_bool hu h;exact⟨.bool b,⟨b,rfl⟩,.one1 rfl (.bool b)⟩
   .cases hty
  |str=>
   simp only[Ty.ok]at hty;split at hty
   .rename_i hu;obtain⟨s,rfl,_,hs⟩:=DataW.trod_string hu h;exact⟨.str s,⟨s,hs,rfl⟩,.one1 rfl (.str s)⟩
   .cases hty
  |sl e=>
   simp only[Ty.ok]at hty;split at hty
   .rename_i te hu;simp only[Bool.and_eq_true]at hty;obtain⟨⟨h1,h2⟩,h3⟩:=hty;have e2:=Nat.eq_of_beq_eq_true h2;have e3:=Nat.le_of_ble_eq_true h3;rcases DataW.trod_slice hu h with⟨rfl,_⟩|⟨a,len,cap,elems,rest,m,hm,rfl,_,_,hlc,hcm,hel,hget,_,_⟩
    .exact⟨.sl [],⟨[],sM,sM,rfl⟩,.one1 rfl .nil⟩
    .cases hm;have hcells:∀i,i<len->∃y:T,e.is y/\∃cs',qJb w y.cells cs'/\cs'.length=e.size/\∀j,j<e.size->w.cell? ((a.add (i*e.size)).add j)=cs'[j]?:=by
      intro i hi;have hg:=hget i hi;have:elems[i]?=some elems[i]:=getElem?_eq_getElem oM;rw[this,Option.bind_eq_some_iff]at hg;obtain⟨cs',hc,ht⟩:=hg;obtain⟨_,hl,hcell⟩:=World.cells?_some hc;rw[e2]at hl hcell;obtain⟨y,hy1,hy2⟩:=IH e te cs' _ h1 hl ht;exact⟨y,hy1,cs',hy2,hl,hcell⟩
     obtain⟨es,hes,hq⟩:=zFi len hcells;have hz:∀y∈es,y.cells.length=e.size:=λy hy=>by
      obtain⟨i,hi⟩:=getElem?_of_mem hy;exact e.is_size y (hq i y hi).1
     have hcellk:∀k,k<len*e.size->∃(i j:Nat)(y:T)(cs':List Value)(u:Value),k=i*e.size+j/\j<e.size/\es[i]?=some y/\qJb w y.cells cs'/\cs'[j]?=some u/\w.cell? (a.add k)=some u:=by
      intro k hk;have hi:k/e.size<len:=(Nat.div_lt_iff_lt_mul oM).2 hk;have hj:k%e.size<e.size:=Nat.mod_lt _ oM;have hy:es[k/e.size]?=some es[k/e.size]:=getElem?_eq_getElem oM;obtain⟨_,cs',hr,hl,hc⟩:=hq _ _ hy;have hu:cs'[k%e.size]?=some cs'[k%e.size]:=getElem?_eq_getElem oM;have ek:k=k/e.size*e.size+k%e.size:=by rw[Nat.mul_comm];exact(Nat.div_add_mod k e.size).symm
      refine⟨_,_,_,cs',_,ek,hj,hy,hr,hu,?_⟩;rw[<-hu,<-hc _ hj,Addr.add_add,<-ek]
     refine⟨.sl es,⟨es,oM,λy hy=>?_,rfl⟩,.one1 rfl ?_⟩
     .obtain⟨i,hi⟩:=getElem?_of_mem hy;exact(hq i y hi).1
     .have hnl:((List.range (len*e.size)).map λk=>(w.cell? (a.add k)).getD default).length=len*e.size:=sM;have hnews:∀k u,((List.range (len*e.size)).map λk=>(w.cell? (a.add k)).getD default)[k]?=some u->k<len*e.size/\w.cell? (a.add k)=some u:=by
       intro k u hu;have hk:k<len*e.size:=by
        rcases Nat.lt_or_ge k (len*e.size)with h|h
        .exact h
        .rw[getElem?_eq_none oM]at hu;cases hu
       obtain⟨_,_,_,_,u',_,_,_,_,_,hc⟩:=hcellk k hk;rw[getElem?_map,getElem?_range hk,Option.map_some,hc,Option.getD_some,Option.some.injEq]at hu;subst hu;exact⟨hk,hc⟩
      have h0:es≠[]->a.block<w.heap.size/\a.spot=none:=by
       intro hne;have hlp:0<len:=by
        rw[<-hes];exact length_pos_iff.2 hne
       obtain⟨_,_,_,_,u',_,_,_,_,_,hc⟩:=hcellk 0 (Nat.mul_pos hlp oM);have e9:a.add 0=a:=by simp[Addr.add]
       rw[e9]at hc;exact qV5 hc
      have key:=Rep.sl (F:=λb=>b<w.heap.size) (w:=w) es a cap e.size _ (λhne=>(h0 hne).2) oM (by rw[hes];exact hnl) (λu hu=>by
       obtain⟨k,hk⟩:=getElem?_of_mem hu;obtain⟨hk1,hk2⟩:=hnews k u hk;obtain⟨_,_,_,cs',u',_,_,_,hr,hcu,hc⟩:=hcellk k hk1;rw[hk2]at hc;cases hc;exact hr.one u (mem_of_getElem? hcu)) (λhne=>(h0 hne).1) (λk u hk=>(hnews k u hk).2) hz
       (λi y j c u hy hc hu=>by
        obtain⟨hk1,hk2⟩:=hnews _ u hu;obtain⟨i',j',y',cs',u',e1,hj',hy',hr,hcu,hc'⟩:=hcellk _ hk1;rw[hk2]at hc';cases hc';have hj:j<e.size:=by rw[<-hz y (mem_of_getElem? hy)];exact(List.getElem?_eq_some_iff.1 hc).1
        have ei:i=i'/\j=j':=by
         have h5:=congrArg (· / e.size) e1;have h6:=congrArg (· % e.size) e1;simp only[Nat.mul_comm _ e.size,Nat.mul_add_div (show 0<e.size by omega),Nat.mul_add_mod,Nat.div_eq_of_lt hj,Nat.div_eq_of_lt hj',Nat.mod_eq_of_lt hj,Nat.mod_eq_of_lt hj']at h5 h6;exact⟨oM,h6⟩
        obtain⟨rfl,rfl⟩:=ei;rw[hy]at hy';cases hy';exact hr.rep j c u hc hcu)
      rw[hes]at key;exact key
   .cases hty
  |st fs=>
   simp only[Ty.ok,Bool.and_eq_true]at hty;obtain⟨h0,hty⟩:=hty;have e0:=Nat.eq_of_beq_eq_true h0;split at hty
   .rename_i gs hu;obtain⟨xs,m,hm,_,hl,hxl,hget⟩:=DataW.trod_struct hu h;cases hm;obtain⟨ds,hd1,hd2⟩:=qWz n IH (cs:=cs) fs gs.toList 0 hty oM (λg hg=>by
     obtain⟨i,hi⟩:=getElem?_of_mem hg;have hi':gs[i]?=some g:=by simpa using hi
     have hlt:i<xs.length:=by rw[hxl];exact(Array.getElem?_eq_some_iff.1 hi').1
     exact⟨xs[i],by rw[hget i g hi'];exact getElem?_eq_getElem hlt⟩)
    rw[drop_zero]at hd2;exact⟨.agg ds,⟨ds,hd1,rfl⟩,hd2⟩
   .rename_i m te hu;simp only[Bool.and_eq_true]at hty;have e5:=Nat.eq_of_beq_eq_true hty.1;obtain⟨xs,m',hm,_,hl,hxl,hget⟩:=DataW.trod_array hu h;cases hm;obtain⟨ds,hd1,hd2⟩:=zAm n IH (cs:=cs) fs 0 hty.2 oM (λj hj=>by
     have hlt:j<xs.length:=oM;rw[Nat.zero_add];exact⟨xs[j],by rw[hget j oM];exact getElem?_eq_getElem hlt⟩)
    rw[Nat.zero_mul,drop_zero]at hd2;exact⟨.agg ds,⟨ds,hd1,rfl⟩,hd2⟩
   .cases hty
theorem zNq {ty:Ty}{t:TypeId}{v:Value}{d:DataW H}{ps:List MemPlace}{b0:Nat}(hty:ty.ok P t=true)(hval:Value.okWide P w .any b0 t v)(h:DataW.Trod enc P w base sp held t v d ps) :
  ∃y:T,ty.is y/\Rep (λb=>b<w.heap.size) w y v:=by
 obtain⟨n,hn⟩:=h;have scalar:∀c,v=c->c.cells = #[c]->ty.size=1->(∀y:T,ty.is y->y.cells=[y])->∃y:T,ty.is y/\Rep (λb=>b<w.heap.size) w y v:=by
  intro c hv hc hs hy;subst hv;rw[hc]at hn;obtain⟨y,h1,h2⟩:=zAn n ty t _ _ hty (by rw[hs];rfl) hn;rw[hy y h1]at h2;exact⟨y,h1,h2.rep 0 y v rfl rfl⟩
 cases ty with
 |int k=>
  obtain⟨m,hv⟩:=okWide_int (jDc hty) hval;exact scalar _ hv rfl rfl (λy hy=>by obtain⟨_,_,rfl⟩:=hy;rfl)
 |bool=>
  simp only[Ty.ok]at hty;split at hty
  .rename_i hu;obtain⟨m,hv⟩:=okWide_bool hu hval;exact scalar _ hv rfl rfl (λy hy=>by obtain⟨_,rfl⟩:=hy;rfl)
  .cases hty
 |str=>
  simp only[Ty.ok]at hty;split at hty
  .rename_i hu;obtain⟨m,hv⟩:=okWide_string hu hval;exact scalar _ hv rfl rfl (λy hy=>by obtain⟨_,_,rfl⟩:=hy;rfl)
  .cases hty
 |sl e=>
  have hty':=hty;simp only[Ty.ok]at hty';split at hty'
  .rename_i te hu;obtain⟨a,l,c,hv⟩:=okWide_slice hu hval;exact scalar _ hv rfl rfl (λy hy=>by obtain⟨_,_,_,rfl⟩:=hy;rfl)
  .cases hty'
 |st fs=>
  have hagg:∃cs,v=.agg cs/\cs.size=P.cellsOf t:=by
   have hty':=hty;simp only[Ty.ok,Bool.and_eq_true]at hty';obtain⟨_,h2⟩:=hty';unfold Value.okWide at hval;split at h2
   .rename_i hu;rw[hu]at hval;obtain⟨cs,h3,h4,_⟩:=hval;exact⟨cs,h3,h4⟩
   .rename_i hu;rw[hu]at hval;obtain⟨cs,h3,h4,_⟩:=hval;exact⟨cs,h3,h4⟩
   .cases h2
  obtain⟨cs,rfl,hsz⟩:=hagg;have hsz2:cs.size=Ty.sizeL fs:=by
   simp only[Ty.ok,Bool.and_eq_true]at hty;rw[hsz];exact Nat.eq_of_beq_eq_true hty.1
  obtain⟨y,h1,h2⟩:=zAn n (.st fs) t _ _ hty (by show cs.toList.length=Ty.sizeL fs;simpa using hsz2) hn;obtain⟨ds,h3,rfl⟩:=h1;refine⟨.agg ds,⟨ds,h3,rfl⟩,.agg ds cs ?_ ?_ ?_⟩
  .have:=h2.len;simpa [Value.cells,T.cells]using this.symm
  .intro u hu;exact h2.one u (by simpa [Value.cells]using hu)
  .intro i c u hc hu;exact h2.rep i c u hc (by simpa [Value.cells]using hu)
theorem zFf:∀{tys:List Ty}{ts:List TypeId}{vs:List Value}{ds:List (DataW H)}{ps:List MemPlace}{b0:Nat},xU (λ(ty:Ty)(t:TypeId)=>ty.ok P t=true) tys ts->
  (∀(j:Nat) t v,ts[j]?=some t->vs[j]?=some v->Value.okWide P w .any b0 t v)->DataW.TrodAll enc P w base sp held ts vs ds ps->
  ∃ys:List T,xU (λ(ty:Ty)(y:T)=>ty.is y) tys ys/\xU (qR (λ_=>none) (λb=>b<w.heap.size) w) (ys.map V.t) vs
 |[],ts,vs,ds,ps,b0,h,hv,hd=>by
  cases h;obtain⟨rfl,_,_⟩:=trodAll_nil hd;exact⟨[],.nil,.nil⟩
 |ty::tys,ts,vs,ds,ps,b0,h,hv,hd=>by
  cases h with
  |cons h1 h2=>
   obtain⟨v,vs',d,ds',p,q,rfl,rfl,rfl,hd1,hd2⟩:=trodAll_cons hd;obtain⟨y,hy1,hy2⟩:=zNq h1 (hv 0 _ v rfl rfl) hd1;obtain⟨ys,h3,h4⟩:=zFf h2 (λj t v' ht hv'=>hv (j+1) t v' ht hv') hd2;exact⟨y::ys,.cons hy1 h3,.cons (.t hy2) h4⟩
end
end Go.Eng
end
section
set_option maxRecDepth 20000
namespace Go.Eng
open List
open Go.ChangeShapes Go.WideShapes Go.RowKit Go.WideElems
section
variable {H:Type}{enc:TypeId×Value->H}{P:Program}
theorem zIn {W W':World}(hfr:∀b,b<W.heap.size->W'.heap[b]?=W.heap[b]?){p:MemPlace}(hp:p.block<W.heap.size):W.sameAt W' p:=by
 cases p with
 |cell b off=>exact World.cell?_of_block (hfr b hp)
 |map b=>exact hfr b hp
theorem zD5 (hl:laidOutB P=true){W W':World}(hfr:∀b,b<W.heap.size->W'.heap[b]?=W.heap[b]?){sp:Nat->Bool} :
  ∀{ts:List TypeId}{vs:List Value}{ds:List (DataW H)}{ps:List MemPlace},(∀t∈ts,P.readableRec t=true/\t<P.types.size)->(∀p∈ps,p.block<W.heap.size/\sp p.block=true)->
   DataW.TrodAll enc P W 0 (λ_=>true) true ts vs ds ps->DataW.TrodAll enc P W' 0 sp true ts vs ds ps
 |[],vs,ds,ps,_,_,h=>by
  obtain⟨rfl,rfl,rfl⟩:=trodAll_nil h;exact trodAll_mk0
 |t::ts,vs,ds,ps,ht,hp,h=>by
  obtain⟨v,vs',d,ds',p,q,rfl,rfl,rfl,h1,h2⟩:=trodAll_cons h;obtain⟨hr,hrow⟩:=ht t (.head _);exact⟨p,q,Trod_stays hl hr hrow h1 (λx hx=>zIn hfr (hp x (mem_append_left _ hx)).1) (λx hx=>(hp x (mem_append_left _ hx)).2),
   zD5 hl hfr (λt' ht'=>ht t' (.tail _ ht')) (λx hx=>hp x (mem_append_right _ hx)) h2,rfl⟩
theorem zYe {fn:Func}{s:ChangeSpec}{tb:TypeId}{apart fresh handsOn again:Bool}{W W':World}{args:Array Value}{ds gs:List (DataW H)}{before:List MemPlace}
  (hl:laidOutB P=true) (hts:∀t∈fn.params.toList,P.readableRec t=true/\t<P.types.size) (hrt:fn.resultTypes = #[tb]) (hb:P.underlying tb=some .bool) (hsv:s.vars=[])
  (hfn:(s.fn H (ds++gs)).results=[.lit (.bool true)]/\(s.fn H (ds++gs)).args=ds/\(s.fn H (ds++gs)).vars=[])
  (hW:DataW.Whole enc P fn.params.toList s.vars apart W args.toList ds gs before)
  (hos:W'.os=W.os) (hout:W'.output=W.output) (hfr:∀b,b<W.heap.size->W'.heap[b]?=W.heap[b]?) :
  s.post enc P fn apart fresh handsOn again W args (.bool true) W':=by
 have hlt:∀p∈before,p.block<W.heap.size:=λp hp=>hW.lt p hp
 have hW':=hW;obtain⟨p,q,hA,hV,rfl,hz,hn⟩:=hW';rw[hsv]at hV;obtain⟨rfl,rfl⟩:=trodVars_none hV;have hres:∀(b:Nat)(sp:Nat->Bool)(hd:Bool),DataW.TrodAll enc P W' b sp hd fn.resultTypes.toList ((Value.bool true).resultList fn.resultTypes.size) (s.fn H (ds++[])).results []:=by
  intro b sp hd;rw[hrt,hfn.1];exact trodAll_mk1 (shut_bool hb true)
 have hargs:∀sp:Nat->Bool,(∀x∈p++[],sp x.block=true)->DataW.TrodAll enc P W' 0 sp true fn.params.toList args.toList (s.fn H (ds++[])).args p:=by
  intro sp hsp;rw[hfn.2.1];exact zD5 hl hfr hts (λx hx=>⟨hlt x (by simpa using hx),hsp x (by simpa using hx)⟩) hA
 have hvars:∀sp:Nat->Bool,DataW.TrodVars enc P W' sp s.vars (s.fn H (ds++[])).vars []:=by
  intro sp;rw[hsv,hfn.2.2];rfl
 refine⟨ds,[],_,[],p,[],hW,hres _ _ _,hargs _ (λx hx=>by simpa using hlt x hx),hvars _,⟨hos,hout,λi hi=>?_⟩,λ_=>?_⟩
 .have e:=hfr i hi;revert e;generalize W'.heap[i]?=o';intro e;subst e;split
  .rename_i h1 h2;rw[h1]at h2;cases h2;exact⟨rfl,rfl,rfl,λ_ _=>rfl⟩
  .rename_i h1 h2;rw[h1]at h2;cases h2;exact .inr ⟨rfl,rfl⟩
  .rfl
 .refine⟨ok_one hrt rfl (okWide_bool_mk hb _),_,_,([]++p)++[],⟨[]++p,[],trodAll_append (hargs _ (λ_ _=>rfl)) (hres _ _ _),hvars _,rfl,?_,?_⟩,?_⟩
  .intro b off hx;have hx':MemPlace.cell b off∈p++[]:=by simpa using hx
   have e:W'.frozen? ⟨b,off,none⟩=W.frozen? ⟨b,off,none⟩:=by
    unfold World.frozen?;rw[hfr b (hlt _ hx')]
   rw[e];exact hz b off hx'
  .intro ha;have:=hn ha;simpa using this
  .intro x hx _;simpa using hx
theorem qQt {w:World}:∀{laid:List (String×DataW Unit)}{ps:List MemPlace},DataW.LaidVars P w laid ps->∀x∈laid,∃g t cs fuel p,P.globalNamed x.1=some g/\(P.globals[g]?).map (·.type)=some t/\w.var? P x.1=some cs/\
   DataW.trod (λ_=>()) P w 0 (λ_=>true) false fuel t cs.toList=some (x.2,p)
 |[],_,_,x,hx=>by cases hx
 |y::r,ps,h,x,hx=>by
  obtain⟨g,t,cs,fuel,p,q,h1,h2,h3,h4,h5,_⟩:=h;rcases mem_cons.1 hx with rfl|hx
  .exact⟨g,t,cs,fuel,p,h1,h2,h3,h4⟩
  .exact qQt h5 x hx
theorem zTl {w:World}{nm:String}{g t e n:Nat}{k:IntKind}{ns:List Int}{cs:Array Value}{fuel:Nat}{p:List MemPlace}{F:Nat->Prop}(hg:P.globalNamed nm=some g)(hv:w.var? P nm=some cs)
  (ht:P.underlying t=some (.array n e)) (he:P.underlying e=some (.int k)) (hc:P.cellsOf e=1) (hct:P.cellsOf t=n) (hn:0<ns.length)
  (h:DataW.trod (λ_=>()) P w 0 (λ_=>true) false fuel t cs.toList=some (.agg (ns.map λm=>.lit (.int k m)),p)) (hF:g<w.heap.size->F g) :
  qR (λ_=>none) F w (.ro (ns.map (T.int k))) (.pointer (some ⟨g,0,none⟩)):=by
 obtain⟨xs,m,_,hx,hl,hxl,hget⟩:=DataW.trod_array ht h;simp only[Prod.mk.injEq,DataW.agg.injEq]at hx;have hlen:ns.length=n:=by
  have:=congrArg List.length hx.1;simp only[length_map]at this;omega
 have hcl:cs.toList.length=n:=by rw[hl,hct]
 have hcell:∀i,i<n->cs.toList[i]?=some (.int k (ns.getD i 0)):=by
  intro i hi;have h1:=hget i hi;have h2:xs[i]?=some xs[i]:=getElem?_eq_getElem oM;rw[h2,hc,Nat.mul_one]at h1;obtain⟨z,hz1,hz2,_⟩:=DataW.trod_int he h1;have h3:cs.toList[i]?=some (.int k z):=by
   have h4:=congrArg (λl=>l[0]?) hz1;simp only[getElem?_take,getElem?_drop,Nat.add_zero,getElem?_cons_zero]at h4;simpa using h4
  have h5:=congrArg (λl=>l[i]?) hx.1;simp only[getElem?_map,h2,oms,hz2]at h5;have h6:ns[i]?=some ns[i]:=getElem?_eq_getElem oM;rw[h6]at h5;simp only[oms,Option.some.injEq,DataW.lit.injEq,Lit.int.injEq,true_and]at h5;rw[h3,getD_eq_getElem?_getD,h6,h5];rfl
 have hw:∀j,w.cell? ((⟨g,0,none⟩:Addr).add j)=cs.toList[j]?:=by
  intro j;have e:(⟨g,0,none⟩:Addr).add j=⟨g,j,none⟩:=by
   unfold Addr.add;split
   .rename_i h0;rw[h0]
   .simp
  rw[e,World.var?_cell hg hv j,Array.getElem?_toList]
 refine .ro (ns.map (T.int k)) ⟨g,0,none⟩ cs.toList rfl (by rw[hcl,length_map,hlen]) ?_ (hF ?_) (λj u hu=>(hw j).trans hu) ?_
 .intro u hu;obtain⟨i,hi⟩:=getElem?_of_mem hu;rw[hcell i (by rw[<-hcl];exact(List.getElem?_eq_some_iff.1 hi).1)]at hi;cases hi;rfl
 .have h0:=hw 0;rw[hcell 0 oM]at h0;have:=(qV5 h0).1;rw[qCx]at this;exact this
 .intro j c u hcj hu;rw[getElem?_map,Option.map_eq_some_iff]at hcj;obtain⟨z,hz,rfl⟩:=hcj;rw[hcell j (by rw[<-hlen];exact(List.getElem?_eq_some_iff.1 hz).1)]at hu;cases hu;rw[getD_eq_getElem?_getD,hz];exact .int k z
theorem zRt {w:World}{nm:String}{g t e n:Nat}{k:IntKind}{ns:List Int}{cs:Array Value}{fuel:Nat}{p:List MemPlace}(hg:P.globalNamed nm=some g)(hv:w.var? P nm=some cs)
  (ht:P.underlying t=some (.array n e)) (hct:P.cellsOf t=n)
  (h:DataW.trod (λ_=>()) P w 0 (λ_=>true) false fuel t cs.toList=some (.agg (ns.map λm=>.lit (.int k m)),p)):GSz w g (ns.map (T.int k)).length:=by
 obtain⟨xs,m,_,hx,hl,hxl,hget⟩:=DataW.trod_array ht h;simp only[Prod.mk.injEq,DataW.agg.injEq]at hx;have hlen:ns.length=n:=by
  have:=congrArg List.length hx.1;simp only[length_map]at this;omega
 have hcl:cs.toList.length=n:=by rw[hl,hct]
 unfold World.var? at hv;rw[hg,Option.bind_some]at hv;split at hv
 .rename_i c e z hc;cases hv;exact⟨_,e,z,hc,by rw[length_map,hlen,<-hcl];simp⟩
 .cases hv
theorem qM0 {w:World}{base:Nat}{sp:Nat->Bool}{held:Bool}:∀{ts:List TypeId}{vs:List Value}{ds:List (DataW H)}{ps:List MemPlace},DataW.TrodAll enc P w base sp held ts vs ds ps->ds.length=ts.length
 |[],_,_,_,h=>by obtain⟨rfl,rfl,rfl⟩:=trodAll_nil h;rfl
 |_::_,_,_,_,h=>by
  obtain⟨_,_,_,_,_,_,rfl,rfl,rfl,_,h2⟩:=trodAll_cons h;simp[qM0 h2]
end
theorem zNo {H:Type}{enc:TypeId×Value->H}{C:Checked}{os:Os}{f:FuncId}{fn:Func}{s:ChangeSpec}{laid:List (String×DataW Unit)}{tys:List Ty}{G:Nat->Option (List T)}{tb:TypeId}{apart fresh handsOn again:Bool}
  (own:ownKnob C.prog.godebug=none) (started:os.Started) (noInit:C.prog.inits.idxOf? f=none) (hfn:C.prog.funcs[f]?=some fn)
  (witness:∃(w:World)(tape:Tape)(i:Input),w.os=os/\(w.forCall tape i).Shaped C.prog/\i.vars=[]/\Input.okWide C.prog (w.forCall tape i) .any w.heap.size f i/\
   ((s.pre enc C.prog fn [] apart (w.forCall tape i).memory i.args/\laidMetH C.prog laid (w.forCall tape i).memory)/\sizedMet enc C.prog fn (OpenSpec.ofChange s) apart (w.forCall tape i).memory i.args)/\({}:Assume).holds C.prog (lone (Frame.enter C.prog f i.args .normal) [] (w.forCall tape i)))
  (hl:laidOutB C.prog=true) (hts:fn.params.toList.all (λt=>C.prog.readableRec t&&Nat.blt t C.prog.types.size)=true) (hrt:fn.resultTypes = #[tb]) (hb:C.prog.underlying tb=some .bool) (hsv:s.vars=[])
  (hspec:∀ds:List (DataW H),ds.length=tys.length->(s.fn H ds).results=[.lit (.bool true)]/\(s.fn H ds).args=ds/\(s.fn H ds).vars=[])
  (htys:xU (λ(ty:Ty)(t:TypeId)=>ty.ok C.prog t=true) tys fn.params.toList)
  (henv:∀W,laidMetH C.prog laid W->zPk G (λb=>b<W.heap.size) W)
  (hlaw:∀ys,xU (λ(ty:Ty)(y:T)=>ty.is y) tys ys->zJz C.prog G f (ys.map V.t) [] (.t (.bool true)) []) :
  ReturnsInHanded {} C os f .any (λw args=>(s.pre enc C.prog fn [] apart w args/\laidMetH C.prog laid w)/\sizedMet enc C.prog fn (OpenSpec.ofChange s) apart w args) (s.post enc C.prog fn apart fresh handsOn again):=by
 have hts':∀t∈fn.params.toList,C.prog.readableRec t=true/\t<C.prog.types.size:=by
  intro t ht;have:=all_eq_true.1 hts t ht;rw[Bool.and_eq_true]at this;exact⟨this.1,by simpa [Nat.blt_eq]using this.2⟩
 refine returnsInHanded_of_change_and (C:=C) (X:=λw _=>laidMetH C.prog laid w) (λ_ _ _ hh h=>laidMetH.of_heap hh h) own started noInit hfn witness ?_;intro W base args ds gs before hval hW _ _ hL _;have hW':=hW;obtain⟨p,q,hA,hV,rfl,_,_⟩:=hW';rw[hsv]at hV;obtain⟨rfl,rfl⟩:=trodVars_none hV;obtain⟨ys,hys,hreps⟩:=zFf htys (λj t v ht hv=>hval j t v (by simpa using ht) (by simpa using hv)) hA;have hlen:ds.length=tys.length:=by rw[qM0 hA,htys.length]
 have hcall:=hlaw ys hys W (λ_=>none) (λb=>b<W.heap.size) args (henv W hL)
  ⟨λk o h=>by simp at h,λ_ _=>rfl,λ_ _ _ _ _ h=>by simp at h,λ_ _ _ h=>by simp at h⟩ hreps
 refine hcall.mono λe W' ⟨x,β',F',he,hp⟩=>?_
 subst he;have hx:x=.bool true:=by
  have:=hp.res;cases this with
  |t h=>cases h;rfl
 subst hx;exact⟨_,rfl,zYe hl hts' hrt hb hsv (by rw[append_nil];exact hspec ds hlen) hW hp.os hp.output (λb hb=>hp.frame b hb (λ_ _ h=>by simp at h))⟩
end Go.Eng
end
section
set_option maxRecDepth 20000
namespace Go.Eng
open List
open Go.ChangeShapes Go.WideShapes Go.RowKit Go.WideElems
theorem zAf {α β:Type}{f:α->β}{m:Nat}:∀{rows:List (List α)}{l:List β},l.length=rows.length*m->(∀r∈rows,r.length=m)->(∀i j,i<rows.length->j<m->l[i*m+j]?=((rows[i]?).bind (·[j]?)).map f)->l=rows.flatten.map f
 |[],l,hl,_,_=>by
  have:l.length=0:=by simpa using hl
  rw[length_eq_zero_iff.1 this];rfl
 |r::rs,l,hl,hr,h=>by
  have hlr:=hr r (.head _);have hl':l.length=m+rs.length*m:=by rw[hl,length_cons,Nat.succ_mul,Nat.add_comm]
  have e1:l.take m=r.map f:=by
   refine ext_getElem? λj=>?_
   by_cases hj:j<m
   .have:=h 0 j sM hj;simp only[Nat.zero_mul,Nat.zero_add,getElem?_cons_zero,Option.bind_some]at this;rw[getElem?_take_of_lt hj,this,getElem?_map]
   .rw[getElem?_eq_none (by rw[length_take];omega),getElem?_eq_none (by rw[length_map];omega)]
  have e2:l.drop m=rs.flatten.map f:=by
   refine zAf (m:=m) (by rw[length_drop];omega) (λx hx=>hr x (.tail _ hx)) λi j hi hj=>?_
   have:=h (i+1) j soM hj;rw[getElem?_drop,<-Nat.add_assoc,Nat.add_comm m,<-Nat.succ_mul,this,getElem?_cons_succ]
  rw[flatten_cons,map_append,<-e1,<-e2,take_append_drop]
variable {P:Program}
theorem zMl {w:World}{t e n m:Nat}{k:IntKind}{rows:List (List Int)}{cs:List Value}{fuel:Nat}{p:List MemPlace}{fs:Array Field}
  (ht:P.underlying t=some (.array n e)) (he:P.underlying e=some (.struct fs)) (hc:P.cellsOf e=m) (hfs:fs.size=m) (hm:0<m)
  (hf:∀j<m,∃f,fs[j]?=some f/\f.offset=j/\P.cellsOf f.type=1/\P.underlying f.type=some (.int k)) (hct:P.cellsOf t=n*m) (hr:∀r∈rows,r.length=m)
  (h:DataW.trod (λ_=>()) P w 0 (λ_=>true) false fuel t cs=some (.agg (rows.map λr=>.agg (r.map λx=>.lit (.int k x))),p)):rows.length=n/\cs=rows.flatten.map (Value.int k):=by
 obtain⟨xs,q,_,hx,hl,hxl,hget⟩:=DataW.trod_array ht h;simp only[Prod.mk.injEq,DataW.agg.injEq]at hx;have hlen:rows.length=n:=by
  have:=congrArg List.length hx.1;simp only[length_map]at this;omega
 refine⟨hlen,zAf (m:=m) (by rw[hl,hct,hlen]) hr λi j hi hj=>?_⟩;have h1:=hget i oM;have h2:xs[i]?=some xs[i]:=getElem?_eq_getElem oM;rw[h2,hc]at h1;obtain⟨ys,q',_,hy,hyl,hysz,hyg⟩:=DataW.trod_struct he h1;obtain⟨f,f1,f2,f3,f4⟩:=hf j hj;have g1:=hyg j f f1;have g2:ys[j]?=some ys[j]:=getElem?_eq_getElem oM;rw[g2,f2,f3]at g1;obtain⟨z,hz1,hz2,_⟩:=DataW.trod_int f4 g1;have h3:cs[i*m+j]?=some (.int k z):=by
  have h4:=congrArg (λl=>l[0]?) hz1;simp only[getElem?_take,getElem?_drop,getElem?_cons_zero]at h4;have h5:0<1:=oM;simp only[h5,if_true,Nat.add_zero,hj]at h4;exact h4
 have hri:rows[i]?=some rows[i]:=getElem?_eq_getElem hi;have h5:=congrArg (λl=>l[i]?) hx.1;simp only[getElem?_map,h2,hri,oms]at h5;have hy1:=congrArg (·.1) hy;simp only at hy1;rw[hy1]at h5;simp only[Option.some.injEq,DataW.agg.injEq]at h5;have h6:=congrArg (λl=>l[j]?) h5;simp only[getElem?_map,g2,oms]at h6;have hrl:=hr rows[i] (getElem_mem hi);have hrj:(rows[i])[j]?=some ((rows[i])[j]'(oM)):=getElem?_eq_getElem oM;rw[hrj]at h6;simp only[oms,Option.some.injEq,hz2,DataW.lit.injEq,Lit.int.injEq,true_and]at h6;rw[h3,hri,Option.bind_some,hrj,Option.map_some,h6]
theorem zNw {w:World}{nm:String}{g t e n m:Nat}{k:IntKind}{rows:List (List Int)}{cs:Array Value}{fuel:Nat}{p:List MemPlace}{fs:Array Field}{F:Nat->Prop}(hg:P.globalNamed nm=some g)(hv:w.var? P nm=some cs)
  (ht:P.underlying t=some (.array n e)) (he:P.underlying e=some (.struct fs)) (hc:P.cellsOf e=m) (hfs:fs.size=m) (hm:0<m)
  (hf:∀j<m,∃f,fs[j]?=some f/\f.offset=j/\P.cellsOf f.type=1/\P.underlying f.type=some (.int k)) (hct:P.cellsOf t=n*m) (hr:∀r∈rows,r.length=m) (hn:0<rows.flatten.length)
  (h:DataW.trod (λ_=>()) P w 0 (λ_=>true) false fuel t cs.toList=some (.agg (rows.map λr=>.agg (r.map λx=>.lit (.int k x))),p)) (hF:g<w.heap.size->F g) :
  qR (λ_=>none) F w (.ro (rows.flatten.map (T.int k))) (.pointer (some ⟨g,0,none⟩)):=by
 obtain⟨_,hcs⟩:=zMl ht he hc hfs hm hf hct hr h;have hw:∀j,w.cell? ((⟨g,0,none⟩:Addr).add j)=cs.toList[j]?:=by
  intro j;have e:(⟨g,0,none⟩:Addr).add j=⟨g,j,none⟩:=by
   unfold Addr.add;split
   .rename_i h0;rw[h0]
   .simp
  rw[e,World.var?_cell hg hv j,Array.getElem?_toList]
 refine .ro (rows.flatten.map (T.int k)) ⟨g,0,none⟩ cs.toList rfl (by rw[hcs,length_map,length_map]) ?_ (hF ?_) (λj u hu=>(hw j).trans hu) ?_
 .intro u hu;rw[hcs,mem_map]at hu;obtain⟨z,_,rfl⟩:=hu;rfl
 .have h0:=hw 0;rw[hcs,getElem?_map,getElem?_eq_getElem hn,Option.map_some]at h0;have:=(qV5 h0).1;rw[qCx]at this;exact this
 .intro j c u hcj hu;rw[getElem?_map,Option.map_eq_some_iff]at hcj;obtain⟨z,hz,rfl⟩:=hcj;rw[hcs,getElem?_map,hz,Option.map_some]at hu;cases hu;exact .int k z
theorem zNi {w:World}{nm:String}{g t e n m:Nat}{k:IntKind}{rows:List (List Int)}{cs:Array Value}{fuel:Nat}{p:List MemPlace}{fs:Array Field}(hg:P.globalNamed nm=some g)(hv:w.var? P nm=some cs)
  (ht:P.underlying t=some (.array n e)) (he:P.underlying e=some (.struct fs)) (hc:P.cellsOf e=m) (hfs:fs.size=m) (hm:0<m)
  (hf:∀j<m,∃f,fs[j]?=some f/\f.offset=j/\P.cellsOf f.type=1/\P.underlying f.type=some (.int k)) (hct:P.cellsOf t=n*m) (hr:∀r∈rows,r.length=m)
  (h:DataW.trod (λ_=>()) P w 0 (λ_=>true) false fuel t cs.toList=some (.agg (rows.map λr=>.agg (r.map λx=>.lit (.int k x))),p)):GSz w g (rows.flatten.map (T.int k)).length:=by
 obtain⟨_,hcs⟩:=zMl ht he hc hfs hm hf hct hr h;unfold World.var? at hv;rw[hg,Option.bind_some]at hv;split at hv
 .rename_i c e z hc;cases hv;refine⟨_,e,z,hc,?_⟩;have:=congrArg List.length hcs;rw[length_map]at this;rw[length_map,<-this];simp
 .cases hv
end Go.Eng
end
