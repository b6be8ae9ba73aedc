/- A part of an abstract machine, its walks, their tie. -/
import Derived.Test.YtekghmfbgbhobaaGreatDoorRows
import Derived.KernelRfl
import Derived.Test.YtekghmfbgbhobaaGreatDoorD39
import Derived.Test.YtekghmfbgbhobaaGreatDoorD28
import Derived.Test.YtekghmfbgbhobaaGreatDoorD40
import Derived.Test.YtekghmfbgbhobaaGreatDoorD41
import Derived.Test.YtekghmfbgbhobaaGreatDoorD42
import Derived.Test.YtekghmfbgbhobaaGreatDoorD43
import Derived.Test.YtekghmfbgbhobaaGreatDoorD20
import Derived.Test.YtekghmfbgbhobaaGreatDoorD9
import Derived.WideKeyArgs
import Derived.Handed
import Derived.OpenShut
import Derived.RowKit
import Derived.ProofKit
import Derived.LaidMore
import Derived.MakeChecks
import Derived.Stop.Joined
import Derived.Test.YtekghmfbgbhobaaGreatDoorTie
import Derived.Test.YtekghmfbgbhobaaGreatDoorCards
import Derived.SevenTiedAt
import Derived.Test.YtekghmfbgbhobaaGreatDoorD18
set_option linter.all false
section
set_option maxRecDepth 100000
namespace Go.Eng
open Go.Proofs Go.Proofs.YtekghmfbgbhobaaGreatDoor
def gl0:Gl:=fun g=>if g=1 then some (zDd.map jE) else none
abbrev TO (t:Tab):Prop:=qG5 Tryz.prog gl0 t
structure TT where
 t:Tab
 h:TO t
def T0:TT:=⟨[],qG5.nil⟩
noncomputable section
def aE {n:Nat}{E:ECt}(T:TT)(h : ∃ g:EF E,FOk Tryz.prog gl0 n (E.fs g)):TT:=⟨(n,E.fs h.choose)::T.t,.cons h.choose_spec T.h⟩
def aF {n:Nat}{f:FnS}(T:TT)(h:FOk Tryz.prog gl0 n f):TT:=⟨(n,f)::T.t,.cons h T.h⟩
abbrev Cl (n:Nat)(fn:Func)(rs:List (Nat×Option (Nat×Bool))):Prop:=Tryz.prog.funcs[n]?=some fn∧(fn.name == "runtime.NumGoroutine")=false∧fn.body=some (fn.body.getD .skip)∧Tryz.prog.follows .mixedOrders=true∧qQs Tryz.prog fn.results.toList=some rs
def xE (n:Nat)(T:TT)(E:ECt){fn:Func}{h:List (Nat×List Nat)}{rs:List (Nat×Option (Nat×Bool))}(c:AF fn h)(w : ∀ x,E.pre x→c.1.wp T.t gl0 (qE 0 (E.aS x)) (qE 0 (E.ins x)) (qX rs (E.ins x).length (E.K x)))(k:Cl n fn rs:=by exact⟨by kernel_rfl,by kernel_rfl,by kernel_rfl,by kernel_rfl,by kernel_rfl⟩)(z:c.1.strict=true:=by kernel_rfl)(u : ∀ x,(E.aS x).length≤fn.ntmps:=by exact fun _=>Nat.le_of_ble_eq_true (by kernel_rfl))(v : ∀ x,(E.ins x).length≤100:=by exact fun _=>Nat.le_of_ble_eq_true (by kernel_rfl)):TT:=aE (n:=n) T (jQb _ _ _ _ T.h E w k.1 k.2.1 k.2.2.1 c.2 k.2.2.2.1 k.2.2.2.2 z u v)
def xG (n:Nat)(T:TT)(E:ECt){fn:Func}{h:List (Nat×List Nat)}{rs:List (Nat×Option (Nat×Bool))}(c:AF fn h)(w : ∀ x,E.pre x→c.1.wp T.t gl0 (qE 0 (E.aS x)) (qE 0 (E.ins x)) (xS [] rs (E.ins x).length (E.K x)))(k:Cl n fn rs:=by exact⟨by kernel_rfl,by kernel_rfl,by kernel_rfl,by kernel_rfl,by kernel_rfl⟩)(z:c.1.strict=true:=by kernel_rfl)(u : ∀ x,(E.aS x).length≤fn.ntmps:=by exact fun _=>Nat.le_of_ble_eq_true (by kernel_rfl))(v : ∀ x,(E.ins x).length≤100:=by exact fun _=>Nat.le_of_ble_eq_true (by kernel_rfl)):TT:=aE (n:=n) T (jQc [] _ _ _ _ T.h E w k.1 k.2.1 k.2.2.1 c.2 k.2.2.2.1 k.2.2.2.2 z u v)
def xW (n:Nat)(T:TT)(E:Ct){fn:Func}{h:List (Nat×List Nat)}{rs:List (Nat×Option (Nat×Bool))}(c:AF fn h)(w : ∀ x,E.pre x→c.1.wp T.t gl0 (qE 0 (E.aS x)) (qE 0 (E.ins x)) (qX rs (E.ins x).length (fun r' o'=>r'=E.r x∧o'=E.outs x)))(k:Cl n fn rs:=by exact⟨by kernel_rfl,by kernel_rfl,by kernel_rfl,by kernel_rfl,by kernel_rfl⟩)(u : ∀ x,(E.aS x).length≤fn.ntmps:=by exact fun _=>Nat.le_of_ble_eq_true (by kernel_rfl))(v : ∀ x,(E.ins x).length≤100:=by exact fun _=>Nat.le_of_ble_eq_true (by kernel_rfl)):TT:=aF (n:=n) T (jXe k.1 k.2.1 k.2.2.1 c.2 k.2.2.2.1 T.h k.2.2.2.2 E u v w)
def xF (fz:List Nat)(n:Nat)(T:TT)(E:Ct){fn:Func}{h:List (Nat×List Nat)}{rs:List (Nat×Option (Nat×Bool))}(c:AF fn h)(w : ∀ x,E.pre x→c.1.wp T.t gl0 (qE 0 (E.aS x)) (qE 0 (E.ins x)) (xS fz rs (E.ins x).length (fun r' o'=>r'=E.r x∧o'=E.outs x)))(k:Cl n fn rs:=by exact⟨by kernel_rfl,by kernel_rfl,by kernel_rfl,by kernel_rfl,by kernel_rfl⟩)(u : ∀ x,(E.aS x).length≤fn.ntmps:=by exact fun _=>Nat.le_of_ble_eq_true (by kernel_rfl))(v : ∀ x,(E.ins x).length≤100:=by exact fun _=>Nat.le_of_ble_eq_true (by kernel_rfl)):TT:=aF (n:=n) T (jXc fz k.1 k.2.1 k.2.2.1 c.2 k.2.2.2.1 T.h k.2.2.2.2 E u v w)
def T1:=xW 70 T0 qVn qGa fun _ _=>zCv T0.t _
def T2:=xF [] 80 T1 qR2 qMr fun x _=>zNz T1.t _ x
def T3:=xF [] 128 T2 qP6 qHn fun x hx=>zF9 T2.t _ x hx
def T4:=xW 178 T3 qIj qF6 fun x hx=>zCu T3.t _ x.1 x.2 hx.1 hx.2
def T5:=xW 179 T4 qR5 qAb fun x hx=>qPr T4.t _ x.1 x.2 hx
def T6:=xW 129 T5 (qA4 5 qD3) wT fun x hx=>qPw T5.t _ rfl rfl x hx
def T7:=xF [] 130 T6 qBz qDb fun x hx=>qXh T6.t _ x hx
def T8:=xW 131 T7 (qA4 8 kT) kY fun x hx=>qMe T7.t _ rfl rfl rfl x.2 x.1 hx.1 hx.2
def T9:=xF [] 100 T8 qGv xU fun x hx=>zF8 T8.t _ rfl rfl rfl rfl x.1 hx.1 x.2 hx.2
def T10:=xF [] 101 T9 zAo qJs fun x hx=>zI9 T9.t _ x.1 x.2 hx
def T11:=xF [] 81 T10 qS9 qRv fun x hx=>zTi T10.t _ rfl rfl x.1 x.2 hx.1 hx.2
def T12:=xW 41 T11 qBy qDt fun x hx=>zGa T11.t _ rfl rfl x.1 x.2.1 x.2.2.1 x.2.2.2 hx.1 hx.2.1 hx.2.2.1 hx.2.2.2
def T13:=xW 27 T12 qR6 qBf fun x hx=>zJr T12.t _ rfl rfl x.1 x.2 hx
def T14:=xE 14 T13 qDj qIf fun s hp=>zF6 T13.t _ s
def T15:=xW 76 T14 xN qAk fun x _=>zCt T14.t _ x
def T16:=xW 177 T15 qL0 qDs fun x hx=>zF7 T15.t _ x hx
def T17:=xW 126 T16 qL0 qMq fun x hx=>zNw T16.t _ rfl x hx
def T18:TT:=aF T17 (show FOk Tryz.prog gl0 127 zDp.fs from jJl (fn:=Tryz.f127) (ps := #[3]) (t:=22) (e:=5) (by kernel_rfl) (by kernel_rfl) (by kernel_rfl) (by kernel_rfl) (by kernel_rfl) (by kernel_rfl))
def T19:=xF [] 96 T18 qP7 qEa fun x hx=>qY0 T18.t _ rfl rfl x.1 x.2 hx
def T20:=xF [] 75 T19 wP qCk fun x hx=>qUd T19.t _ rfl x.2 x.1 hx
def T21:=xF [] 36 T20 wQ jT fun x hx=>qUf T20.t _ rfl rfl x
def T22:=xF [] 77 T21 jP vF fun x hx=>qS4 T21.t _ x hx
def T23:=xW 37 T22 qBg yP fun x hx=>qPx T22.t _ rfl rfl rfl x hx
def T24:=xE 15 T23 qDm jU fun ⟨s,m⟩ hp=>qXf T23.t _ rfl rfl s m hp
def T25:=xE 9 T24 qKn qF9 fun _ hp=>zBw T24.t _ rfl rfl rfl
def T26:=xF [] 29 T25 qM1 qJr fun x hx=>zI8 T25.t _ x hx
def T27:=xF [] 82 T26 qR2 qJ6 fun x _=>zJk T26.t _ x
def T28:=xW 132 T27 qUk qCi fun _ _=>qUa T27.t _
def T29:=xF [] 133 T28 qP6 qMs fun x hx=>zN1 T28.t _ x hx
def T30:=xW 134 T29 qIj qJ3 fun x hx=>zJj T29.t _ x.1 x.2 hx.1 hx.2
def T31:=xW 135 T30 zAr qJ2 fun x hx=>zJi T30.t _ x.1 x.2 hx
def T32:=xF [] 136 T31 qBz qHz fun x hx=>zGd T31.t _ x hx
def T33:=xF [] 102 T32 (qJh 32 yK) qGi fun x hx=>zCy T32.t _ rfl rfl rfl rfl rfl x hx
def T34:=xF [] 83 T33 qS9 qMt fun x hx=>zN2 T33.t _ rfl x.1 x.2 hx.1 hx.2
def T35:=xW 43 T34 qBy qCy fun x hx=>zCz T34.t _ rfl rfl x.1 x.2.1 x.2.2.1 x.2.2.2 hx.1 hx.2.1 hx.2.2.1 hx.2.2.2
def T36:=xW 71 T35 qVn qJu fun _ _=>zJa T35.t _
def T37:=xW 28 T36 qR6 qBc fun x hx=>zJb T36.t _ rfl rfl x.1 x.2 hx
def T38:=xE 11 T37 qDj qHv fun s hp=>zFg T37.t _ s
def T39:=xW 98 T38 xN qC1 fun x _=>zJf T38.t _ x
def T40:=xF [] 97 T39 wP qFu fun x hx=>zGm T39.t _ x hx
def T41:=xF [] 78 T40 qE3 qEt fun x hx=>qY9 T40.t _ rfl rfl x.1 hx x.2
def T42:=xF [] 38 T41 wQ wW fun x hx=>zJw T41.t _ rfl x
def T43:=xF [] 99 T42 qAe qJy fun x hx=>zJc T42.t _ x hx
def T44:=xF [] 79 T43 jP qBe fun x hx=>zGl T43.t _ rfl x hx
def T45:=xW 39 T44 qBg kP fun x hx=>qZb T44.t _ rfl rfl x hx
def T46:=xE 16 T45 qDm jQ fun ⟨s,m⟩ hp=>qW4 T45.t _ rfl rfl s m hp
def T47:=xE 73 T46 qLk qFq fun s hp=>zIn T46.t _ rfl rfl s hp
def T48:=xE 93 T47 qO5 qDw fun ⟨s,n⟩ hp=>zFh T47.t _ s n hp
def T49:=xW 17 T48 qP5 qEb fun x hx=>zNy T48.t _ x.1 x.2 hx.1 hx.2
def T50:=xW 113 T49 vT qHo fun x hx=>zNx T49.t _ x.1 x.2 hx.1 hx.2
def T51:=xF [] 114 T50 qS8 wK fun x _=>qY2 T50.t _ x.1 x.2
def T52:=xF [] 246 T51 qZj qIc fun _ _=>zGj T51.t _
def T53:=xE 272 T52 qOz qEv fun x hp=>qYx T52.t _ x
def T54:=xE 273 T53 qOe qId fun ⟨a,b⟩ hp=>zF4 T53.t _ a b hp
def T55:=xE 274 T54 qM7 qAs fun l hp=>qXe T54.t _ l hp
def T56:=xE 249 T55 qIk qIa fun a hp=>zF2 T55.t _ rfl rfl rfl a hp
def T57:=xF [] 42 T56 yT qJ8 fun x hx=>zJm T56.t _ x.1 x.2.1 x.2.2 hx.1 hx.2
def T58:=xF [] 191 T57 qAt qHx fun x hx=>zGb T57.t _ x.1 hx.1 x.2 hx.2
def T59:=xG 275 T58 qNm qIb fun ⟨d,a⟩ hp=>zF3 T58.t _ rfl rfl d a hp
def T60:=xE 250 T59 qGw qGt fun ⟨d,a⟩ hp=>zCr T59.t _ rfl rfl rfl d a hp
def T61:=xE 219 T60 qNg qGs fun l hp=>zCq T60.t _ rfl rfl l hp
def T62:=xE 118 T61 qA7 kZ fun ⟨s,n,k⟩ hp=>qMc T61.t _ s n k hp
def T63:=xE 182 T62 qIz xV fun ⟨s,h⟩ hp=>zFm T62.t _ s h hp
def T64:=xE 145 T63 qCo qDx fun ⟨s,h⟩ hp=>zFk T63.t _ rfl s h hp
def T65:=xE 168 T64 qK7 yX fun ⟨s,n,b⟩ hp=>qWz T64.t _ rfl rfl rfl s n b hp
def T66:=xE 115 T65 qDn jA fun ⟨s,n,b⟩ hp=>qW0 T65.t _ rfl rfl s n b hp
def T67:=xE 116 T66 qDk qF8 fun ⟨s,n,k⟩ hp=>zBv T66.t _ s n k hp
def T68:=xE 142 T67 qAg qHw fun ⟨s,h⟩ hp=>zFj T67.t _ s h hp
def T69:=xE 220 T68 qLi qAw fun k hp=>qRe T68.t _ k
def T70:=xE 221 T69 qIv qGb fun p hp=>zBx T69.t _ rfl p hp
def T71:=xE 229 T70 qK2 qDf fun ⟨s,h⟩ hp=>qXd T70.t _ rfl s h hp
def T72:=xE 262 T71 qLe qH6 fun ⟨s,l,c⟩ hp=>zFy T71.t _ rfl s l c hp
def T73:=xF [] 231 T72 qA5 qJz fun x hx=>zJd T72.t _ rfl rfl x.1 x.2 hx.1 hx.2
def T74:=xE 261 T73 qD4 qH7 fun ⟨l,c,a,b,x⟩ hp=>zFz T73.t _ rfl l c a b x hp
def T75:=xE 279 T74 qK4 qH8 fun ⟨l,e⟩ hp=>zF0 T74.t _ rfl l e hp
def T76:=xE 259 T75 qOh qAp fun ⟨s,l⟩ hp=>zCm T75.t _ rfl rfl rfl s l hp
def T77:=xE 227 T76 qIq qGp fun ⟨s,h⟩ hp=>zCp T76.t _ rfl rfl s h hp
def T78:=xE 257 T77 qKv xD fun n hp=>zI2 T77.t _ n
def T79:=xE 278 T78 qKz qKb fun ⟨h,i,x,y⟩ hp=>zI3 T78.t _ rfl h i x y hp
def T80:=xE 258 T79 qLg qRw fun ⟨h,l⟩ hp=>zTe T79.t _ rfl h l hp
def T81:=xE 226 T80 qOu qFt fun l hp=>zI1 T80.t _ rfl rfl rfl l hp
def T82:=xE 172 T81 qK5 qAq fun ⟨s,h⟩ hp=>zCn T81.t _ rfl rfl s h hp
def T83:=xE 222 T82 qLh qBo fun ⟨s,k,h⟩ hp=>qX4 T82.t _ rfl rfl s k h hp
def T84:=xE 169 T83 qIr qDu fun ⟨s,p,au,da⟩ hp=>zFa T83.t _ rfl rfl rfl rfl s p au da hp
def T85:=xF [] 44 T84 qDg qJ7 fun x hx=>zJl T84.t _ rfl x.1 x.2 hx.1 hx.2
def T86:=xG 171 T85 qCq qEd fun p hp=>qX3 T85.t _ rfl p hp
def T87:=xE 223 T86 qCp qHq fun p hp=>zE9 T86.t _ rfl rfl p hp
def T88:=xE 225 T87 qK0 qJt fun ⟨s,nm⟩ hp=>zIp T87.t _ rfl s nm hp
def T89:=xG 255 T88 qLd qGn fun ⟨k,no,b⟩ hp=>zCk T88.t _ rfl k no b hp
def T90:=xF [] 256 T89 qMz qMv fun x hx=>zN4 T89.t _ rfl rfl rfl x.1 x.2.1 x.2.2.1 x.2.2.2 hx
def T91:=xG 224 T90 qOw qKa fun ⟨k,no,ad,p⟩ hp=>zIy T90.t _ rfl rfl rfl k no ad p hp
def T92:=xG 170 T91 qK9 qDc fun ⟨s,p,z⟩ hp=>qW1 T91.t _ rfl rfl rfl rfl rfl s p z hp
def T93:=xE 117 T92 qE9 qBb fun ⟨s,h,n,b⟩ hp=>zIo T92.t _ rfl rfl rfl rfl rfl rfl s h n b hp
def T94:=xE 123 T93 qB0 vH fun ⟨s,n⟩ hp=>qRc T93.t _ s n hp
def T95:=xE 119 T94 qE5 qCg fun ⟨s,n,m,b⟩ hp=>qT1 T94.t _ rfl rfl rfl rfl rfl rfl s n m b hp
def T96:=xE 120 T95 qE8 qAl fun ⟨s,n⟩ hp=>zBu T95.t _ rfl rfl s n hp
def T97:=xE 174 T96 qKl qCh fun ⟨d,rf⟩ hp=>qT3 T96.t _ rfl d rf hp
def T98:=xE 260 T97 qKt qGo fun m hp=>zCl T97.t _ rfl m hp
def T99:=xE 228 T98 qOm qC2 fun ⟨s,l,m⟩ hp=>zIz T98.t _ rfl rfl rfl s l m hp
def jQy:=xE 230 T99 qOq qBd fun ⟨i,l⟩ hp=>zI0 T99.t _ rfl rfl rfl i l hp
def jQz:=xE 173 jQy qIw jZ fun ⟨s,h,l,m⟩ hp=>zI4 jQy.t _ rfl rfl rfl rfl s h l m hp
def jQ0:=xE 121 jQz qE4 qBl fun ⟨s,n,b⟩ hp=>qX0 jQz.t _ rfl rfl rfl rfl rfl rfl rfl rfl s n b hp
def jQ1:=xE 122 jQ0 qE7 qF7 fun ⟨s,n,b⟩ hp=>zBt jQ0.t _ rfl rfl s n b hp
def jQ2:=xE 144 jQ1 kB qGg fun ⟨s,h⟩ hp=>zB3 jQ1.t _ s h hp
def jQ3:=xE 124 jQ2 qFb qO fun ⟨s,k,n,b⟩ hp=>qX1 jQ2.t _ rfl rfl rfl rfl s k n b hp
def jQ4:=xE 146 jQ3 qLj kJ fun ⟨s,h⟩ hp=>zB4 jQ3.t _ rfl rfl s h hp
def jQ5:=xE 263 jQ4 qNt qBn fun x hp=>qSp jQ4.t _ rfl x
def jQ6:=xE 233 jQ5 qKy qBm fun x hp=>qSo jQ5.t _ rfl rfl x hp
def jQ7:=xE 234 jQ6 qNo kS fun h hp=>qLw jQ6.t _ rfl h
def jQ8:=xE 192 jQ7 qIs qBr fun ⟨s,h⟩ hp=>zFi jQ7.t _ rfl rfl rfl rfl rfl s h hp
def jQ9:=xE 153 jQ8 qK3 qGj fun ⟨s,q⟩ hp=>zB8 jQ8.t _ rfl s q hp
def jRa:=xE 175 jQ9 qOf qGl fun ⟨s,q⟩ hp=>zCf jQ9.t _ rfl s q hp
def jRb:=xE 152 jRa qKp qEm fun ⟨l,q⟩ hp=>qYi jRa.t _ rfl rfl rfl l q hp
def jRc:=xE 151 jRb qKs qJ4 fun ⟨v,d,m,c⟩ hp=>zIu jRb.t _ rfl rfl v d m c hp
def jRd:=xE 125 jRc qE6 zK fun ⟨s,q,m,b⟩ hp=>qTw jRc.t _ rfl rfl rfl rfl rfl rfl rfl s q m b hp
def jRe:=xE 95 jRd qFc qH fun ⟨s,k,n,m,b⟩ hp=>qXz jRd.t _ rfl rfl rfl rfl rfl rfl rfl rfl rfl rfl rfl rfl rfl rfl s k n m b hp
def jRf:=xE 180 jRe qIy qEq fun _ hp=>qYq jRe.t _
def jRg:=xE 138 jRf qOy kL fun k hp=>zCe jRf.t _ rfl k
def jRh:=xE 139 jRg qNn qH3 fun ⟨a,b⟩ hp=>zFt jRg.t _ a b
def jRi:=xE 140 jRh qOd qEp fun h hp=>qYp jRh.t _ h
def jRj:=xE 181 jRi qNl qH4 fun q hp=>zFu jRi.t _ rfl rfl q hp
def jRk:=xE 141 jRj qIp qH5 fun q hp=>zFv jRj.t _ rfl q hp
def jRl:=xE 107 jRk qIm vD fun q hp=>zCd jRk.t _ rfl rfl rfl rfl q hp
def jRm:=xE 108 jRl kU qEr fun ⟨s,e⟩ hp=>qYu jRl.t _ s e
def jRn:=xE 143 jRm qNi qEl fun ⟨s,h⟩ hp=>qYe jRm.t _ rfl rfl s h hp
def jRo:=xE 109 jRn qM3 qZ fun ⟨s,q⟩ hp=>qW9 jRn.t _ rfl rfl rfl s q hp
def jRp:=xE 184 jRo qLb qGk fun c hp=>zB9 jRo.t _ c
def jRq:=xE 183 jRp qK6 qH0 fun ⟨r,a,b⟩ hp=>zFn jRp.t _ r a b
def jRr:=xE 185 jRq qOr xB fun ⟨s,h⟩ hp=>qYf jRq.t _ rfl rfl s h hp
def jRs:=xW 20 jRr xM qFs fun x hx=>zJe jRr.t _ x.1 x.2 hx.1 hx.2
def jRt:=xE 147 jRs qM8 xX fun ⟨s,lo,q,x⟩ hp=>qT4 jRs.t _ rfl rfl rfl rfl rfl s lo q x hp
def jRu:=xE 186 jRt qN7 qHu fun ⟨l,now⟩ hp=>zFf jRt.t _ l now
def jRv:=xE 187 jRu qK8 vY fun ⟨s,h⟩ hp=>qSr jRu.t _ rfl rfl s h hp
def jRw:=xE 232 jRv qK1 vV fun ⟨l,now⟩ hp=>qW3 jRv.t _ l now hp
def jRx:=xE 188 jRw qN3 qEi fun ⟨l,now⟩ hp=>qX9 jRw.t _ rfl l now hp
def jRy:=xE 148 jRx qN5 qBt fun ⟨s,h⟩ hp=>qYk jRx.t _ rfl rfl rfl s h hp
def jRz:=xE 189 jRy qN8 qGe fun ⟨l,now⟩ hp=>zB1 jRy.t _ l now hp
def jR0:=xE 190 jRz qN4 qHt fun ⟨l,now⟩ hp=>zFe jRz.t _ rfl l now hp
def jR1:=xE 149 jR0 qO9 kK fun ⟨s,h,ok⟩ hp=>zCa jR0.t _ rfl rfl rfl s h ok hp
def jR2:=xE 150 jR1 qOo jM fun ⟨s,q⟩ hp=>qSt jR1.t _ rfl rfl rfl rfl s q hp
def jR3:=xE 110 jR2 qM9 zX fun ⟨s,lo,q⟩ hp=>zB7 jR2.t _ rfl rfl rfl rfl rfl rfl rfl rfl rfl rfl s lo q hp
def jR4:=xE 154 jR3 qB1 qCx fun ⟨s,t,e⟩ hp=>zCi jR3.t _ rfl s t e
def jR5:=xE 12 jR4 qIx vE fun ⟨s,m⟩ hp=>qT2 jR4.t _ rfl s m
def jR6:=xE 155 jR5 qNb qCw fun s hp=>zCh jR5.t _ s
def jR7:=xW 74 jR6 yE kN fun x hx=>qZa jR6.t _ x hx
def jR8:=xF [] 193 jR7 qZk wD fun x hx=>zGi jR7.t _ rfl rfl x.1 x.2.1 x.2.2.1 x.2.2.2 hx
def jR9:=xW 235 jR8 xL qH9 fun x _=>zGh jR8.t _ x.1 x.2
def jSa:=xW 280 jR9 qUl qJ1 fun x hx=>zJh jR9.t _ x.1 x.2 hx
def jSb:=xF [] 264 jSa (qJh 20 zBl) qJ0 fun x hx=>zJg jSa.t _ rfl rfl rfl rfl x hx
def jSc:=xF [] 236 jSb qGv qHy fun x hx=>zN0 jSb.t _ rfl rfl x.1 hx.1 x.2 hx.2
def jSd:=xW 194 jSc qFx jD fun x hx=>zC4 jSc.t _ rfl rfl rfl rfl rfl rfl x hx
def jSe:=xW 195 jSd qVm qEs fun x hx=>qY4 jSd.t _ rfl rfl x.1 x.2.1 x.2.2 hx.1 hx.2
def jSf:=xW 196 jSe zO8 qD1 fun x hx=>zGg jSe.t _ rfl rfl x.1 x.2.1 x.2.2.1 x.2.2.2.1 x.2.2.2.2 hx.1 hx.2.1 hx.2.2
def jSg:=xW 197 jSf qG8 jG fun x hx=>zC7 jSf.t _ rfl rfl rfl rfl rfl x hx
def jSh:=xE 156 jSg qOc jJ fun ⟨s,lo,q⟩ hp=>qXa jSg.t _ rfl rfl rfl rfl rfl rfl s lo q hp
def jSi:=xE 237 jSh qLf qCj fun q hp=>qT5 jSh.t _ q hp
def jSj:=xE 238 jSi qA6 qEo fun ⟨s,e⟩ hp=>qYo jSi.t _ s e
def jSk:=xE 239 jSj qKw qH1 fun s hp=>zFq jSj.t _ s hp
def jSl:=xE 240 jSk qIu qJ5 fun ⟨s,k,x⟩ hp=>zIv jSk.t _ s k x hp
def jSm:=xE 198 jSl qOp kF fun ⟨s,q⟩ hp=>qW7 jSl.t _ rfl rfl rfl rfl rfl rfl rfl rfl rfl s q hp
def jSn:=xE 241 jSm qFa qEn fun ⟨s,q⟩ hp=>qYn jSm.t _ rfl s q hp
def jSo:=xE 19 jSn qDl qEk fun ⟨s,n⟩ hp=>qYd jSn.t _ rfl rfl s n hp
def jSp:=xE 199 jSo qNe xC fun ⟨s,q⟩ hp=>qYl jSo.t _ rfl rfl rfl rfl rfl rfl rfl s q hp
def jSq:=xF [] 56 jSp qDi qMu fun x hx=>zN3 jSp.t _ x hx
def jSr:=xW 89 jSq xK yO fun x hx=>zGk jSq.t _ x hx
def jSs:=xW 57 jSr qCn vL fun x hx=>qRn jSr.t _ rfl x.1 hx.1 x.2 hx.2
def jSt:=xW 59 jSs qAu jW fun x hx=>qRl jSs.t _ rfl x.1 hx.1 x.2 hx.2
def jSu:=xW 91 jSt qR3 qAy fun x hx=>qRm jSt.t _ x hx
def jSv:=xW 62 jSu qDh vZ fun x hx=>qSw jSu.t _ rfl x hx
def jSw:=xE 208 jSv qLa qEc fun b hp=>qX2 jSv.t _ rfl rfl rfl rfl rfl b hp
def jSx:=xW 137 jSw qKj wA fun x hx=>qSx jSw.t _ rfl x.1 hx.1 x.2 hx.2
def jSy:=xE 265 jSx qOk qJ9 fun ⟨k,ad,b⟩ hp=>zIw jSx.t _ rfl rfl rfl rfl rfl rfl rfl k ad b hp
def jSz:=xE 242 jSy qOj qHr fun ⟨s,p,b⟩ hp=>zFb jSy.t _ rfl rfl rfl rfl rfl rfl rfl rfl rfl s p b hp
def jS0:=xE 200 jSz qN9 wU fun ⟨s,q⟩ hp=>zFo jSz.t _ rfl rfl rfl rfl rfl rfl rfl s q hp
def jS1:=xE 166 jS0 qB2 qJx fun ⟨s,k,x⟩ hp=>zIt jS0.t _ s k x hp
def jS2:=xE 167 jS1 qKr qCv fun ⟨s,h⟩ hp=>zB5 jS1.t _ rfl rfl s h hp
def jS3:=xE 201 jS2 qNk qAo fun ⟨s,q⟩ hp=>zCb jS2.t _ rfl rfl rfl rfl s q hp
def jS4:=xE 202 jS3 qO7 qBu fun ⟨s,q⟩ hp=>qYm jS3.t _ rfl rfl rfl s q hp
def jS5:=xE 266 jS4 qN1 qH2 fun ⟨s,x⟩ hp=>zFr jS4.t _ rfl s x hp
def jS6:=xE 243 jS5 qLc qDz fun ⟨s,x,b⟩ hp=>zFs jS5.t _ rfl rfl s x b hp
def jS7:=xE 203 jS6 qOx wV fun ⟨s,q⟩ hp=>zFp jS6.t _ rfl rfl rfl s q hp
def jS8:=xF [] 244 jS7 qM0 qGq fun x hx=>zC2 jS7.t _ rfl rfl rfl x.1 x.2.1 x.2.2.1 x.2.2.2 hx
def jS9:=xE 267 jS8 qOb qGf fun _ hp=>zB2 jS8.t _
def jTa:=xE 245 jS9 qM2 qBp fun a hp=>qYa jS9.t _ rfl rfl rfl a hp
def jTb:=xE 204 jTa qOs vC fun ⟨s,q⟩ hp=>zCc jTa.t _ rfl rfl rfl rfl rfl rfl s q hp
def jTc:=xE 157 jTb qOg jR fun ⟨s,q⟩ hp=>qXb jTb.t _ rfl rfl rfl rfl rfl rfl rfl s q hp
def jTd:=xE 205 jTc qOi qBs fun ⟨s,k⟩ hp=>zFl jTc.t _ rfl rfl rfl s k hp
def jTe:=xE 248 jTd qIt vJ fun ⟨s,h⟩ hp=>qRg jTd.t _ rfl s h hp
def jTf:=xE 268 jTe qPa jV fun a hp=>qRh jTe.t _ rfl rfl a hp
def jTg:=xE 269 jTf qOt zH fun ⟨s,x,a⟩ hp=>qSs jTf.t _ rfl rfl s x a hp
def jTh:=xE 213 jTg qIn qJw fun ⟨l,n⟩ hp=>zIs jTg.t _ l n hp
def jTi:=xE 283 jTh qO2 qIe fun b hp=>zF5 jTh.t _ b hp
def jTj:=xE 282 jTi qOa qFv fun ⟨a,b⟩ hp=>zI5 jTi.t _ rfl a b hp
def jTk:=xE 281 jTj qNc qEu fun ⟨o,a,b⟩ hp=>qYw jTj.t _ rfl o a b hp
def jTl:=xE 270 jTk qNr qGh fun ⟨s,a⟩ hp=>zB6 jTk.t _ rfl rfl rfl rfl s a hp
def jTm:=xE 271 jTl qNd qDd fun ⟨o,a,b⟩ hp=>qW6 jTl.t _ o a b
def jTn:=xE 247 jTm qKm zG fun ⟨s,h,a⟩ hp=>qYg jTm.t _ rfl rfl rfl rfl rfl rfl rfl rfl s h a hp
def jTo:=xE 206 jTn qM5 jO fun ⟨s,q⟩ hp=>qYr jTn.t _ rfl rfl rfl rfl rfl s q hp
def jTp:=xE 207 jTo qOv yI fun ⟨s,h,nm,rf,n⟩ hp=>qYh jTo.t _ rfl rfl rfl rfl s h nm rf n hp
def jTq:=xE 276 jTp qOl wO fun ⟨l,m,sg⟩ hp=>qYv jTp.t _ rfl rfl rfl l m sg hp
def jTr:=xE 277 jTq qKq jS fun ⟨x,i,p⟩ hp=>zF1 jTq.t _ rfl rfl x i p hp
def jTs:=xE 251 jTr qO8 kM fun ⟨p,m,sg⟩ hp=>zCo jTr.t _ rfl rfl rfl p m sg hp
def jTt:=xE 209 jTs qM4 vW fun ⟨s,h,k,rf,sg⟩ hp=>qW5 jTs.t _ rfl rfl rfl rfl rfl rfl rfl s h k rf sg hp
def jTu:=xE 158 jTt qO0 zP fun ⟨s,q⟩ hp=>qT6 jTt.t _ rfl rfl rfl rfl rfl rfl rfl rfl rfl s q hp
def jTv:=xE 252 jTu qO4 qGc fun ⟨k,z⟩ hp=>zBz jTu.t _ k z
def jTw:=xE 210 jTv qNv qFr fun ⟨n,k,r,z,au,po⟩ hp=>zIq jTv.t _ rfl n k r z au po hp
def jTx:=xE 159 jTw qNf wM fun ⟨s,q⟩ hp=>qYt jTw.t _ rfl rfl rfl s q hp
def jTy:=xE 211 jTx qPc qDe fun ⟨l,n⟩ hp=>qXc jTx.t _ l n hp
def jTz:=xE 160 jTy qO6 xY fun ⟨s,q⟩ hp=>qT7 jTy.t _ rfl rfl rfl s q hp
def jT0:=xE 161 jTz qIl qBv fun ⟨s,q⟩ hp=>qYs jTz.t _ rfl s q hp
def jT1:=xE 162 jT0 qNa qGm fun s hp=>zCg jT0.t _ rfl rfl s hp
def jT2:=xE 163 jT1 qN2 qGd fun ⟨l,now⟩ hp=>zB0 jT1.t _ l now
def jT3:=xE 164 jT2 qN6 qEh fun ⟨l,a,b,c⟩ hp=>qX8 jT2.t _ l a b c hp
def jT4:=xE 212 jT3 qPb qD0 fun ⟨l,n⟩ hp=>zFx jT3.t _ rfl l n hp
def jT5:=xE 253 jT4 qKx qEg fun ⟨o,n,z⟩ hp=>qX7 jT4.t _ o n z hp
def jT6:=xE 214 jT5 qNx qDv fun ⟨x,o,n⟩ hp=>zFc jT5.t _ rfl rfl x o n hp
def jT7:=xE 215 jT6 qN0 qCu fun ⟨x,o,d⟩ hp=>zBy jT6.t _ rfl rfl x o d hp
def jT8:=xE 254 jT7 qNz qEf fun x hp=>qX6 jT7.t _ rfl rfl x hp
def jT9:=xE 216 jT8 qNu vX fun ⟨x,m⟩ hp=>qSq jT8.t _ rfl rfl x m hp
def jUa:=xE 217 jT9 qNy kE fun ⟨x,b⟩ hp=>qW2 jT9.t _ rfl x b hp
def jUb:=xE 218 jUa qNs qEe fun ⟨x,b⟩ hp=>qX5 jUa.t _ rfl rfl x b hp
def jUc:=xE 165 jUb qO1 zE fun ⟨s,q⟩ hp=>zCj jUb.t _ rfl rfl rfl rfl rfl rfl rfl rfl rfl s q hp
def jUd:=xE 111 jUc qKo zV fun ⟨s,lo,q⟩ hp=>zFw jUc.t _ rfl rfl rfl rfl rfl rfl rfl rfl rfl rfl rfl rfl rfl rfl rfl s lo q hp
def jUe:=xE 112 jUd qNj vK fun ⟨s,q⟩ hp=>qYj jUd.t _ rfl rfl rfl rfl s q hp
def jUf:=xE 94 jUe qNh qW fun ⟨s,lo,q⟩ hp=>qW8 jUe.t _ rfl rfl rfl rfl rfl rfl s lo q hp
def jUg:=xE 72 jUf qO3 qC0 fun ⟨s,k,n,m,b⟩ hp=>zIm jUf.t _ rfl rfl rfl rfl s k n m b hp
def jUh:=xE 30 jUg qOn qJq fun ⟨s,cs,b,n⟩ hp=>zIl jUg.t _ rfl rfl s cs b n hp
def jUi:=xE 10 jUh qKu qHp fun ⟨a,cs,b⟩ hp=>zE8 jUh.t _ rfl rfl rfl rfl rfl a cs b hp
def jUj:=xE 66 jUi qM6 qIg fun ⟨l,i⟩ hp=>zNr jUi.t _ l i hp
def jUk:=xF [] 40 jUj yT qKf fun x hx=>zJt jUj.t _ x.1 x.2.1 x.2.2 hx.1 hx.2
def jUl:=xF [] 65 jUk qDg qKe fun x hx=>zJs jUk.t _ rfl x.1 x.2 hx.1 hx.2
def jUm:=xF [] 67 jUl zAp qCm fun x hx=>qUe jUl.t _ rfl x.1 x.2 hx
def jUn:=xE 68 jUm qGy qKd fun b hp=>zI6 jUm.t _ b
def jUo:=xW 92 jUn xJ yQ fun x hx=>qPy jUn.t _ x hx
def jUp:=xF [] 69 jUo qR0 wY fun x hx=>qRp jUo.t _ rfl rfl x.1 x.2 hx
def jUq:=xG 26 jUp qB3 qEw fun s hp=>qYz jUp.t _ rfl rfl rfl rfl rfl rfl s hp
def jUr:=xF [8208] 47 jUq qDi qMw fun x hx=>zN6 jUq.t _ x hx
def jUs:=xW 103 jUr qR1 qA1 fun x hx=>zJu jUr.t _ x.1 hx x.2
def jUt:=xW 104 jUs kA yR fun x hx=>zGn jUs.t _ x hx
def jUu:=xW 84 jUt qCn vM fun x hx=>qRs jUt.t _ rfl rfl x.1 hx.1 x.2 hx.2
def jUv:=xW 85 jUu qR4 qBx fun x hx=>qS2 jUu.t _ x hx
def jUw:=xE 49 jUv qIo yA fun ⟨s,e,k,m⟩ hp=>qMd jUv.t _ rfl rfl s e k m hp
def jUx:=xE 48 jUw qNp qBw fun ⟨s,e,k⟩ hp=>qSu jUw.t _ rfl s e k hp
def jUy:=xW 86 jUx qAu jX fun x hx=>qRq jUx.t _ rfl rfl x.1 hx.1 x.2 hx.2
def jUz:=xE 51 jUy qGx wZ fun ⟨s,e⟩ hp=>qRi jUy.t _ rfl rfl s e hp
def jU0:=xE 50 jUz qR7 qCl fun ⟨s,e,n⟩ hp=>qT8 jUz.t _ rfl s e n hp
def jU1:=xE 52 jU0 qNq qAz fun ⟨s,e⟩ hp=>qRj jU0.t _ rfl s e hp
def jU2:=xW 105 jU1 qKj wF fun x hx=>qS3 jU1.t _ rfl rfl x.1 hx.1 x.2 hx.2
def jU3:=xW 88 jU2 qR3 qA0 fun x hx=>qRr jU2.t _ x hx
def jU4:=xW 55 jU3 qDh wE fun x hx=>qS1 jU3.t _ rfl x hx
def jU5:=xW 87 jU4 qRz zZ fun x hx=>qRo jU4.t _ rfl rfl rfl rfl rfl rfl rfl x hx
def jU6:=xE 53 jU5 qR8 wJ fun ⟨s,e⟩ hp=>qPq jU5.t _ rfl rfl s e hp
def jU7:=xE 54 jU6 qR9 qAc fun ⟨s,e⟩ hp=>qPp jU6.t _ rfl rfl rfl s e hp
def jU8:=xE 23 jU7 qAf xH fun b hp=>qYy jU7.t _ rfl rfl rfl rfl rfl rfl rfl rfl rfl b hp
def jU9:=xE 45 jU8 qGy qJv fun b hp=>zIr jU8.t _ b
def jVa:=xF [] 46 jU9 qR0 qGr fun x hx=>zC3 jU9.t _ rfl rfl x.1 x.2 hx
def jVb:=xG 22 jVa qB3 qEj fun s hp=>qYc jVa.t _ rfl rfl rfl rfl s hp
def jVc:=xW 63 jVb qLz qDy fun x hx=>zGc jVb.t _ rfl x.1 x.2 hx.1 hx.2
def jVd:=xW 31 jVc zKg qKc fun x hx=>zJp jVc.t _ rfl rfl x.1 x.2 hx
def jVe:=xE 64 jVd qNw qHs fun ⟨a,b⟩ hp=>zFd jVd.t _ rfl a b hp
def jM8:=xE 25 jVe qFd qAx fun ⟨a,b⟩ hp=>qRf jVe.t _ rfl rfl rfl rfl a b hp
def jVf:=xW 58 jM8 qVo qAn fun x hx=>zCx jM8.t _ rfl x.1 x.2 hx
def jVg:=xW 106 jVf zAq wC fun x hx=>zJo jVf.t _ rfl rfl rfl rfl x hx
def jVh:=xW 90 jVg qRz kO fun x hx=>zC1 jVg.t _ rfl rfl rfl x hx
def jVi:=xW 60 jVh zKi qAm fun x hx=>zCw jVh.t _ rfl rfl x hx
def jVj:=xW 61 jVi zKh qBq fun x hx=>qSv jVi.t _ rfl rfl rfl x hx
def jVk:=xE 24 jVj qAf xA fun b hp=>qYb jVj.t _ rfl rfl rfl rfl rfl rfl rfl b hp
end
end Go.Eng
end
section
set_option maxRecDepth 20000
namespace Go.Eng
open Go.ChangeShapes Go.WideShapes Go.RowKit
inductive Ty where
 | int (k:IntKind)
 | bool
 | str
 | sl (e:Ty)
 | st (fs:List Ty)
mutual
def Ty.size:Ty→Nat
 | .st fs=>Ty.sizeL fs
 | _=>1
def Ty.sizeL:List Ty→Nat
 | []=>0
 | f::r=>f.size+Ty.sizeL r
end
def isK (P:Program)(t:TypeId)(k:IntKind):Bool:=match P.underlying t with
 | some (.int k')=>decide (k'=k)
 | _=>false
theorem zZn {P:Program}{t:TypeId}{k:IntKind}(h:isK P t k=true):P.underlying t=some (.int k):=by
 unfold isK at h;split at h
 ·rename_i h1;rw[h1,of_decide_eq_true h]
 ·cases h
mutual
def Ty.ok (P:Program):Ty→TypeId→Bool
 | .int k,t=>isK P t k
 | .bool,t=>match P.underlying t with | some .bool=>true | _=>false
 | .str,t=>match P.underlying t with | some .string=>true | _=>false
 | .sl e,t=>match P.underlying t with | some (.slice te)=>e.ok P te&&Nat.beq (P.cellsOf te) e.size&&Nat.ble 1 e.size | _=>false
 | .st fs,t=>Nat.beq (P.cellsOf t) (Ty.sizeL fs)&&match P.underlying t with
  | some (.struct gs)=>Ty.okF P fs gs.toList 0
  | some (.array n te)=>Nat.beq fs.length n&&Ty.okA P fs te
  | _=>false
def Ty.okF (P:Program):List Ty→List Field→Nat→Bool
 | [],[],_=>true
 | f::r,g::gs,off=>Nat.beq g.offset off&&Nat.beq (P.cellsOf g.type) f.size&&f.ok P g.type&&Ty.okF P r gs (off+f.size)
 | _,_,_=>false
def Ty.okA (P:Program):List Ty→TypeId→Bool
 | [],_=>true
 | f::r,te=>f.ok P te&&Nat.beq (P.cellsOf te) f.size&&Ty.okA P r te
end
mutual
def Ty.is:Ty→T→Prop
 | .int k,x => ∃ n,(Lit.int k n).wf=true∧x = .int k n
 | .bool,x => ∃ b,x = .bool b
 | .str,x => ∃ s:ByteArray,s.size≤maxLen∧x = .str s
 | .sl e,x => ∃ es:List T,es.length≤maxLen∧(∀ y∈es,e.is y)∧x = .sl es
 | .st fs,x => ∃ cs,Ty.isL fs cs∧x = .agg cs
def Ty.isL:List Ty→List T→Prop
 | [],cs=>cs=[]
 | f::r,cs => ∃ x rest,f.is x∧Ty.isL r rest∧cs=x.cells++rest
end
mutual
theorem Ty.is_size : ∀ (ty:Ty) (x:T),ty.is x→x.cells.length=ty.size
 | .int k,x,h=>by obtain⟨n,_,rfl⟩:=h;rfl
 | .bool,x,h=>by obtain⟨n,rfl⟩:=h;rfl
 | .str,x,h=>by obtain⟨n,_,rfl⟩:=h;rfl
 | .sl e,x,h=>by obtain⟨es,_,_,rfl⟩:=h;rfl
 | .st fs,x,h=>by
  obtain⟨cs,h1,rfl⟩:=h;show cs.length=Ty.sizeL fs;exact Ty.isL_size fs cs h1
theorem Ty.isL_size : ∀ (fs:List Ty) (cs:List T),Ty.isL fs cs→cs.length=Ty.sizeL fs
 | [],cs,h=>by cases h;rfl
 | f::r,cs,h=>by
  obtain⟨x,rest,h1,h2,rfl⟩:=h;rw[List.length_append,Ty.is_size f x h1,Ty.isL_size r rest h2,Ty.sizeL]
end
theorem zEp {α:Type}{Q:Nat→α→Prop} : ∀ (n:Nat),(∀ i,i<n → ∃ y,Q i y) → ∃ l:List α,l.length=n ∧ ∀ i y,l[i]?=some y→Q i y
 | 0,_=>⟨[],rfl,sM⟩
 | n+1,h=>by
  obtain⟨l,hl,hq⟩:=zEp n (fun i hi=>h i oM);obtain⟨y,hy⟩:=h n oM;refine⟨l++[y],by simp[hl],fun i z hz=>?_⟩;rw[List.getElem?_append] at hz;split at hz
  ·exact hq i z hz
  ·have h1:i-l.length=0:=by
    rcases Nat.eq_zero_or_pos (i-l.length) with h | h
    ·exact h
    ·rw[List.getElem?_eq_none soM] at hz;cases hz
   rw[h1] at hz;simp only[List.getElem?_cons_zero,Option.some.injEq] at hz;subst hz;have:i=n:=oM;subst this;exact hy
theorem zDn {w:World}{a:Addr}{u:Value}(h:w.cell? a=some u):a.block<w.heap.size∧a.spot=none:=by
 unfold World.cell? at h;split at h
 ·rename_i hb;refine⟨(Array.getElem?_eq_some_iff.1 hb).1,?_⟩;split at h
  ·cases h
  ·rename_i hs;simpa using hs
 ·cases h
section
variable {H:Type} {enc:TypeId×Value→H} {P:Program} {w:World} {base:Nat} {sp:Nat→Bool} {held:Bool}
structure qJp (w:World) (ds:List T) (cs:List Value):Prop where
 len:ds.length=cs.length
 one : ∀ u∈cs,u.oneCell'=true
 rep : ∀ (i:Nat) (c:T) (u:Value),ds[i]?=some c→cs[i]?=some u→Rep (fun b=>b<w.heap.size) w c u
theorem qJp.one1 {x:T}{c:Value}(hc:c.oneCell'=true)(h:Rep (fun b=>b<w.heap.size) w x c):qJp w [x] [c]:=
 ⟨rfl,by simpa using hc,fun i d u hd hu=>by
  cases i with
  | zero=>simp only[List.getElem?_cons_zero,Option.some.injEq] at hd hu;subst hd;subst hu;exact h
  | succ i=>simp at hd⟩
theorem qJp.app {ds es:List T}{cs vs:List Value}(h:qJp w ds cs)(h2:qJp w es vs):qJp w (ds++es) (cs++vs):=by
 refine⟨by rw[List.length_append,List.length_append,h.len,h2.len],fun u hu=>?_,fun i c u hc hu=>?_⟩
 ·rcases List.mem_append.1 hu with h3 | h3
  ·exact h.one u h3
  ·exact h2.one u h3
 ·rw[List.getElem?_append] at hc hu;rw[h.len] at hc;split at hc
  ·rename_i hl;rw[if_pos hl] at hu;exact h.rep i c u hc hu
  ·rename_i hl;rw[if_neg hl] at hu;exact h2.rep _ c u hc hu
theorem qJp.nil:qJp w [] []:=⟨rfl,sM,fun i c u hc=>by simp at hc⟩
theorem qV6 (n:Nat)(IH : ∀ (ty:Ty) (t:TypeId) (cs:List Value) (x:DataW H×List MemPlace),ty.ok P t=true→cs.length=ty.size→DataW.trod enc P w base sp held n t cs=some x → ∃ y:T,ty.is y∧qJp w y.cells cs){cs:List Value} :
  ∀ (fs:List Ty) (gs:List Field) (off:Nat),Ty.okF P fs gs off=true→off+Ty.sizeL fs=cs.length→(∀ g∈gs,∃ x,DataW.trod enc P w base sp held n g.type ((cs.drop g.offset).take (P.cellsOf g.type))=some x)→
   ∃ ds,Ty.isL fs ds∧qJp w ds (cs.drop off)
 | [],[],off,_,hl,_=>⟨[],rfl,by
   have:cs.drop off=[]:=List.drop_eq_nil_of_le (by simp only[Ty.sizeL] at hl;omega);rw[this];exact qJp.nil⟩
 | [],_::_,_,h,_,_=>by simp[Ty.okF] at h
 | _::_,[],_,h,_,_=>by simp[Ty.okF] at h
 | f::r,g::gs,off,h,hl,hg=>by
  simp only[Ty.okF,Bool.and_eq_true] at h;obtain⟨⟨⟨h1,h2⟩,h3⟩,h4⟩:=h;have e1:=Nat.eq_of_beq_eq_true h1;have e2:=Nat.eq_of_beq_eq_true h2;simp only[Ty.sizeL] at hl;obtain⟨ds,hd1,hd2⟩:=qV6 n IH r gs (off+f.size) h4 oM (fun g' hg'=>hg g' (.tail _ hg'));obtain⟨x,hx⟩:=hg g (.head _);rw[e1,e2] at hx;obtain⟨y,hy1,hy2⟩:=IH f g.type _ x h3 soM hx;refine⟨y.cells++ds,⟨y,ds,hy1,hd1,rfl⟩,?_⟩;have e3:cs.drop off=(cs.drop off).take f.size++cs.drop (off+f.size):=by
   rw[←List.drop_drop,List.take_append_drop]
  rw[e3];exact hy2.app hd2
theorem qZq (n:Nat)(IH : ∀ (ty:Ty) (t:TypeId) (cs:List Value) (x:DataW H×List MemPlace),ty.ok P t=true→cs.length=ty.size→DataW.trod enc P w base sp held n t cs=some x → ∃ y:T,ty.is y∧qJp w y.cells cs){cs:List Value}{te:TypeId} :
  ∀ (fs:List Ty) (i:Nat),Ty.okA P fs te=true→i*P.cellsOf te+Ty.sizeL fs=cs.length→(∀ j,j<fs.length → ∃ x,DataW.trod enc P w base sp held n te ((cs.drop ((i+j)*P.cellsOf te)).take (P.cellsOf te))=some x)→
   ∃ ds,Ty.isL fs ds∧qJp w ds (cs.drop (i*P.cellsOf te))
 | [],i,_,hl,_=>⟨[],rfl,by
   have:cs.drop (i*P.cellsOf te)=[]:=List.drop_eq_nil_of_le (by simp only[Ty.sizeL] at hl;omega);rw[this];exact qJp.nil⟩
 | f::r,i,h,hl,hg=>by
  simp only[Ty.okA,Bool.and_eq_true] at h;obtain⟨⟨h3,h2⟩,h4⟩:=h;have e2:=Nat.eq_of_beq_eq_true h2;simp only[Ty.sizeL] at hl;have e4:(i+1)*P.cellsOf te=i*P.cellsOf te+f.size:=by rw[Nat.add_mul,Nat.one_mul,e2]
  obtain⟨ds,hd1,hd2⟩:=qZq n IH (cs:=cs) r (i+1) h4 (by rw[e4];omega) (fun j hj=>by
   have:=hg (j+1) soM;rw[show i+1+j=i+(j+1) by omega];exact this)
  obtain⟨x,hx⟩:=hg 0 sM;rw[Nat.add_zero,e2,←e2] at hx;obtain⟨y,hy1,hy2⟩:=IH f te _ x h3 (by rw[e2] at hl ⊢;rw[List.length_take,List.length_drop];omega) hx;refine⟨y.cells++ds,⟨y,ds,hy1,hd1,rfl⟩,?_⟩;have e3:cs.drop (i*P.cellsOf te)=(cs.drop (i*P.cellsOf te)).take (P.cellsOf te)++cs.drop ((i+1)*P.cellsOf te):=by
   rw[e4,←e2,←List.drop_drop,List.take_append_drop]
  rw[e3];exact hy2.app hd2
theorem qZr : ∀ (n:Nat) (ty:Ty) (t:TypeId) (cs:List Value) (x:DataW H×List MemPlace),ty.ok P t=true→cs.length=ty.size→DataW.trod enc P w base sp held n t cs=some x → ∃ y:T,ty.is y∧qJp w y.cells cs:=by
 intro n
 induction n with
 | zero=>intro ty t cs x _ _ h;simp[DataW.trod] at h
 | succ n IH=>
  intro ty t cs x hty hlen h;cases ty with
  | int k=>
   obtain⟨m,rfl,_,hw⟩:=DataW.trod_int (zZn hty) h;exact⟨.int k m,⟨m,hw,rfl⟩,.one1 rfl (.int k m)⟩
  | bool=>
   simp only[Ty.ok] at hty;split at hty
   ·rename_i hu;obtain⟨b,rfl,_⟩:=DataW.trod_bool hu h;exact⟨.bool b,⟨b,rfl⟩,.one1 rfl (.bool b)⟩
   ·cases hty
  | str=>
   simp only[Ty.ok] at hty;split at hty
   ·rename_i hu;obtain⟨s,rfl,_,hs⟩:=DataW.trod_string hu h;exact⟨.str s,⟨s,hs,rfl⟩,.one1 rfl (.str s)⟩
   ·cases hty
  | sl e=>
   simp only[Ty.ok] at hty;split at hty
   ·rename_i te hu;simp only[Bool.and_eq_true] at hty;obtain⟨⟨h1,h2⟩,h3⟩:=hty;have e2:=Nat.eq_of_beq_eq_true h2;have e3:=Nat.le_of_ble_eq_true h3;rcases DataW.trod_slice hu h with⟨rfl,_⟩ | ⟨a,len,cap,elems,rest,m,hm,rfl,_,_,hlc,hcm,hel,hget,_,_⟩
    ·exact⟨.sl [],⟨[],sM,sM,rfl⟩,.one1 rfl .nil⟩
    ·cases hm;have hcells : ∀ i,i<len → ∃ y:T,e.is y ∧ ∃ cs',qJp w y.cells cs'∧cs'.length=e.size ∧ ∀ j,j<e.size→w.cell? ((a.add (i*e.size)).add j)=cs'[j]?:=by
      intro i hi;have hg:=hget i hi;have:elems[i]?=some elems[i]:=List.getElem?_eq_getElem oM;rw[this,Option.bind_eq_some_iff] at hg;obtain⟨cs',hc,ht⟩:=hg;obtain⟨_,hl,hcell⟩:=World.cells?_some hc;rw[e2] at hl hcell;obtain⟨y,hy1,hy2⟩:=IH e te cs' _ h1 hl ht;exact⟨y,hy1,cs',hy2,hl,hcell⟩
     obtain⟨es,hes,hq⟩:=zEp len hcells;have hz : ∀ y∈es,y.cells.length=e.size:=fun y hy=>by
      obtain⟨i,hi⟩:=List.getElem?_of_mem hy;exact e.is_size y (hq i y hi).1
     have hcellk : ∀ k,k<len*e.size → ∃ (i j:Nat) (y:T) (cs':List Value) (u:Value),k=i*e.size+j∧j<e.size∧es[i]?=some y∧qJp w y.cells cs'∧cs'[j]?=some u∧w.cell? (a.add k)=some u:=by
      intro k hk;have hi:k/e.size<len:=(Nat.div_lt_iff_lt_mul oM).2 hk;have hj:k%e.size<e.size:=Nat.mod_lt _ oM;have hy:es[k/e.size]?=some es[k/e.size]:=List.getElem?_eq_getElem oM;obtain⟨_,cs',hr,hl,hc⟩:=hq _ _ hy;have hu:cs'[k%e.size]?=some cs'[k%e.size]:=List.getElem?_eq_getElem oM;have ek:k=k/e.size*e.size+k%e.size:=by rw[Nat.mul_comm];exact (Nat.div_add_mod k e.size).symm
      refine⟨_,_,_,cs',_,ek,hj,hy,hr,hu,?_⟩;rw[←hu,←hc _ hj,Addr.add_add,←ek]
     refine⟨.sl es,⟨es,oM,fun y hy=>?_,rfl⟩,.one1 rfl ?_⟩
     ·obtain⟨i,hi⟩:=List.getElem?_of_mem hy;exact (hq i y hi).1
     ·have hnl:((List.range (len*e.size)).map fun k=>(w.cell? (a.add k)).getD default).length=len*e.size:=sM;have hnews : ∀ k u,((List.range (len*e.size)).map fun k=>(w.cell? (a.add k)).getD default)[k]?=some u→k<len*e.size∧w.cell? (a.add k)=some u:=by
       intro k u hu;have hk:k<len*e.size:=by
        rcases Nat.lt_or_ge k (len*e.size) with h | h
        ·exact h
        ·rw[List.getElem?_eq_none oM] at hu;cases hu
       obtain⟨_,_,_,_,u',_,_,_,_,_,hc⟩:=hcellk k hk;rw[List.getElem?_map,List.getElem?_range hk,Option.map_some,hc,Option.getD_some,Option.some.injEq] at hu;subst hu;exact⟨hk,hc⟩
      have h0:es≠[]→a.block<w.heap.size∧a.spot=none:=by
       intro hne;have hlp:0<len:=by
        rw[←hes];exact List.length_pos_iff.2 hne
       obtain⟨_,_,_,_,u',_,_,_,_,_,hc⟩:=hcellk 0 (Nat.mul_pos hlp oM);have e9:a.add 0=a:=by simp[Addr.add]
       rw[e9] at hc;exact zDn hc
      have key:=Rep.sl (F:=fun b=>b<w.heap.size) (w:=w) es a cap e.size _ (fun hne=>(h0 hne).2) oM (by rw[hes];exact hnl) (fun u hu=>by
       obtain⟨k,hk⟩:=List.getElem?_of_mem hu;obtain⟨hk1,hk2⟩:=hnews k u hk;obtain⟨_,_,_,cs',u',_,_,_,hr,hcu,hc⟩:=hcellk k hk1;rw[hk2] at hc;cases hc;exact hr.one u (List.mem_of_getElem? hcu)) (fun hne=>(h0 hne).1) (fun k u hk=>(hnews k u hk).2) hz
       (fun i y j c u hy hc hu=>by
        obtain⟨hk1,hk2⟩:=hnews _ u hu;obtain⟨i',j',y',cs',u',e1,hj',hy',hr,hcu,hc'⟩:=hcellk _ hk1;rw[hk2] at hc';cases hc';have hj:j<e.size:=by rw[←hz y (List.mem_of_getElem? hy)];exact (List.getElem?_eq_some_iff.1 hc).1
        have ei:i=i'∧j=j':=by
         have h5:=congrArg (· / e.size) e1;have h6:=congrArg (· % e.size) e1;simp only[Nat.mul_comm _ e.size,Nat.mul_add_div (show 0<e.size by omega),Nat.mul_add_mod,Nat.div_eq_of_lt hj,Nat.div_eq_of_lt hj',Nat.mod_eq_of_lt hj,Nat.mod_eq_of_lt hj'] at h5 h6;exact⟨oM,h6⟩
        obtain⟨rfl,rfl⟩:=ei;rw[hy] at hy';cases hy';exact hr.rep j c u hc hcu)
      rw[hes] at key;exact key
   ·cases hty
  | st fs=>
   simp only[Ty.ok,Bool.and_eq_true] at hty;obtain⟨h0,hty⟩:=hty;have e0:=Nat.eq_of_beq_eq_true h0;split at hty
   ·rename_i gs hu;obtain⟨xs,m,hm,_,hl,hxl,hget⟩:=DataW.trod_struct hu h;cases hm;obtain⟨ds,hd1,hd2⟩:=qV6 n IH (cs:=cs) fs gs.toList 0 hty oM (fun g hg=>by
     obtain⟨i,hi⟩:=List.getElem?_of_mem hg;have hi':gs[i]?=some g:=by simpa using hi
     have hlt:i<xs.length:=by rw[hxl];exact (Array.getElem?_eq_some_iff.1 hi').1
     exact⟨xs[i],by rw[hget i g hi'];exact List.getElem?_eq_getElem hlt⟩)
    rw[List.drop_zero] at hd2;exact⟨.agg ds,⟨ds,hd1,rfl⟩,hd2⟩
   ·rename_i m te hu;simp only[Bool.and_eq_true] at hty;have e5:=Nat.eq_of_beq_eq_true hty.1;obtain⟨xs,m',hm,_,hl,hxl,hget⟩:=DataW.trod_array hu h;cases hm;obtain⟨ds,hd1,hd2⟩:=qZq n IH (cs:=cs) fs 0 hty.2 oM (fun j hj=>by
     have hlt:j<xs.length:=oM;rw[Nat.zero_add];exact⟨xs[j],by rw[hget j oM];exact List.getElem?_eq_getElem hlt⟩)
    rw[Nat.zero_mul,List.drop_zero] at hd2;exact⟨.agg ds,⟨ds,hd1,rfl⟩,hd2⟩
   ·cases hty
theorem zMq {ty:Ty}{t:TypeId}{v:Value}{d:DataW H}{ps:List MemPlace}{b0:Nat}(hty:ty.ok P t=true)(hval:Value.okWide P w .any b0 t v)(h:DataW.Trod enc P w base sp held t v d ps) :
  ∃ y:T,ty.is y∧Rep (fun b=>b<w.heap.size) w y v:=by
 obtain⟨n,hn⟩:=h;have scalar : ∀ c,v=c→c.cells = #[c]→ty.size=1→(∀ y:T,ty.is y→y.cells=[y]) → ∃ y:T,ty.is y∧Rep (fun b=>b<w.heap.size) w y v:=by
  intro c hv hc hs hy;subst hv;rw[hc] at hn;obtain⟨y,h1,h2⟩:=qZr n ty t _ _ hty (by rw[hs];rfl) hn;rw[hy y h1] at h2;exact⟨y,h1,h2.rep 0 y v rfl rfl⟩
 cases ty with
 | int k=>
  obtain⟨m,hv⟩:=okWide_int (zZn hty) hval;exact scalar _ hv rfl rfl (fun y hy=>by obtain⟨_,_,rfl⟩:=hy;rfl)
 | bool=>
  simp only[Ty.ok] at hty;split at hty
  ·rename_i hu;obtain⟨m,hv⟩:=okWide_bool hu hval;exact scalar _ hv rfl rfl (fun y hy=>by obtain⟨_,rfl⟩:=hy;rfl)
  ·cases hty
 | str=>
  simp only[Ty.ok] at hty;split at hty
  ·rename_i hu;obtain⟨m,hv⟩:=okWide_string hu hval;exact scalar _ hv rfl rfl (fun y hy=>by obtain⟨_,_,rfl⟩:=hy;rfl)
  ·cases hty
 | sl e=>
  have hty':=hty;simp only[Ty.ok] at hty';split at hty'
  ·rename_i te hu;obtain⟨a,l,c,hv⟩:=okWide_slice hu hval;exact scalar _ hv rfl rfl (fun y hy=>by obtain⟨_,_,_,rfl⟩:=hy;rfl)
  ·cases hty'
 | st fs=>
  have hagg : ∃ cs,v = .agg cs∧cs.size=P.cellsOf t:=by
   have hty':=hty;simp only[Ty.ok,Bool.and_eq_true] at hty';obtain⟨_,h2⟩:=hty';unfold Value.okWide at hval;split at h2
   ·rename_i hu;rw[hu] at hval;obtain⟨cs,h3,h4,_⟩:=hval;exact⟨cs,h3,h4⟩
   ·rename_i hu;rw[hu] at hval;obtain⟨cs,h3,h4,_⟩:=hval;exact⟨cs,h3,h4⟩
   ·cases h2
  obtain⟨cs,rfl,hsz⟩:=hagg;have hsz2:cs.size=Ty.sizeL fs:=by
   simp only[Ty.ok,Bool.and_eq_true] at hty;rw[hsz];exact Nat.eq_of_beq_eq_true hty.1
  obtain⟨y,h1,h2⟩:=qZr n (.st fs) t _ _ hty (by show cs.toList.length=Ty.sizeL fs;simpa using hsz2) hn;obtain⟨ds,h3,rfl⟩:=h1;refine⟨.agg ds,⟨ds,h3,rfl⟩,.agg ds cs ?_ ?_ ?_⟩
  ·have:=h2.len;simpa [Value.cells,T.cells] using this.symm
  ·intro u hu;exact h2.one u (by simpa [Value.cells] using hu)
  ·intro i c u hc hu;exact h2.rep i c u hc (by simpa [Value.cells] using hu)
theorem zEm : ∀ {tys:List Ty} {ts:List TypeId} {vs:List Value} {ds:List (DataW H)} {ps:List MemPlace} {b0:Nat},qBk (fun (ty:Ty) (t:TypeId)=>ty.ok P t=true) tys ts→
  (∀ (j:Nat) t v,ts[j]?=some t→vs[j]?=some v→Value.okWide P w .any b0 t v)→DataW.TrodAll enc P w base sp held ts vs ds ps→
  ∃ ys:List T,qBk (fun (ty:Ty) (y:T)=>ty.is y) tys ys∧qBk (qY (fun _=>none) (fun b=>b<w.heap.size) w) (ys.map V.t) vs
 | [],ts,vs,ds,ps,b0,h,hv,hd=>by
  cases h;obtain⟨rfl,_,_⟩:=trodAll_nil hd;exact⟨[],.nil,.nil⟩
 | ty::tys,ts,vs,ds,ps,b0,h,hv,hd=>by
  cases h with
  | cons h1 h2=>
   obtain⟨v,vs',d,ds',p,q,rfl,rfl,rfl,hd1,hd2⟩:=trodAll_cons hd;obtain⟨y,hy1,hy2⟩:=zMq h1 (hv 0 _ v rfl rfl) hd1;obtain⟨ys,h3,h4⟩:=zEm h2 (fun j t v' ht hv'=>hv (j+1) t v' ht hv') hd2;exact⟨y::ys,.cons hy1 h3,.cons (.t hy2) h4⟩
end
end Go.Eng
end
section
set_option maxRecDepth 20000
namespace Go.Eng
open Go.ChangeShapes Go.WideShapes Go.RowKit Go.WideElems
section
variable {H:Type} {enc:TypeId×Value→H} {P:Program}
theorem zH6 {W W':World}(hfr : ∀ b,b<W.heap.size→W'.heap[b]?=W.heap[b]?){p:MemPlace}(hp:p.block<W.heap.size):W.sameAt W' p:=by
 cases p with
 | cell b off=>exact World.cell?_of_block (hfr b hp)
 | map b=>exact hfr b hp
theorem zDh (hl:laidOutB P=true){W W':World}(hfr : ∀ b,b<W.heap.size→W'.heap[b]?=W.heap[b]?){sp:Nat→Bool} :
  ∀ {ts:List TypeId} {vs:List Value} {ds:List (DataW H)} {ps:List MemPlace},(∀ t∈ts,P.readableRec t=true∧t<P.types.size)→(∀ p∈ps,p.block<W.heap.size∧sp p.block=true)→
   DataW.TrodAll enc P W 0 (fun _=>true) true ts vs ds ps→DataW.TrodAll enc P W' 0 sp true ts vs ds ps
 | [],vs,ds,ps,_,_,h=>by
  obtain⟨rfl,rfl,rfl⟩:=trodAll_nil h;exact trodAll_mk0
 | t::ts,vs,ds,ps,ht,hp,h=>by
  obtain⟨v,vs',d,ds',p,q,rfl,rfl,rfl,h1,h2⟩:=trodAll_cons h;obtain⟨hr,hrow⟩:=ht t (.head _);exact⟨p,q,Trod_stays hl hr hrow h1 (fun x hx=>zH6 hfr (hp x (List.mem_append_left _ hx)).1) (fun x hx=>(hp x (List.mem_append_left _ hx)).2),
   zDh hl hfr (fun t' ht'=>ht t' (.tail _ ht')) (fun x hx=>hp x (List.mem_append_right _ hx)) h2,rfl⟩
theorem zVj {fn:Func}{s:ChangeSpec}{tb:TypeId}{apart fresh handsOn again:Bool}{W W':World}{args:Array Value}{ds gs:List (DataW H)}{before:List MemPlace}
  (hl:laidOutB P=true) (hts : ∀ t∈fn.params.toList,P.readableRec t=true∧t<P.types.size) (hrt:fn.resultTypes = #[tb]) (hb:P.underlying tb=some .bool) (hsv:s.vars=[])
  (hfn:(s.fn H (ds++gs)).results=[.lit (.bool true)]∧(s.fn H (ds++gs)).args=ds∧(s.fn H (ds++gs)).vars=[])
  (hW:DataW.Whole enc P fn.params.toList s.vars apart W args.toList ds gs before)
  (hos:W'.os=W.os) (hout:W'.output=W.output) (hfr : ∀ b,b<W.heap.size→W'.heap[b]?=W.heap[b]?) :
  s.post enc P fn apart fresh handsOn again W args (.bool true) W':=by
 have hlt : ∀ p∈before,p.block<W.heap.size:=fun p hp=>hW.lt p hp
 have hW':=hW;obtain⟨p,q,hA,hV,rfl,hz,hn⟩:=hW';rw[hsv] at hV;obtain⟨rfl,rfl⟩:=trodVars_none hV;have hres : ∀ (b:Nat) (sp:Nat→Bool) (hd:Bool),DataW.TrodAll enc P W' b sp hd fn.resultTypes.toList ((Value.bool true).resultList fn.resultTypes.size) (s.fn H (ds++[])).results []:=by
  intro b sp hd;rw[hrt,hfn.1];exact trodAll_mk1 (shut_bool hb true)
 have hargs : ∀ sp:Nat→Bool,(∀ x∈p++[],sp x.block=true)→DataW.TrodAll enc P W' 0 sp true fn.params.toList args.toList (s.fn H (ds++[])).args p:=by
  intro sp hsp;rw[hfn.2.1];exact zDh hl hfr hts (fun x hx=>⟨hlt x (by simpa using hx),hsp x (by simpa using hx)⟩) hA
 have hvars : ∀ sp:Nat→Bool,DataW.TrodVars enc P W' sp s.vars (s.fn H (ds++[])).vars []:=by
  intro sp;rw[hsv,hfn.2.2];rfl
 refine⟨ds,[],_,[],p,[],hW,hres _ _ _,hargs _ (fun x hx=>by simpa using hlt x hx),hvars _,⟨hos,hout,fun i hi=>?_⟩,fun _=>?_⟩
 ·have e:=hfr i hi;revert e;generalize W'.heap[i]?=o';intro e;subst e;split
  ·rename_i h1 h2;rw[h1] at h2;cases h2;exact⟨rfl,rfl,rfl,fun _ _=>rfl⟩
  ·rename_i h1 h2;rw[h1] at h2;cases h2;exact .inr ⟨rfl,rfl⟩
  ·rfl
 ·refine⟨ok_one hrt rfl (okWide_bool_mk hb _),_,_,([]++p)++[],⟨[]++p,[],trodAll_append (hargs _ (fun _ _=>rfl)) (hres _ _ _),hvars _,rfl,?_,?_⟩,?_⟩
  ·intro b off hx;have hx':MemPlace.cell b off∈p++[]:=by simpa using hx
   have e:W'.frozen? ⟨b,off,none⟩=W.frozen? ⟨b,off,none⟩:=by
    unfold World.frozen?;rw[hfr b (hlt _ hx')]
   rw[e];exact hz b off hx'
  ·intro ha;have:=hn ha;simpa using this
  ·intro x hx _;simpa using hx
theorem zD9 {w:World} : ∀ {laid:List (String×DataW Unit)} {ps:List MemPlace},DataW.LaidVars P w laid ps → ∀ x∈laid,∃ g t cs fuel p,P.globalNamed x.1=some g∧(P.globals[g]?).map (·.type)=some t∧w.var? P x.1=some cs∧
   DataW.trod (fun _=>()) P w 0 (fun _=>true) false fuel t cs.toList=some (x.2,p)
 | [],_,_,x,hx=>by cases hx
 | y::r,ps,h,x,hx=>by
  obtain⟨g,t,cs,fuel,p,q,h1,h2,h3,h4,h5,_⟩:=h;rcases List.mem_cons.1 hx with rfl | hx
  ·exact⟨g,t,cs,fuel,p,h1,h2,h3,h4⟩
  ·exact zD9 h5 x hx
theorem jEk {w:World}{nm:String}{g t e n:Nat}{k:IntKind}{ns:List Int}{cs:Array Value}{fuel:Nat}{p:List MemPlace}{F:Nat→Prop}(hg:P.globalNamed nm=some g)(hv:w.var? P nm=some cs)
  (ht:P.underlying t=some (.array n e)) (he:P.underlying e=some (.int k)) (hc:P.cellsOf e=1) (hct:P.cellsOf t=n) (hn:0<ns.length)
  (h:DataW.trod (fun _=>()) P w 0 (fun _=>true) false fuel t cs.toList=some (.agg (ns.map fun m=> .lit (.int k m)),p)) (hF:g<w.heap.size→F g) :
  qY (fun _=>none) F w (.ro (ns.map (T.int k))) (.pointer (some ⟨g,0,none⟩)):=by
 obtain⟨xs,m,_,hx,hl,hxl,hget⟩:=DataW.trod_array ht h;simp only[Prod.mk.injEq,DataW.agg.injEq] at hx;have hlen:ns.length=n:=by
  have:=congrArg List.length hx.1;simp only[List.length_map] at this;omega
 have hcl:cs.toList.length=n:=by rw[hl,hct]
 have hcell : ∀ i,i<n→cs.toList[i]?=some (.int k (ns.getD i 0)):=by
  intro i hi;have h1:=hget i hi;have h2:xs[i]?=some xs[i]:=List.getElem?_eq_getElem oM;rw[h2,hc,Nat.mul_one] at h1;obtain⟨z,hz1,hz2,_⟩:=DataW.trod_int he h1;have h3:cs.toList[i]?=some (.int k z):=by
   have h4:=congrArg (fun l=>l[0]?) hz1;simp only[List.getElem?_take,List.getElem?_drop,Nat.add_zero,List.getElem?_cons_zero] at h4;simpa using h4
  have h5:=congrArg (fun l=>l[i]?) hx.1;simp only[List.getElem?_map,h2,oms,hz2] at h5;have h6:ns[i]?=some ns[i]:=List.getElem?_eq_getElem oM;rw[h6] at h5;simp only[oms,Option.some.injEq,DataW.lit.injEq,Lit.int.injEq,true_and] at h5;rw[h3,List.getD_eq_getElem?_getD,h6,h5];rfl
 have hw : ∀ j,w.cell? ((⟨g,0,none⟩:Addr).add j)=cs.toList[j]?:=by
  intro j;have e:(⟨g,0,none⟩:Addr).add j=⟨g,j,none⟩:=by
   unfold Addr.add;split
   ·rename_i h0;rw[h0]
   ·simp
  rw[e,World.var?_cell hg hv j,Array.getElem?_toList]
 refine .ro (ns.map (T.int k)) ⟨g,0,none⟩ cs.toList rfl (by rw[hcl,List.length_map,hlen]) ?_ (hF ?_) (fun j u hu=>(hw j).trans hu) ?_
 ·intro u hu;obtain⟨i,hi⟩:=List.getElem?_of_mem hu;rw[hcell i (by rw[←hcl];exact (List.getElem?_eq_some_iff.1 hi).1)] at hi;cases hi;rfl
 ·have h0:=hw 0;rw[hcell 0 oM] at h0;have:=(zDn h0).1;rw[qEy] at this;exact this
 ·intro j c u hcj hu;rw[List.getElem?_map,Option.map_eq_some_iff] at hcj;obtain⟨z,hz,rfl⟩:=hcj;rw[hcell j (by rw[←hlen];exact (List.getElem?_eq_some_iff.1 hz).1)] at hu;cases hu;rw[List.getD_eq_getElem?_getD,hz];exact .int k z
theorem jCe {w:World}{nm:String}{g t e n:Nat}{k:IntKind}{ns:List Int}{cs:Array Value}{fuel:Nat}{p:List MemPlace}(hg:P.globalNamed nm=some g)(hv:w.var? P nm=some cs)
  (ht:P.underlying t=some (.array n e)) (hct:P.cellsOf t=n)
  (h:DataW.trod (fun _=>()) P w 0 (fun _=>true) false fuel t cs.toList=some (.agg (ns.map fun m=> .lit (.int k m)),p)):GSz w g (ns.map (T.int k)).length:=by
 obtain⟨xs,m,_,hx,hl,hxl,hget⟩:=DataW.trod_array ht h;simp only[Prod.mk.injEq,DataW.agg.injEq] at hx;have hlen:ns.length=n:=by
  have:=congrArg List.length hx.1;simp only[List.length_map] at this;omega
 have hcl:cs.toList.length=n:=by rw[hl,hct]
 unfold World.var? at hv;rw[hg,Option.bind_some] at hv;split at hv
 ·rename_i c e z hc;cases hv;exact⟨_,e,z,hc,by rw[List.length_map,hlen,←hcl];simp⟩
 ·cases hv
theorem qMp {w:World}{base:Nat}{sp:Nat→Bool}{held:Bool} : ∀ {ts:List TypeId} {vs:List Value} {ds:List (DataW H)} {ps:List MemPlace},DataW.TrodAll enc P w base sp held ts vs ds ps→ds.length=ts.length
 | [],_,_,_,h=>by obtain⟨rfl,rfl,rfl⟩:=trodAll_nil h;rfl
 | _::_,_,_,_,h=>by
  obtain⟨_,_,_,_,_,_,rfl,rfl,rfl,_,h2⟩:=trodAll_cons h;simp[qMp h2]
end
theorem qZm {H:Type}{enc:TypeId×Value→H}{C:Checked}{os:Os}{f:FuncId}{fn:Func}{s:ChangeSpec}{laid:List (String×DataW Unit)}{tys:List Ty}{G:Nat→Option (List T)}{tb:TypeId}{apart fresh handsOn again:Bool}
  (own:ownKnob C.prog.godebug=none) (started:os.Started) (noInit:C.prog.inits.idxOf? f=none) (hfn:C.prog.funcs[f]?=some fn)
  (witness : ∃ (w:World) (tape:Tape) (i:Input),w.os=os∧(w.forCall tape i).Shaped C.prog∧i.vars=[]∧Input.okWide C.prog (w.forCall tape i) .any w.heap.size f i∧
   ((s.pre enc C.prog fn [] apart (w.forCall tape i).memory i.args∧laidMetH C.prog laid (w.forCall tape i).memory)∧sizedMet enc C.prog fn (OpenSpec.ofChange s) apart (w.forCall tape i).memory i.args)∧({}:Assume).holds C.prog (lone (Frame.enter C.prog f i.args .normal) [] (w.forCall tape i)))
  (hl:laidOutB C.prog=true) (hts:fn.params.toList.all (fun t=>C.prog.readableRec t&&Nat.blt t C.prog.types.size)=true) (hrt:fn.resultTypes = #[tb]) (hb:C.prog.underlying tb=some .bool) (hsv:s.vars=[])
  (hspec : ∀ ds:List (DataW H),ds.length=tys.length→(s.fn H ds).results=[.lit (.bool true)]∧(s.fn H ds).args=ds∧(s.fn H ds).vars=[])
  (htys:qBk (fun (ty:Ty) (t:TypeId)=>ty.ok C.prog t=true) tys fn.params.toList)
  (henv : ∀ W,laidMetH C.prog laid W→zOd G (fun b=>b<W.heap.size) W)
  (hlaw : ∀ ys,qBk (fun (ty:Ty) (y:T)=>ty.is y) tys ys→zGw C.prog G f (ys.map V.t) [] (.t (.bool true)) []) :
  ReturnsInHanded {} C os f .any (fun w args=>(s.pre enc C.prog fn [] apart w args∧laidMetH C.prog laid w)∧sizedMet enc C.prog fn (OpenSpec.ofChange s) apart w args) (s.post enc C.prog fn apart fresh handsOn again):=by
 have hts' : ∀ t∈fn.params.toList,C.prog.readableRec t=true∧t<C.prog.types.size:=by
  intro t ht;have:=List.all_eq_true.1 hts t ht;rw[Bool.and_eq_true] at this;exact⟨this.1,by simpa [Nat.blt_eq] using this.2⟩
 refine returnsInHanded_of_change_and (C:=C) (X:=fun w _=>laidMetH C.prog laid w) (fun _ _ _ hh h=>laidMetH.of_heap hh h) own started noInit hfn witness ?_;intro W base args ds gs before hval hW _ _ hL _;have hW':=hW;obtain⟨p,q,hA,hV,rfl,_,_⟩:=hW';rw[hsv] at hV;obtain⟨rfl,rfl⟩:=trodVars_none hV;obtain⟨ys,hys,hreps⟩:=zEm htys (fun j t v ht hv=>hval j t v (by simpa using ht) (by simpa using hv)) hA;have hlen:ds.length=tys.length:=by rw[qMp hA,htys.length]
 have hcall:=hlaw ys hys W (fun _=>none) (fun b=>b<W.heap.size) args (henv W hL)
  ⟨fun k o h=>by simp at h,fun _ _=>rfl,fun _ _ _ _ _ h=>by simp at h,fun _ _ _ h=>by simp at h⟩ hreps
 refine hcall.mono fun e W' ⟨x,β',F',he,hp⟩=>?_
 subst he;have hx:x = .bool true:=by
  have:=hp.res;cases this with
  | t h=>cases h;rfl
 subst hx;exact⟨_,rfl,zVj hl hts' hrt hb hsv (by rw[List.append_nil];exact hspec ds hlen) hW hp.os hp.output (fun b hb=>hp.frame b hb (fun _ _ h=>by simp at h))⟩
end Go.Eng
end
section
set_option maxRecDepth 100000
namespace Go.Proofs.YtekghmfbgbhobaaGreatDoor
open Go.Eng Go.ChangeShapes Go.WideShapes Go.ChangeAt Go.WideElems Go.RowKit
def qLv {H:Type}:List (String×DataW H):=[("sealwright/digest.round256",Rows.laid_sealwright_digest_round256)]
theorem jKv:ownKnob Tryz.prog.godebug=none:=by kernel_rfl
theorem zEy:laidOutB Tryz.prog=true:=by kernel_rfl
theorem jW7:Tryz.prog.globalNamed "sealwright/digest.round256" = some 1:=by kernel_rfl
theorem jEn:(Rows.laid_sealwright_digest_round256:DataW Unit) = .agg ((zDd.map fun x=>(x.toNat:Int)).map fun m=> .lit (.int .u32 m)):=by rfl
theorem jW8 (W:World){ps:List MemPlace}(hv:DataW.LaidVars Tryz.prog W qLv ps):qY (fun _=>none) (fun b=>b<W.heap.size) W (.ro (zDd.map jE)) (.pointer (some ⟨1,0,none⟩))∧GSz W 1 (zDd.map jE).length:=by
 obtain⟨g,t,cs,fuel,p,h1,h2,h3,h4⟩:=zD9 hv _ (.head _);obtain rfl:=Option.some.inj (jW7.symm.trans h1);obtain rfl:=Option.some.inj ((show (Tryz.prog.globals[1]?).map (·.type)=some 170 by kernel_rfl).symm.trans h2);have h4':DataW.trod (fun _=>()) Tryz.prog W 0 (fun _=>true) false fuel 170 cs.toList=some (.agg ((zDd.map fun x=>(x.toNat:Int)).map fun m=> .lit (.int .u32 m)),p):=by rw[←jEn];exact h4
 have e:(zDd.map fun x=>(x.toNat:Int)).map (T.int .u32)=zDd.map jE:=by rw[List.map_map];rfl
 rw[←e];exact⟨jEk (F:=fun b=>b<W.heap.size) h1 h3 Tryz.underlying170 Tryz.underlying161 (by kernel_rfl) (by kernel_rfl) (by decide) h4' (fun h=>h),jCe h1 h3 Tryz.underlying170 (by kernel_rfl) h4'⟩
theorem jKr (W:World){ps:List MemPlace}(hv:DataW.LaidVars Tryz.prog W qLv ps)(g:Nat)(cs:List T)(hg:gl0 g=some cs):qY (fun _=>none) (fun b=>b<W.heap.size) W (.ro cs) (.pointer (some ⟨g,0,none⟩))∧GSz W g cs.length:=by
 unfold gl0 at hg;split at hg
 ·rename_i h0;subst h0;cases hg;exact jW8 W hv
 ·cases hg
theorem jKt (W:World)(h:laidMetH Tryz.prog qLv W):zOd gl0 (fun b=>b<W.heap.size) W:=by
 rw[MakeChecks.laidMetH_plain _ _ _ (by kernel_rfl)] at h;obtain⟨ps,hv,_⟩:=h;exact⟨fun _ h=>h,fun g cs hg=>(jKr W hv g cs hg).1,fun g cs hg=>(jKr W hv g cs hg).2⟩
abbrev jPw:TypeId:=4
theorem jAi:Tryz.prog.underlying jPw=some .bool:=Tryz.underlying4
theorem zLg (os:Os)(args:Array Value):((World.doorLaid Tryz.prog 400 os).forCall (fun _ _=>0) ⟨#[],args,[]⟩).Shaped Tryz.prog:=World.shaped_of_RefB (by kernel_rfl) (by kernel_rfl)
theorem zKm (os:Os)(args:Array Value):laidMetH Tryz.prog qLv ((World.doorLaid Tryz.prog 400 os).forCall (fun _ _=>0) ⟨#[],args,[]⟩).memory:=
 laidMetH_of_parts3 (fuel:=8) (laidMet_of_run' 8 (by kernel_rfl) (by kernel_rfl)) (by kernel_rfl) (by kernel_rfl)
end Go.Proofs.YtekghmfbgbhobaaGreatDoor
end
section
set_option maxRecDepth 20000
namespace Go.Eng
theorem qTf {y:T}(h:(Ty.int .i64).is y) : ∃ n:Int,(-9223372036854775808≤n∧n<9223372036854775808)∧y = .int .i64 n:=by
 obtain⟨n,hw,rfl⟩:=h;refine⟨n,?_,rfl⟩;simp only[Lit.wf,Bool.and_eq_true,decide_eq_true_eq] at hw;obtain⟨h1,h2⟩:=hw;have e1:IntKind.i64.min = -9223372036854775808:=by decide
 have e2:IntKind.i64.max=9223372036854775807:=by decide
 rw[e1] at h1;rw[e2] at h2;omega
theorem jIj {y:T}(h:(Ty.int .u8).is y) : ∃ b:UInt8,y=qA b:=by
 obtain⟨n,hw,rfl⟩:=h;simp only[Lit.wf,Bool.and_eq_true,decide_eq_true_eq] at hw;obtain⟨h1,h2⟩:=hw;have e1:IntKind.u8.min=0:=by decide
 have e2:IntKind.u8.max=255:=by decide
 rw[e1] at h1;rw[e2] at h2;refine⟨UInt8.ofNat n.toNat,?_⟩;unfold qA;congr 1;rw[UInt8.toNat_ofNat'];omega
theorem zQl {y:T}(h:Ty.bool.is y) : ∃ b:Bool,y = .bool b:=h
theorem zQt {α:Type}{f:α→T}{es:List T}(h : ∀ y∈es,∃ a,y=f a) : ∃ l:List α,es=l.map f:=by
 induction es with
 | nil=>exact⟨[],rfl⟩
 | cons y r ih=>
  obtain⟨a,rfl⟩:=h y (.head _);obtain⟨l,rfl⟩:=ih (fun z hz=>h z (.tail _ hz));exact⟨a::l,rfl⟩
theorem mx:maxLen=9223372036854775807:=by decide
theorem qI2 {y:T}(h:(Ty.sl (.int .u8)).is y) : ∃ bs:List UInt8,bs.length≤9223372036854775807∧y = .sl (bs.map qA):=by
 obtain⟨es,hl,he,rfl⟩:=h;obtain⟨bs,rfl⟩:=zQt (f:=qA) (fun y hy=>jIj (he y hy));rw[List.length_map,mx] at hl;exact⟨bs,hl,rfl⟩
theorem jCn {y:T}(h:(Ty.sl (.sl (.int .u8))).is y) : ∃ l:List (List UInt8),l.length≤9223372036854775807∧(∀ d∈l,d.length<9223372036854775808)∧y = .sl (l.map bsT):=by
 obtain⟨es,hl,he,rfl⟩:=h;obtain⟨l,hl2⟩:=zQt (f:=bsT) (es:=es) (fun y hy=>by
  obtain⟨bs,_,h2⟩:=qI2 (he y hy);exact⟨bs,h2⟩)
 subst hl2;rw[List.length_map,mx] at hl;refine⟨l,hl,fun d hd=>?_,rfl⟩;obtain⟨bs,hb,h2⟩:=qI2 (he (bsT d) (List.mem_map_of_mem hd));have h3:d.map qA=bs.map qA:=by
  have:T.sl (d.map qA)=T.sl (bs.map qA):=h2;exact T.sl.inj this
 have h4:=congrArg List.length h3;simp only[List.length_map] at h4;omega
theorem jOe {y:T}(h:(Ty.st [.int .i64,.int .i64]).is y) : ∃ a b:Int,(-9223372036854775808≤a∧a<9223372036854775808)∧(-9223372036854775808≤b∧b<9223372036854775808)∧y = .agg [.int .i64 a,.int .i64 b]:=by
 obtain⟨cs,hc,rfl⟩:=h;obtain⟨x,r,hx,hr,rfl⟩:=hc;obtain⟨x2,r2,hx2,hr2,rfl⟩:=hr;cases hr2;obtain⟨a,ha,rfl⟩:=qTf hx;obtain⟨b,hb,rfl⟩:=qTf hx2;exact⟨a,b,ha,hb,rfl⟩
theorem zVe {y:T}(h:(Ty.sl (.sl (.int .u8))).is y) : ∃ l:List (List UInt8),l.length≤9223372036854775807∧(∀ d∈l,d.length≤9223372036854775807)∧y = .sl (l.map bsT):=by
 obtain⟨l,h1,h2,h3⟩:=jCn h;exact⟨l,h1,fun d hd=>by have:=h2 d hd;omega,h3⟩
theorem jWa {y:T}(h:(Ty.st [.int .i64,.int .i64,.sl (.sl (.int .u8)),.sl (.int .u8)]).is y) : ∃ (a b:Int) (l:List (List UInt8)) (d:List UInt8),(l.length≤9223372036854775807∧(∀ d∈l,d.length≤9223372036854775807)∧d.length≤9223372036854775807)∧y = .agg [.int .i64 a,.int .i64 b,.sl (l.map bsT),.sl (d.map qA)]:=by
 obtain⟨cs,hc,rfl⟩:=h;obtain⟨x,r,hx,hr,rfl⟩:=hc;obtain⟨x2,r2,hx2,hr2,rfl⟩:=hr;obtain⟨x3,r3,hx3,hr3,rfl⟩:=hr2;obtain⟨x4,r4,hx4,hr4,rfl⟩:=hr3;cases hr4;obtain⟨a,_,rfl⟩:=qTf hx;obtain⟨b,_,rfl⟩:=qTf hx2;obtain⟨l,h1,h2,rfl⟩:=zVe hx3;obtain⟨d,h3,rfl⟩:=qI2 hx4;exact⟨a,b,l,d,⟨h1,h2,h3⟩,rfl⟩
end Go.Eng
end
