/- A part of an abstract machine, its walks, their tie. -/
import Derived.Test.YtpolalhffkhimaaGreatDoorRows
import Derived.KernelRfl
import Derived.Test.YtpolalhffkhimaaGreatDoorE30
import Derived.Test.YtpolalhffkhimaaGreatDoorE19
import Derived.Test.YtpolalhffkhimaaGreatDoorE26
import Derived.Test.YtpolalhffkhimaaGreatDoorE22
import Derived.Test.YtpolalhffkhimaaGreatDoorE24
import Derived.Test.YtpolalhffkhimaaGreatDoorE29
import Derived.Test.YtpolalhffkhimaaGreatDoorE32
import Derived.Test.YtpolalhffkhimaaGreatDoorE23
import Derived.Test.YtpolalhffkhimaaGreatDoorE25
import Derived.Test.YtpolalhffkhimaaGreatDoorE28
import Derived.Test.YtpolalhffkhimaaGreatDoorE27
import Derived.Test.YtpolalhffkhimaaGreatDoorE9
import Derived.WideKeyArgs
import Derived.Handed
import Derived.OpenShut
import Derived.RowKit
import Derived.ProofKit
import Derived.LaidMore
import Derived.MakeChecks
import Derived.Stop.Joined
set_option linter.all false
section
set_option maxRecDepth 100000
namespace Go.Eng
open Go.Proofs Go.Proofs.YtpolalhffkhimaaGreatDoor
def gl0:Gl:=fun g=>if g=2 then some (qZ9.map jB) else if g=0 then some (zV4) else if g=1 then some (zPi) else none
abbrev TO (t:Tab):Prop:=qAu Tryz.prog gl0 t
structure TT where
 t:Tab
 h:TO t
def T0:TT:=⟨[],qAu.nil⟩
noncomputable section
def aE {n:Nat}{E:ECt}(T:TT)(h : ∃ g:EF E,FOk Tryz.prog gl0 n (E.fs g)):TT:=⟨(n,E.fs h.choose)::T.t,.cons h.choose_spec T.h⟩
def aF {n:Nat}{f:FnS}(T:TT)(h:FOk Tryz.prog gl0 n f):TT:=⟨(n,f)::T.t,.cons h T.h⟩
abbrev Cl (n:Nat)(fn:Func)(rs:List (Nat×Option (Nat×Bool))):Prop:=Tryz.prog.funcs[n]?=some fn∧(fn.name == "runtime.NumGoroutine")=false∧fn.body=some (fn.body.getD .skip)∧Tryz.prog.follows .mixedOrders=true∧qKc Tryz.prog fn.results.toList=some rs
def xE (n:Nat)(T:TT)(E:ECt){fn:Func}{h:List (Nat×List Nat)}{rs:List (Nat×Option (Nat×Bool))}(c:AF fn h)(w : ∀ x,E.pre x→c.1.wp T.t gl0 (qE 0 (E.aS x)) (qE 0 (E.ins x)) (zA rs (E.ins x).length (E.K x)))(k:Cl n fn rs:=by exact⟨by kernel_rfl,by kernel_rfl,by kernel_rfl,by kernel_rfl,by kernel_rfl⟩)(z:c.1.strict=true:=by kernel_rfl)(u : ∀ x,(E.aS x).length≤fn.ntmps:=by exact fun _=>Nat.le_of_ble_eq_true (by kernel_rfl))(v : ∀ x,(E.ins x).length≤100:=by exact fun _=>Nat.le_of_ble_eq_true (by kernel_rfl)):TT:=aE (n:=n) T (jMi _ _ _ _ T.h E w k.1 k.2.1 k.2.2.1 c.2 k.2.2.2.1 k.2.2.2.2 z u v)
def xG (n:Nat)(T:TT)(E:ECt){fn:Func}{h:List (Nat×List Nat)}{rs:List (Nat×Option (Nat×Bool))}(c:AF fn h)(w : ∀ x,E.pre x→c.1.wp T.t gl0 (qE 0 (E.aS x)) (qE 0 (E.ins x)) (kN [] rs (E.ins x).length (E.K x)))(k:Cl n fn rs:=by exact⟨by kernel_rfl,by kernel_rfl,by kernel_rfl,by kernel_rfl,by kernel_rfl⟩)(z:c.1.strict=true:=by kernel_rfl)(u : ∀ x,(E.aS x).length≤fn.ntmps:=by exact fun _=>Nat.le_of_ble_eq_true (by kernel_rfl))(v : ∀ x,(E.ins x).length≤100:=by exact fun _=>Nat.le_of_ble_eq_true (by kernel_rfl)):TT:=aE (n:=n) T (jMj [] _ _ _ _ T.h E w k.1 k.2.1 k.2.2.1 c.2 k.2.2.2.1 k.2.2.2.2 z u v)
def xW (n:Nat)(T:TT)(E:Ct){fn:Func}{h:List (Nat×List Nat)}{rs:List (Nat×Option (Nat×Bool))}(c:AF fn h)(w : ∀ x,E.pre x→c.1.wp T.t gl0 (qE 0 (E.aS x)) (qE 0 (E.ins x)) (zA rs (E.ins x).length (fun r' o'=>r'=E.r x∧o'=E.outs x)))(k:Cl n fn rs:=by exact⟨by kernel_rfl,by kernel_rfl,by kernel_rfl,by kernel_rfl,by kernel_rfl⟩)(u : ∀ x,(E.aS x).length≤fn.ntmps:=by exact fun _=>Nat.le_of_ble_eq_true (by kernel_rfl))(v : ∀ x,(E.ins x).length≤100:=by exact fun _=>Nat.le_of_ble_eq_true (by kernel_rfl)):TT:=aF (n:=n) T (jT5 k.1 k.2.1 k.2.2.1 c.2 k.2.2.2.1 T.h k.2.2.2.2 E u v w)
def xF (fz:List Nat)(n:Nat)(T:TT)(E:Ct){fn:Func}{h:List (Nat×List Nat)}{rs:List (Nat×Option (Nat×Bool))}(c:AF fn h)(w : ∀ x,E.pre x→c.1.wp T.t gl0 (qE 0 (E.aS x)) (qE 0 (E.ins x)) (kN fz rs (E.ins x).length (fun r' o'=>r'=E.r x∧o'=E.outs x)))(k:Cl n fn rs:=by exact⟨by kernel_rfl,by kernel_rfl,by kernel_rfl,by kernel_rfl,by kernel_rfl⟩)(u : ∀ x,(E.aS x).length≤fn.ntmps:=by exact fun _=>Nat.le_of_ble_eq_true (by kernel_rfl))(v : ∀ x,(E.ins x).length≤100:=by exact fun _=>Nat.le_of_ble_eq_true (by kernel_rfl)):TT:=aF (n:=n) T (jT2 fz k.1 k.2.1 k.2.2.1 c.2 k.2.2.2.1 T.h k.2.2.2.2 E u v w)
def xN (t0 nb z0 n:Nat)(T:TT)(E:Ct){fn:Func}{h:List (Nat×List Nat)}{rs:List (Nat×Option (Nat×Bool))}(c:AF fn h)(w : ∀ x,E.pre x→c.1.wp T.t gl0 (qE 0 (E.aS x)) (qE 0 (E.ins x)) (jIq t0 nb z0 (kN [] rs (E.ins x).length (fun r' o'=>r'=E.r x∧o'=E.outs x))))(k:Cl n fn rs:=by exact⟨by kernel_rfl,by kernel_rfl,by kernel_rfl,by kernel_rfl,by kernel_rfl⟩)(u : ∀ x,(E.aS x).length≤fn.ntmps:=by exact fun _=>Nat.le_of_ble_eq_true (by kernel_rfl))(v : ∀ x,(E.ins x).length≤100:=by exact fun _=>Nat.le_of_ble_eq_true (by kernel_rfl)):TT:=aF (n:=n) T (jT4 t0 nb z0 k.1 k.2.1 k.2.2.1 c.2 k.2.2.2.1 T.h k.2.2.2.2 E u v w)
def T1:=xW 60 T0 zF8 qEt fun _ _=>qZy T0.t _
def T2:=xF [] 101 T1 qX5 qKx fun x _=>zJs T1.t _ x
def T3:=xF [] 163 T2 qQ1 qGa fun x hx=>zCj T2.t _ x hx
def T4:=xW 229 T3 qIf qEq fun x hx=>qZx T3.t _ x.1 x.2 hx.1 hx.2
def T5:=xW 230 T4 qPl kO fun x hx=>qM9 T4.t _ x.1 x.2 hx
def T6:=xW 164 T5 (xL 5 qHq) vW fun x hx=>qNg T5.t _ rfl rfl x hx
def T7:=xF [] 165 T6 qBp qB7 fun x hx=>qVf T6.t _ x hx
def T8:=xW 166 T7 (xL 8 wQ) kC fun x hx=>qKk T7.t _ rfl rfl rfl x.2 x.1 hx.1 hx.2
def T9:=xF [] 125 T8 qDq kJ fun x hx=>zCi T8.t _ rfl rfl rfl rfl x.1 hx.1 x.2 hx.2
def T10:=xF [] 126 T9 qX6 qHz fun x hx=>zE3 T9.t _ x.1 x.2 hx
def T11:=xF [] 102 T10 zF9 qPb fun x hx=>zOy T10.t _ rfl rfl x.1 x.2 hx.1 hx.2
def T12:=xW 61 T11 qTh qCq fun x hx=>zCk T11.t _ rfl rfl x.1 x.2.1 x.2.2.1 x.2.2.2 hx.1 hx.2.1 hx.2.2.1 hx.2.2.2
def T13:=xW 36 T12 qYa xQ fun x hx=>zFd T12.t _ rfl rfl x.1 x.2 hx
def T14:=xE 38 T13 qLc qKv fun n hp=>zJk T13.t _ n hp
def T15:=xE 67 T14 zX9 zC6 fun ⟨l,i⟩ hp=>jV8 T14.t _ l i hp
def T16:=xF [] 63 T15 yY qIa fun x hx=>zFf T15.t _ x.1 x.2.1 x.2.2 hx.1 hx.2
def T17:=xF [] 66 T16 qGm qH9 fun x hx=>zFe T16.t _ rfl x.1 x.2 hx.1 hx.2
def T18:=xF [] 68 T17 jVp qPd fun x hx=>jVh T17.t _ rfl x.1 x.2 hx
def T19:=xE 69 T18 zYb zAb fun b hp=>jVx T18.t _ b
def T20:=xW 106 T19 wI jX fun x hx=>qNi T19.t _ x hx
def T21:=xF [] 70 T20 zX2 vZ fun x hx=>qO1 T20.t _ rfl rfl x.1 x.2 hx
def T22:=xG 39 T21 qPr qSw fun s hp=>jVm T21.t _ rfl rfl rfl rfl rfl rfl s hp
def T23:=xE 62 T22 qIr qCa fun n hp=>qU3 T22.t _ n hp
def T24:=xF [] 127 T23 qEa qC8 fun x hx=>qWl T23.t _ x.1 hx.1 x.2 hx.2
def T25:=xF [] 103 T24 wC qEp fun x hx=>qZv T24.t _ rfl rfl x.1 x.2 hx.1 hx.2
def T26:=xE 64 T25 qIs qDd fun ⟨n,p⟩ hp=>qV5 T25.t _ rfl rfl n p hp
def T27:=xW 105 T26 zAr qDa fun x hx=>qWn T26.t _ x.1 x.2 hx
def T28:=xE 107 T27 qGq qAa fun ⟨k,i⟩ hp=>zCc T27.t _ k i hp
def T29:=xW 104 T28 (qX4 105) qKw fun x hx=>zJr T28.t _ 105 rfl rfl x.1 x.2.1 x.2.2 hx
def T30:=xE 65 T29 qLg qGb fun ⟨k,i,b⟩ hp=>zCb T29.t _ rfl rfl k i b hp
def T31:=xE 37 T30 qGt qA3 fun ⟨k,b,n,p⟩ hp=>qRu T30.t _ rfl rfl rfl rfl k b n p hp
def T32:=xE 71 T31 qLf qHx fun k hp=>zEv T31.t _ k
def T33:=xE 40 T32 qFf qEo fun d hp=>qZc T32.t _ rfl d
def T34:=xE 22 T33 qI8 qEm fun ⟨n,en,a⟩ hp=>qZa T33.t _ rfl rfl rfl rfl rfl n en a hp
def T35:=xE 29 T34 qI9 xZ fun d hp=>qQe T34.t _ rfl d
def T36:=xE 45 T35 qJa kI fun d hp=>qRt T35.t _ d
def T37:=xE 46 T36 qLe qC9 fun k hp=>qV2 T36.t _ k
def T38:=xE 80 T37 qLd qD4 fun ⟨k,i⟩ hp=>zEu T37.t _ rfl k i hp
def T39:=xF [8208] 82 T38 qFa qK4 fun x hx=>zJw T38.t _ x hx
def T40:=xW 128 T39 qPi xJ fun x hx=>zFg T39.t _ x.1 hx x.2
def T41:=xW 129 T40 wD jY fun x hx=>zCq T40.t _ x hx
def T42:=xW 108 T41 qTj vI fun x hx=>qQy T41.t _ rfl rfl x.1 hx.1 x.2 hx.2
def T43:=xW 109 T42 qE9 yW fun x hx=>qO7 T42.t _ rfl rfl x.1 hx.1 x.2 hx.2
def T44:=xW 110 T43 qPk qAk fun x hx=>qQx T43.t _ x hx
def T45:=xE 81 T44 qLm kW fun ⟨b,w⟩ hp=>qU4 T44.t _ rfl rfl rfl rfl rfl b w hp
def T46:=xE 47 T45 qLn yI fun ⟨k,b⟩ hp=>qQg T45.t _ rfl rfl rfl k b hp
def T47:=xE 84 T46 jU1 qH5 fun ⟨s,e,k,m⟩ hp=>jU2 T46.t _ rfl rfl s e k m hp
def T48:=xE 83 T47 jU3 qNm fun ⟨s,e,k⟩ hp=>jVe T47.t _ rfl s e k hp
def T49:=xW 111 T48 qGo jK fun x hx=>qO5 T48.t _ rfl rfl x.1 hx.1 x.2 hx.2
def T50:=xE 86 T49 jU0 qK0 fun ⟨s,e⟩ hp=>jU8 T49.t _ rfl rfl s e hp
def T51:=xE 85 T50 jVa qPc fun ⟨s,e,n⟩ hp=>jVf T50.t _ rfl s e n hp
def T52:=xE 87 T51 jU4 qK1 fun ⟨s,e⟩ hp=>jU9 T51.t _ rfl s e hp
def T53:=xW 131 T52 kQ kR fun x _=>qZw T52.t _ x
def T54:=xW 300 T53 qJx qCp fun x hx=>zCh T53.t _ x hx
def T55:=xW 270 T54 qJx qKu fun x hx=>zJq T54.t _ rfl x hx
def T56:TT:=aF T55 (show FOk Tryz.prog gl0 271 zAp.fs from jFm (fn:=Tryz.f271) (ps := #[3]) (t:=22) (e:=5) (by kernel_rfl) (by kernel_rfl) (by kernel_rfl) (by kernel_rfl) (by kernel_rfl) (by kernel_rfl))
def T57:=xF [] 231 T56 qNr qC7 fun x hx=>qWk T56.t _ rfl rfl x.1 x.2 hx
def T58:=xF [] 167 T57 vT qA9 fun x hx=>qR7 T57.t _ rfl x.2 x.1 hx
def T59:=xF [] 130 T58 kM jI fun x hx=>qSa T58.t _ rfl rfl x
def T60:=xW 113 T59 qPj xI fun x hx=>qO6 T59.t _ x hx
def T61:=xW 90 T60 qIe vH fun x hx=>qQw T60.t _ rfl x hx
def T62:=xW 112 T61 zX1 zO fun x hx=>qOz T61.t _ rfl rfl rfl rfl rfl rfl rfl x hx
def T63:=xE 88 T62 jVb qJ4 fun ⟨s,e⟩ hp=>jU7 T62.t _ rfl rfl s e hp
def T64:=xE 89 T63 jVc qJ3 fun ⟨s,e⟩ hp=>jU6 T63.t _ rfl rfl rfl s e hp
def T65:=xE 48 T64 qTm qSv fun b hp=>jVl T64.t _ rfl rfl rfl rfl rfl rfl rfl rfl rfl b hp
def T66:=xE 49 T65 qTl qXq fun s hp=>jVt T65.t _ s
def T67:=xE 28 T66 qMk qA2 fun d hp=>qRs T66.t _ rfl rfl rfl rfl rfl d hp
def T68:=xE 30 T67 qJg qE6 fun m hp=>qZo T67.t _ m
def T69:=xE 114 T68 qGz qDi fun _ hp=>qWb T68.t _
def T70:=xE 91 T69 qMi qEz fun k hp=>qWh T69.t _ rfl k hp
def T71:=xE 92 T70 qI6 vX fun ⟨a,b⟩ hp=>qZp T70.t _ a b
def T72:=xE 93 T71 qI7 kD fun h hp=>qVd T71.t _ h
def T73:=xF [] 10 T72 yY qH4 fun x hx=>zFa T72.t _ x.1 x.2.1 x.2.2 hx.1 hx.2
def T74:=xF [] 95 T73 qGm qH3 fun x hx=>zE9 T73.t _ rfl x.1 x.2 hx.1 hx.2
def T75:=xE 51 T74 qG0 qGf fun q hp=>qZq T74.t _ rfl rfl q hp
def T76:=xE 94 T75 qMh qGg fun q hp=>qZr T75.t _ rfl q hp
def T77:=xE 50 T76 qMf qEy fun q hp=>qWg T76.t _ rfl rfl rfl rfl q hp
def T78:=xE 31 T77 qMg qDh fun q hp=>qWa T77.t _ rfl rfl q hp
def T79:=xE 115 T78 qIj qB5 fun b hp=>qUx T78.t _ rfl b hp
def T80:=xE 116 T79 qIi qB4 fun k hp=>qUw T79.t _ rfl k hp
def T81:=xE 117 T80 qGp yH fun ⟨n,s⟩ hp=>qQd T80.t _ n s
def T82:=xE 96 T81 qIg qA1 fun b hp=>qRr T81.t _ rfl rfl rfl rfl rfl rfl rfl rfl b hp
def T83:=xE 97 T82 qIh yE fun r hp=>qF7 T82.t _ rfl rfl r hp
def T84:=xE 132 T83 qIk kB fun n hp=>qV1 T83.t _ n
def T85:=xE 133 T84 qIl qB6 fun q hp=>qUy T84.t _ rfl rfl rfl q hp
def T86:=xE 118 T85 qLb qB3 fun q hp=>qUv T85.t _ rfl rfl rfl rfl q hp
def T87:=xE 119 T86 xM qEu fun ⟨s,e⟩ hp=>qZh T86.t _ s e
def T88:=xE 136 T87 qDr qDb fun ⟨s,h⟩ hp=>qV3 T87.t _ s h hp
def T89:=xE 135 T88 qFc vD fun ⟨s,h⟩ hp=>qU0 T88.t _ s h hp
def T90:=xE 232 T89 qLi wZ fun h hp=>qKh T89.t _ rfl h hp
def T91:=xE 178 T90 qGs qAz fun x hp=>qRq T90.t _ rfl rfl x hp
def T92:=xG 202 T91 qG2 qEl fun x hp=>qY9 T91.t _ rfl x hp
def T93:=xE 185 T92 qG3 qHw fun x hp=>zEt T92.t _ rfl rfl x hp
def T94:=xE 168 T93 qFb wK fun ⟨s,h⟩ hp=>qZe T93.t _ rfl rfl rfl rfl rfl s h hp
def T95:=xE 134 T94 qGr qEr fun ⟨s,h⟩ hp=>qZd T94.t _ rfl s h hp
def T96:=xE 120 T95 qLu jU fun ⟨s,q⟩ hp=>qRx T95.t _ rfl rfl rfl s q hp
def T97:=xF [] 233 T96 vM yR fun x hx=>qQz T96.t _ x hx
def T98:=xW 169 T97 qQ2 jW fun x hx=>qNh T97.t _ rfl rfl rfl x hx
def T99:=xE 137 T98 qTn qRd fun ⟨s,m⟩ hp=>jVk T98.t _ rfl rfl s m hp
def jNn:=xE 138 T99 qGv qBi fun ⟨s,c,e⟩ hp=>qZg T99.t _ rfl s c e
def jNo:=xE 139 jNn zK4 qPe fun ⟨s,m⟩ hp=>jVg jNn.t _ rfl s m
def jNp:=xW 234 jNo vR vG fun x _=>qQo jNo.t _ x
def jNq:=xW 235 jNp qHr qDl fun x hx=>qWs jNp.t _ rfl x.1 x.2.1 hx.1 x.2.2 hx.2
def jNr:=xF [] 170 jNq zGf jN fun x hx=>qQn jNq.t _ rfl rfl x.1 x.2.1 x.2.2.1 x.2.2.2 hx
def jNs:=xW 236 jNr qAm qAg fun x _=>qQp jNr.t _ x.1 x.2
def jNt:=xW 171 jNs qFu qW fun x hx=>qO2 jNs.t _ rfl rfl rfl rfl rfl rfl x hx
def jNu:=xW 172 jNt zKx wU fun x hx=>qQm jNt.t _ rfl rfl rfl x.1 x.2.1 x.2.2.1 x.2.2.2.1 x.2.2.2.2 hx.1 hx.2.1 hx.2.2
def jNv:=xW 173 jNu qNs qZ fun x hx=>qO8 jNu.t _ rfl rfl rfl rfl rfl rfl x hx
def jNw:=xE 140 jNv qL0 qAb fun ⟨s,lo,q⟩ hp=>qQi jNv.t _ rfl rfl rfl rfl rfl rfl s lo q hp
def jNx:=xE 160 jNw qPq qSx fun ⟨s,n⟩ hp=>jVn jNw.t _ rfl rfl s n hp
def jNy:=xF [] 237 jNx qTi qDf fun _ _=>qWo jNx.t _
def jNz:=xF [] 161 jNy zAo zQ fun x hx=>qR9 jNy.t _ x hx
def jN0:=xE 228 jNz qGx qE3 fun ⟨s,k,x⟩ hp=>qZl jNz.t _ rfl s k x hp
def jN1:=xE 177 jN0 qMd qDm fun ⟨s,k⟩ hp=>qWd jN0.t _ rfl rfl rfl s k hp
def jN2:=xE 186 jN1 qGy vS fun ⟨s,h⟩ hp=>qWe jN1.t _ s h hp
def jN3:=xE 146 jN2 qFe qAh fun ⟨s,h⟩ hp=>qWc jN2.t _ rfl s h hp
def jN4:=xE 142 jN3 qLy qEv fun ⟨s,q⟩ hp=>qZi jN3.t _ rfl rfl rfl s q hp
def jN5:=xE 181 jN4 qMe zY fun ⟨s,h⟩ hp=>qHe jN4.t _ rfl s h hp
def jN6:=xW 259 jN5 qX8 qCd fun x _=>qVg jN5.t _ x.1 x.2.1 x.2.2
def jN7:=xW 258 jN6 qX7 qAd fun x _=>qQk jN6.t _ x
def jN8:=xE 260 jN7 qL7 qDg fun ⟨e,b⟩ hp=>qV9 jN7.t _ e b
def jN9:=xE 210 jN8 qI1 jM fun a hp=>qV8 jN8.t _ rfl rfl rfl a hp
def jOa:=xW 272 jN9 zQn qAi fun x hx=>qQs jN9.t _ x.1 x.2.1 x.2.2
def jOb:=xF [] 208 jOa qK8 xH fun x hx=>qO0 jOa.t _ rfl rfl rfl x.1 x.2.1 x.2.2.1 x.2.2.2 hx
def jOc:=xE 273 jOb qMc jF fun ⟨s,x,a⟩ hp=>qF8 jOb.t _ rfl s x a hp
def jOd:=xE 267 jOc qMm vB fun ⟨l,v⟩ hp=>qFn jOc.t _ l v hp
def jOe:=xE 222 jOd qJd yJ fun ⟨l,v⟩ hp=>qC2 jOd.t _ rfl l v hp
def jOf:=xE 318 jOe qLa kA fun ⟨a,c⟩ hp=>qKi jOe.t _ a c hp
def jRt:=xW 313 jOf zF1 qA0 fun x hx=>qR3 jOf.t _ rfl x hx
def jOg:TT:=aF jRt (show FOk Tryz.prog gl0 322 zAm.fs from jFl (fn:=Tryz.f322) (by kernel_rfl) (by kernel_rfl) (by kernel_rfl) (by kernel_rfl) (by kernel_rfl))
def jOh:=xE 314 jOg qK9 qB2 fun ⟨a,b⟩ hp=>qUu jOg.t _ rfl a b hp
def jOi:=xE 301 jOh qI0 qA7 fun ⟨op,a,b⟩ hp=>qR0 jOh.t _ rfl rfl op a b hp
def jOj:=xE 274 jOi qI3 kE fun ⟨s,a⟩ hp=>qKj jOi.t _ rfl rfl rfl s a hp
def jOl:=xW 277 jOj zAn qAj fun x hx=>qQt jOj.t _ x.1 x.2
def jOm:=xW 302 jOl (zF6 277) jG fun x hx=>qKl jOl.t _ 277 rfl x.1 x.2 hx
def jOn:=xW 276 jOm (zF2 277) zJ fun x hx=>qHg jOm.t _ 277 rfl x.1 x.2 hx
def jOo:=xE 238 jOn qMa zZ fun ⟨s,x,a⟩ hp=>qVc jOn.t _ rfl rfl rfl rfl rfl s x a hp
def jOp:=xE 286 jOo qL6 kZ fun ⟨d,a⟩ hp=>qVa jOo.t _ rfl d a
def jOq:=xG 243 jOp qI2 kY fun ⟨d,a⟩ hp=>qU9 jOp.t _ rfl rfl rfl d a hp
def jOr:=xE 184 jOq qI4 qBa fun ⟨s,k,x,a⟩ hp=>qR2 jOq.t _ rfl rfl s k x a hp
def jOs:=xE 179 jOr qL9 zT fun ⟨s,h,a⟩ hp=>qR1 jOr.t _ rfl rfl rfl rfl rfl s h a hp
def jOt:=xE 143 jOs qLv wG fun ⟨s,q⟩ hp=>qU5 jOs.t _ rfl rfl rfl rfl rfl s q hp
def jOu:=xE 239 jOt qMp wR fun k hp=>qP9 jOt.t _ k hp
def jOv:=xE 180 jOu qJh qCo fun x hp=>zCa jOu.t _ rfl x hp
def jOw:=xE 144 jOv qYc qEk fun b hp=>qY8 jOv.t _ rfl rfl rfl rfl rfl b hp
def jOx:=xE 121 jOw qLz yG fun ⟨s,lo,q⟩ hp=>qV6 jOw.t _ rfl rfl rfl rfl rfl rfl rfl rfl rfl s lo q hp
def jOy:=xE 194 jOx qIt yD fun ⟨c,h⟩ hp=>qF6 jOx.t _ rfl c h hp
def jOz:=xE 250 jOy qL8 xX fun k hp=>qQb jOy.t _ k
def jO0:=xE 195 jOz qJc xY fun ⟨k,r,w⟩ hp=>qQc jOz.t _ rfl k r w hp
def jO1:=xE 187 jO0 qLp zH fun c hp=>qCl jO0.t _ rfl rfl rfl c hp
def jO2:=xE 196 jO1 qGu vA fun c hp=>qFm jO1.t _ c
def jO3:=xE 245 jO2 qIm xC fun ⟨s,h⟩ hp=>qOs jO2.t _ rfl s h hp
def jO4:=xE 287 jO3 qLs wT fun ⟨l,n⟩ hp=>qQh jO3.t _ l n hp
def jO5:=xE 246 jO4 qLt qA4 fun ⟨l,n⟩ hp=>qRv jO4.t _ rfl l n hp
def jO6:=xE 188 jO5 qIv yU fun c hp=>qD3 jO5.t _ rfl rfl rfl c hp
def jO7:=xE 189 jO6 qIn qDc fun ⟨s,h⟩ hp=>qV4 jO6.t _ rfl s h hp
def jO8:=xW 247 jO7 qPm qD5 fun x hx=>zE2 jO7.t _ x.1 x.2 hx
def jO9:=xE 190 jO8 qIu yM fun ⟨c,a,b⟩ hp=>qD0 jO8.t _ rfl rfl rfl c a b hp
def jPa:=xE 147 jO9 qLr yL fun ⟨c,x⟩ hp=>qDz jO9.t _ rfl rfl rfl rfl rfl c x hp
def jPb:=xE 193 jPa qLh qB8 fun ⟨s,h⟩ hp=>qU1 jPa.t _ rfl s h hp
def jPc:=xE 148 jPb qIw zP fun ⟨c,x,lo⟩ hp=>qC1 jPb.t _ rfl rfl rfl rfl rfl rfl rfl c x lo hp
def jPd:=xE 122 jPc qLo vE fun ⟨s,lo,q⟩ hp=>qQa jPc.t _ rfl rfl rfl s lo q hp
def jPe:=xE 197 jPd qGw qDe fun q hp=>qV7 jPd.t _ q hp
def jPf:=xE 174 jPe qL3 kX fun ⟨q,i⟩ hp=>qU8 jPe.t _ q i hp
def jPg:=xE 199 jPf qFd qBj fun ⟨q,i⟩ hp=>qZj jPf.t _ q i hp
def jPh:=xE 198 jPg qIz qAc fun q hp=>qQj jPg.t _ rfl rfl q hp
def jPi:=xW 251 jPh zVh qE7 fun x _=>qZ2 jPh.t _ x
def jPj:=xF [] 252 jPi zGe qE8 fun x hx=>qZ3 jPi.t _ rfl x.1 x.2.1 x.2.2 hx
def jPk:=xE 200 jPj qJb qD8 fun ⟨k,p,au,da⟩ hp=>zE0 jPj.t _ rfl rfl rfl rfl k p au da hp
def jPl:=xF [] 176 jPk zF5 zX fun x hx=>qR8 jPk.t _ x hx
def jPm:=xE 201 jPl qL2 qEw fun ⟨s,x⟩ hp=>qZk jPl.t _ rfl s x hp
def jPn:=xE 149 jPm qL4 qA6 fun ⟨s,q⟩ hp=>qRz jPm.t _ rfl rfl rfl rfl rfl rfl rfl rfl rfl s q hp
def jPo:=xE 152 jPn qL5 qCc fun ⟨s,q⟩ hp=>qU7 jPn.t _ rfl rfl s q hp
def jPp:=xE 261 jPo qLj qEs fun ⟨k,z⟩ hp=>qZf jPo.t _ k z hp
def jPq:=xE 211 jPp qIp qHy fun ⟨n,k,t,z,au,po⟩ hp=>zEw jPp.t _ rfl n k t z au po hp
def jPr:=xW 262 jPq (zF7 213) zR fun x hx=>qKm jPq.t _ 213 x
def zXd:=xW 212 jPr (zF3 213) zM fun x hx=>qHh jPr.t _ 213 rfl x
def jPs:TT:=aF (n:=214) zXd (jFp (qAu.hd (show qAu _ _ ((214,qNq.fs)::zXd.t) from (xN 2 200 8 214 zXd qNq qT (fun x hx=>qQu zXd.t _)).h)) (qAu.hd (show qAu _ _ ((214,qTg.fs)::zXd.t) from (xF [] 214 zXd qTg qT (fun x hx=>qQv zXd.t _ x)).h)))
def jPt:=xE 156 jPs qIx qCb fun ⟨s,q⟩ hp=>qU6 jPs.t _ rfl rfl rfl rfl s q hp
def jPu:=xE 269 jPt qLk qB9 fun ⟨x,d⟩ hp=>qU2 jPt.t _ x d hp
def jPv:=xE 225 jPu qIo wS fun ⟨x,m⟩ hp=>qQf jPu.t _ rfl rfl rfl rfl x m hp
def jPw:=xE 159 jPv qIy qA5 fun ⟨s,q⟩ hp=>qRy jPv.t _ rfl rfl rfl rfl rfl s q hp
def jPx:=xE 123 jPw qLw jR fun ⟨s,q⟩ hp=>qM8 jPw.t _ rfl rfl rfl rfl rfl rfl rfl s q hp
def jPy:=xE 162 jPx qMb xA fun ⟨s,h⟩ hp=>qVb jPx.t _ rfl rfl s h hp
def jPz:=xE 124 jPy qLq vV fun ⟨s,q⟩ hp=>qOr jPy.t _ rfl rfl rfl rfl s q hp
def jP0:=xE 98 jPz qLx jA fun ⟨s,lo,q⟩ hp=>qRw jPz.t _ rfl rfl rfl rfl rfl rfl rfl s lo q hp
def jP1:=xE 52 jP0 qL1 qGc fun ⟨s,lo,b⟩ hp=>zCd jP0.t _ rfl rfl rfl s lo b hp
def jP2:=xE 53 jP1 qMj kV fun ⟨d,s⟩ hp=>qUz jP1.t _ rfl rfl rfl d s hp
def jP3:=xE 32 jP2 qMl qEn fun ⟨d,lo,b⟩ hp=>qZb jP2.t _ rfl rfl rfl rfl d lo b hp
def jP4:=xF [] 54 jP3 qFa qKz fun x hx=>zJu jP3.t _ x hx
def jP5:=xW 99 jP4 kP jV fun x hx=>zCo jP4.t _ x hx
def jP6:=xW 55 jP5 qE9 yV fun x hx=>qOy jP5.t _ rfl x.1 hx.1 x.2 hx.2
def jP7:=xW 56 jP6 qGo jJ fun x hx=>qOw jP6.t _ rfl x.1 hx.1 x.2 hx.2
def jP8:=xW 100 jP7 qPj xD fun x hx=>qOx jP7.t _ x hx
def jP9:=xW 57 jP8 qIe vF fun x hx=>qQl jP8.t _ rfl x hx
def jQa:=xE 33 jP9 qI5 yN fun b hp=>qHt jP9.t _ rfl rfl rfl rfl b hp
def jQb:=xE 14 jQa qBc qPf fun ⟨d,lo,q⟩ hp=>zOu jQa.t _ rfl rfl rfl d lo q hp
def jQc:=xE 6 jQb yO qBb fun ⟨d,lo,q,i,b⟩ hp=>zJl jQb.t _ rfl d lo q i b hp
def jQd:=xE 12 jQc qCg qH7 fun d hp=>zEy jQc.t _ rfl rfl rfl rfl d hp
def jQe:=xE 5 jQd qJf qH8 fun a hp=>zEz jQd.t _ rfl rfl a hp
def jQf:=xW 59 jQe kQ qBn fun x _=>zE6 jQe.t _ x
def jQg:=xF [] 58 jQf vT qD7 fun x hx=>zCp jQf.t _ x hx
def jQh:=xF [] 35 jQg qGn qDj fun x hx=>qWq jQg.t _ rfl rfl x.1 hx x.2
def jQi:=xF [] 21 jQh kM vY fun x hx=>zFi jQh.t _ rfl x
def jQj:=xW 34 jQi qCf wM fun x hx=>qWt jQi.t _ x hx
def jQk:=xF [] 42 jQj qEa qGd fun x hx=>zCl jQj.t _ x.1 hx.1 x.2 hx.2
def jQl:=xW 72 jQk qSe qA8 fun _ _=>qR5 jQk.t _
def jQm:=xF [] 73 jQl qQ1 qKy fun x hx=>zJt jQl.t _ x hx
def jQn:=xW 74 jQm qIf qH2 fun x hx=>zE8 jQm.t _ x.1 x.2 hx.1 hx.2
def jQo:=xW 75 jQn qX9 qH1 fun x hx=>zE7 jQn.t _ x.1 x.2 hx
def jQp:=xF [] 76 jQo qBp qGe fun x hx=>zCm jQo.t _ x hx
def jQq:=xF [] 41 jQp (zAq 32 jQ) qEx fun x hx=>qZz jQp.t _ rfl rfl rfl rfl rfl x hx
def jQr:=xF [] 24 jQq wC qH0 fun x hx=>zE4 jQq.t _ rfl rfl x.1 x.2 hx.1 hx.2
def jQs:=xF [] 20 jQr qK8 qE0 fun x hx=>qZ1 jQr.t _ rfl rfl rfl x.1 x.2.1 x.2.2.1 x.2.2.2 hx
def jQt:=xF [] 26 jQs qTi qGh fun _ _=>zCn jQs.t _
def jQu:=xW 77 jQt zX4 qDk fun x hx=>qWr jQt.t _ x.1 x.2 hx.1 hx.2
def jQv:=xE 78 jQu zYa qXp fun ⟨a,b⟩ hp=>jVs jQu.t _ a b hp
def jQw:=xW 79 jQv zX3 qCe fun x hx=>qVh jQv.t _ x hx
def jQx:=xW 43 jQw jUc qCr fun x hx=>jUi jQw.t _ rfl rfl x hx
def jQy:=xF [] 44 jQx jUe qCs fun x hx=>jUj jQx.t _ rfl rfl x.1 x.2 hx.1 hx.2
def jQz:=xF [] 27 jQy jUd qE2 fun x hx=>jUh jQy.t _ rfl rfl rfl x.1 x.2 hx.1 hx.2
def jQ0:=xW 11 jQz zDl qE1 fun x hx=>jUg jQz.t _ rfl rfl x hx
def jQ1:=xE 23 jQ0 qG1 qK3 fun ⟨q,v⟩ hp=>zJn jQ0.t _ q v
def jQ2:=xE 16 jQ1 qFj qE5 fun ⟨h,k,a,t,p,u,d⟩ hp=>qZn jQ1.t _ rfl h k a t p u d
def jQ3:=xE 13 jQ2 qFh qK2 fun k hp=>zJm jQ2.t _ k
def jQ4:=xE 15 jQ3 qFi qGj fun ⟨h,k,s,n,o,b⟩ hp=>zCf jQ3.t _ h k s n o b
def jQ5:=xE 18 jQ4 qFg qSz fun ⟨c,h,b⟩ hp=>zUj jQ4.t _ c h b
def jQ6:=xF [] 17 jQ5 zAs qSy fun x _=>zUo jQ5.t _ x.1 x.2
def jQ7:=xE 4 jQ6 qMn qH6 fun _ hp=>zEx jQ6.t _ rfl rfl rfl rfl rfl rfl rfl rfl rfl rfl
def jQ8:=xE 7 jQ7 qMo qGi fun _ hp=>zCe jQ7.t _ rfl
def jQ9:=xE 8 jQ8 qJe qE4 fun ⟨c,ns⟩ hp=>qZm jQ8.t _ rfl c ns
def jRa:=xE 25 jQ9 qIq qAf fun x hp=>qOu jQ9.t _ rfl x
def jRb:=xE 9 jRa qLl qAe fun x hp=>qOt jRa.t _ rfl rfl x hp
def jRc:=xW 19 jRb qPm qD6 fun x hx=>zE5 jRb.t _ x.1 x.2 hx.1 hx.2
def jUr:=xW 78 jRc zKy qXp fun x hx=>jUf jRc.t _ x.1 x.2 hx
def jUs:=xW 43 jUr zGa qCr fun x hx=>qZs jUr.t _ rfl x hx
def jUt:=xF [] 44 jUs zGd qCs fun x hx=>qZt jUs.t _ rfl x.1 x.2 hx.1 hx.2
def jUu:=xF [] 27 jUt zGc qE2 fun x hx=>qWj jUt.t _ rfl rfl rfl x.1 x.2 hx.1 hx.2
def jUv:=xW 11 jUu zGb qE1 fun x hx=>qWi jUu.t _ rfl rfl x hx
end
end Go.Eng
end
section
set_option maxRecDepth 20000
namespace Go.Eng
open Go.ChangeShapes Go.WideShapes Go.RowKit
inductive Ty where
 | int (k:IntKind)
 | bool
 | str
 | sl (e:Ty)
 | st (fs:List Ty)
mutual
def Ty.size:Ty→Nat
 | .st fs=>Ty.sizeL fs
 | _=>1
def Ty.sizeL:List Ty→Nat
 | []=>0
 | f::r=>f.size+Ty.sizeL r
end
def isK (P:Program)(t:TypeId)(k:IntKind):Bool:=match P.underlying t with
 | some (.int k')=>decide (k'=k)
 | _=>false
theorem zVw {P:Program}{t:TypeId}{k:IntKind}(h:isK P t k=true):P.underlying t=some (.int k):=by
 unfold isK at h;split at h
 ·rename_i h1;rw[h1,of_decide_eq_true h]
 ·cases h
mutual
def Ty.ok (P:Program):Ty→TypeId→Bool
 | .int k,t=>isK P t k
 | .bool,t=>match P.underlying t with | some .bool=>true | _=>false
 | .str,t=>match P.underlying t with | some .string=>true | _=>false
 | .sl e,t=>match P.underlying t with | some (.slice te)=>e.ok P te&&Nat.beq (P.cellsOf te) e.size&&Nat.ble 1 e.size | _=>false
 | .st fs,t=>Nat.beq (P.cellsOf t) (Ty.sizeL fs)&&match P.underlying t with
  | some (.struct gs)=>Ty.okF P fs gs.toList 0
  | some (.array n te)=>Nat.beq fs.length n&&Ty.okA P fs te
  | _=>false
def Ty.okF (P:Program):List Ty→List Field→Nat→Bool
 | [],[],_=>true
 | f::r,g::gs,off=>Nat.beq g.offset off&&Nat.beq (P.cellsOf g.type) f.size&&f.ok P g.type&&Ty.okF P r gs (off+f.size)
 | _,_,_=>false
def Ty.okA (P:Program):List Ty→TypeId→Bool
 | [],_=>true
 | f::r,te=>f.ok P te&&Nat.beq (P.cellsOf te) f.size&&Ty.okA P r te
end
mutual
def Ty.is:Ty→T→Prop
 | .int k,x => ∃ n,(Lit.int k n).wf=true∧x = .int k n
 | .bool,x => ∃ b,x = .bool b
 | .str,x => ∃ s:ByteArray,s.size≤maxLen∧x = .str s
 | .sl e,x => ∃ es:List T,es.length≤maxLen∧(∀ y∈es,e.is y)∧x = .sl es
 | .st fs,x => ∃ cs,Ty.isL fs cs∧x = .agg cs
def Ty.isL:List Ty→List T→Prop
 | [],cs=>cs=[]
 | f::r,cs => ∃ x rest,f.is x∧Ty.isL r rest∧cs=x.cells++rest
end
mutual
theorem Ty.is_size : ∀ (ty:Ty) (x:T),ty.is x→x.cells.length=ty.size
 | .int k,x,h=>by obtain⟨n,_,rfl⟩:=h;rfl
 | .bool,x,h=>by obtain⟨n,rfl⟩:=h;rfl
 | .str,x,h=>by obtain⟨n,_,rfl⟩:=h;rfl
 | .sl e,x,h=>by obtain⟨es,_,_,rfl⟩:=h;rfl
 | .st fs,x,h=>by
  obtain⟨cs,h1,rfl⟩:=h;show cs.length=Ty.sizeL fs;exact Ty.isL_size fs cs h1
theorem Ty.isL_size : ∀ (fs:List Ty) (cs:List T),Ty.isL fs cs→cs.length=Ty.sizeL fs
 | [],cs,h=>by cases h;rfl
 | f::r,cs,h=>by
  obtain⟨x,rest,h1,h2,rfl⟩:=h;rw[List.length_append,Ty.is_size f x h1,Ty.isL_size r rest h2,Ty.sizeL]
end
theorem zBo {α:Type}{Q:Nat→α→Prop} : ∀ (n:Nat),(∀ i,i<n → ∃ y,Q i y) → ∃ l:List α,l.length=n ∧ ∀ i y,l[i]?=some y→Q i y
 | 0,_=>⟨[],rfl,sM⟩
 | n+1,h=>by
  obtain⟨l,hl,hq⟩:=zBo n (fun i hi=>h i oM);obtain⟨y,hy⟩:=h n oM;refine⟨l++[y],by simp[hl],fun i z hz=>?_⟩;rw[List.getElem?_append] at hz;split at hz
  ·exact hq i z hz
  ·have h1:i-l.length=0:=by
    rcases Nat.eq_zero_or_pos (i-l.length) with h | h
    ·exact h
    ·rw[List.getElem?_eq_none soM] at hz;cases hz
   rw[h1] at hz;simp only[List.getElem?_cons_zero,Option.some.injEq] at hz;subst hz;have:i=n:=oM;subst this;exact hy
theorem qTd {w:World}{a:Addr}{u:Value}(h:w.cell? a=some u):a.block<w.heap.size∧a.spot=none:=by
 unfold World.cell? at h;split at h
 ·rename_i hb;refine⟨(Array.getElem?_eq_some_iff.1 hb).1,?_⟩;split at h
  ·cases h
  ·rename_i hs;simpa using hs
 ·cases h
section
variable {H:Type} {enc:TypeId×Value→H} {P:Program} {w:World} {base:Nat} {sp:Nat→Bool} {held:Bool}
structure qHv (w:World) (ds:List T) (cs:List Value):Prop where
 len:ds.length=cs.length
 one : ∀ u∈cs,u.oneCell'=true
 rep : ∀ (i:Nat) (c:T) (u:Value),ds[i]?=some c→cs[i]?=some u→Rep (fun b=>b<w.heap.size) w c u
theorem qHv.one1 {x:T}{c:Value}(hc:c.oneCell'=true)(h:Rep (fun b=>b<w.heap.size) w x c):qHv w [x] [c]:=
 ⟨rfl,by simpa using hc,fun i d u hd hu=>by
  cases i with
  | zero=>simp only[List.getElem?_cons_zero,Option.some.injEq] at hd hu;subst hd;subst hu;exact h
  | succ i=>simp at hd⟩
theorem qHv.app {ds es:List T}{cs vs:List Value}(h:qHv w ds cs)(h2:qHv w es vs):qHv w (ds++es) (cs++vs):=by
 refine⟨by rw[List.length_append,List.length_append,h.len,h2.len],fun u hu=>?_,fun i c u hc hu=>?_⟩
 ·rcases List.mem_append.1 hu with h3 | h3
  ·exact h.one u h3
  ·exact h2.one u h3
 ·rw[List.getElem?_append] at hc hu;rw[h.len] at hc;split at hc
  ·rename_i hl;rw[if_pos hl] at hu;exact h.rep i c u hc hu
  ·rename_i hl;rw[if_neg hl] at hu;exact h2.rep _ c u hc hu
theorem qHv.nil:qHv w [] []:=⟨rfl,sM,fun i c u hc=>by simp at hc⟩
theorem qT4 (n:Nat)(IH : ∀ (ty:Ty) (t:TypeId) (cs:List Value) (x:DataW H×List MemPlace),ty.ok P t=true→cs.length=ty.size→DataW.trod enc P w base sp held n t cs=some x → ∃ y:T,ty.is y∧qHv w y.cells cs){cs:List Value} :
  ∀ (fs:List Ty) (gs:List Field) (off:Nat),Ty.okF P fs gs off=true→off+Ty.sizeL fs=cs.length→(∀ g∈gs,∃ x,DataW.trod enc P w base sp held n g.type ((cs.drop g.offset).take (P.cellsOf g.type))=some x)→
   ∃ ds,Ty.isL fs ds∧qHv w ds (cs.drop off)
 | [],[],off,_,hl,_=>⟨[],rfl,by
   have:cs.drop off=[]:=List.drop_eq_nil_of_le (by simp only[Ty.sizeL] at hl;omega);rw[this];exact qHv.nil⟩
 | [],_::_,_,h,_,_=>by simp[Ty.okF] at h
 | _::_,[],_,h,_,_=>by simp[Ty.okF] at h
 | f::r,g::gs,off,h,hl,hg=>by
  simp only[Ty.okF,Bool.and_eq_true] at h;obtain⟨⟨⟨h1,h2⟩,h3⟩,h4⟩:=h;have e1:=Nat.eq_of_beq_eq_true h1;have e2:=Nat.eq_of_beq_eq_true h2;simp only[Ty.sizeL] at hl;obtain⟨ds,hd1,hd2⟩:=qT4 n IH r gs (off+f.size) h4 oM (fun g' hg'=>hg g' (.tail _ hg'));obtain⟨x,hx⟩:=hg g (.head _);rw[e1,e2] at hx;obtain⟨y,hy1,hy2⟩:=IH f g.type _ x h3 soM hx;refine⟨y.cells++ds,⟨y,ds,hy1,hd1,rfl⟩,?_⟩;have e3:cs.drop off=(cs.drop off).take f.size++cs.drop (off+f.size):=by
   rw[←List.drop_drop,List.take_append_drop]
  rw[e3];exact hy2.app hd2
theorem qXa (n:Nat)(IH : ∀ (ty:Ty) (t:TypeId) (cs:List Value) (x:DataW H×List MemPlace),ty.ok P t=true→cs.length=ty.size→DataW.trod enc P w base sp held n t cs=some x → ∃ y:T,ty.is y∧qHv w y.cells cs){cs:List Value}{te:TypeId} :
  ∀ (fs:List Ty) (i:Nat),Ty.okA P fs te=true→i*P.cellsOf te+Ty.sizeL fs=cs.length→(∀ j,j<fs.length → ∃ x,DataW.trod enc P w base sp held n te ((cs.drop ((i+j)*P.cellsOf te)).take (P.cellsOf te))=some x)→
   ∃ ds,Ty.isL fs ds∧qHv w ds (cs.drop (i*P.cellsOf te))
 | [],i,_,hl,_=>⟨[],rfl,by
   have:cs.drop (i*P.cellsOf te)=[]:=List.drop_eq_nil_of_le (by simp only[Ty.sizeL] at hl;omega);rw[this];exact qHv.nil⟩
 | f::r,i,h,hl,hg=>by
  simp only[Ty.okA,Bool.and_eq_true] at h;obtain⟨⟨h3,h2⟩,h4⟩:=h;have e2:=Nat.eq_of_beq_eq_true h2;simp only[Ty.sizeL] at hl;have e4:(i+1)*P.cellsOf te=i*P.cellsOf te+f.size:=by rw[Nat.add_mul,Nat.one_mul,e2]
  obtain⟨ds,hd1,hd2⟩:=qXa n IH (cs:=cs) r (i+1) h4 (by rw[e4];omega) (fun j hj=>by
   have:=hg (j+1) soM;rw[show i+1+j=i+(j+1) by omega];exact this)
  obtain⟨x,hx⟩:=hg 0 sM;rw[Nat.add_zero,e2,←e2] at hx;obtain⟨y,hy1,hy2⟩:=IH f te _ x h3 (by rw[e2] at hl ⊢;rw[List.length_take,List.length_drop];omega) hx;refine⟨y.cells++ds,⟨y,ds,hy1,hd1,rfl⟩,?_⟩;have e3:cs.drop (i*P.cellsOf te)=(cs.drop (i*P.cellsOf te)).take (P.cellsOf te)++cs.drop ((i+1)*P.cellsOf te):=by
   rw[e4,←e2,←List.drop_drop,List.take_append_drop]
  rw[e3];exact hy2.app hd2
theorem qXb : ∀ (n:Nat) (ty:Ty) (t:TypeId) (cs:List Value) (x:DataW H×List MemPlace),ty.ok P t=true→cs.length=ty.size→DataW.trod enc P w base sp held n t cs=some x → ∃ y:T,ty.is y∧qHv w y.cells cs:=by
 intro n
 induction n with
 | zero=>intro ty t cs x _ _ h;simp[DataW.trod] at h
 | succ n IH=>
  intro ty t cs x hty hlen h;cases ty with
  | int k=>
   obtain⟨m,rfl,_,hw⟩:=DataW.trod_int (zVw hty) h;exact⟨.int k m,⟨m,hw,rfl⟩,.one1 rfl (.int k m)⟩
  | bool=>
   simp only[Ty.ok] at hty;split at hty
   ·rename_i hu;obtain⟨b,rfl,_⟩:=DataW.trod_bool hu h;exact⟨.bool b,⟨b,rfl⟩,.one1 rfl (.bool b)⟩
   ·cases hty
  | str=>
   simp only[Ty.ok] at hty;split at hty
   ·rename_i hu;obtain⟨s,rfl,_,hs⟩:=DataW.trod_string hu h;exact⟨.str s,⟨s,hs,rfl⟩,.one1 rfl (.str s)⟩
   ·cases hty
  | sl e=>
   simp only[Ty.ok] at hty;split at hty
   ·rename_i te hu;simp only[Bool.and_eq_true] at hty;obtain⟨⟨h1,h2⟩,h3⟩:=hty;have e2:=Nat.eq_of_beq_eq_true h2;have e3:=Nat.le_of_ble_eq_true h3;rcases DataW.trod_slice hu h with⟨rfl,_⟩ | ⟨a,len,cap,elems,rest,m,hm,rfl,_,_,hlc,hcm,hel,hget,_,_⟩
    ·exact⟨.sl [],⟨[],sM,sM,rfl⟩,.one1 rfl .nil⟩
    ·cases hm;have hcells : ∀ i,i<len → ∃ y:T,e.is y ∧ ∃ cs',qHv w y.cells cs'∧cs'.length=e.size ∧ ∀ j,j<e.size→w.cell? ((a.add (i*e.size)).add j)=cs'[j]?:=by
      intro i hi;have hg:=hget i hi;have:elems[i]?=some elems[i]:=List.getElem?_eq_getElem oM;rw[this,Option.bind_eq_some_iff] at hg;obtain⟨cs',hc,ht⟩:=hg;obtain⟨_,hl,hcell⟩:=World.cells?_some hc;rw[e2] at hl hcell;obtain⟨y,hy1,hy2⟩:=IH e te cs' _ h1 hl ht;exact⟨y,hy1,cs',hy2,hl,hcell⟩
     obtain⟨es,hes,hq⟩:=zBo len hcells;have hz : ∀ y∈es,y.cells.length=e.size:=fun y hy=>by
      obtain⟨i,hi⟩:=List.getElem?_of_mem hy;exact e.is_size y (hq i y hi).1
     have hcellk : ∀ k,k<len*e.size → ∃ (i j:Nat) (y:T) (cs':List Value) (u:Value),k=i*e.size+j∧j<e.size∧es[i]?=some y∧qHv w y.cells cs'∧cs'[j]?=some u∧w.cell? (a.add k)=some u:=by
      intro k hk;have hi:k/e.size<len:=(Nat.div_lt_iff_lt_mul oM).2 hk;have hj:k%e.size<e.size:=Nat.mod_lt _ oM;have hy:es[k/e.size]?=some es[k/e.size]:=List.getElem?_eq_getElem oM;obtain⟨_,cs',hr,hl,hc⟩:=hq _ _ hy;have hu:cs'[k%e.size]?=some cs'[k%e.size]:=List.getElem?_eq_getElem oM;have ek:k=k/e.size*e.size+k%e.size:=by rw[Nat.mul_comm];exact (Nat.div_add_mod k e.size).symm
      refine⟨_,_,_,cs',_,ek,hj,hy,hr,hu,?_⟩;rw[←hu,←hc _ hj,Addr.add_add,←ek]
     refine⟨.sl es,⟨es,oM,fun y hy=>?_,rfl⟩,.one1 rfl ?_⟩
     ·obtain⟨i,hi⟩:=List.getElem?_of_mem hy;exact (hq i y hi).1
     ·have hnl:((List.range (len*e.size)).map fun k=>(w.cell? (a.add k)).getD default).length=len*e.size:=sM;have hnews : ∀ k u,((List.range (len*e.size)).map fun k=>(w.cell? (a.add k)).getD default)[k]?=some u→k<len*e.size∧w.cell? (a.add k)=some u:=by
       intro k u hu;have hk:k<len*e.size:=by
        rcases Nat.lt_or_ge k (len*e.size) with h | h
        ·exact h
        ·rw[List.getElem?_eq_none oM] at hu;cases hu
       obtain⟨_,_,_,_,u',_,_,_,_,_,hc⟩:=hcellk k hk;rw[List.getElem?_map,List.getElem?_range hk,Option.map_some,hc,Option.getD_some,Option.some.injEq] at hu;subst hu;exact⟨hk,hc⟩
      have h0:es≠[]→a.block<w.heap.size∧a.spot=none:=by
       intro hne;have hlp:0<len:=by
        rw[←hes];exact List.length_pos_iff.2 hne
       obtain⟨_,_,_,_,u',_,_,_,_,_,hc⟩:=hcellk 0 (Nat.mul_pos hlp oM);have e9:a.add 0=a:=by simp[Addr.add]
       rw[e9] at hc;exact qTd hc
      have key:=Rep.sl (F:=fun b=>b<w.heap.size) (w:=w) es a cap e.size _ (fun hne=>(h0 hne).2) oM (by rw[hes];exact hnl) (fun u hu=>by
       obtain⟨k,hk⟩:=List.getElem?_of_mem hu;obtain⟨hk1,hk2⟩:=hnews k u hk;obtain⟨_,_,_,cs',u',_,_,_,hr,hcu,hc⟩:=hcellk k hk1;rw[hk2] at hc;cases hc;exact hr.one u (List.mem_of_getElem? hcu)) (fun hne=>(h0 hne).1) (fun k u hk=>(hnews k u hk).2) hz
       (fun i y j c u hy hc hu=>by
        obtain⟨hk1,hk2⟩:=hnews _ u hu;obtain⟨i',j',y',cs',u',e1,hj',hy',hr,hcu,hc'⟩:=hcellk _ hk1;rw[hk2] at hc';cases hc';have hj:j<e.size:=by rw[←hz y (List.mem_of_getElem? hy)];exact (List.getElem?_eq_some_iff.1 hc).1
        have ei:i=i'∧j=j':=by
         have h5:=congrArg (· / e.size) e1;have h6:=congrArg (· % e.size) e1;simp only[Nat.mul_comm _ e.size,Nat.mul_add_div (show 0<e.size by omega),Nat.mul_add_mod,Nat.div_eq_of_lt hj,Nat.div_eq_of_lt hj',Nat.mod_eq_of_lt hj,Nat.mod_eq_of_lt hj'] at h5 h6;exact⟨oM,h6⟩
        obtain⟨rfl,rfl⟩:=ei;rw[hy] at hy';cases hy';exact hr.rep j c u hc hcu)
      rw[hes] at key;exact key
   ·cases hty
  | st fs=>
   simp only[Ty.ok,Bool.and_eq_true] at hty;obtain⟨h0,hty⟩:=hty;have e0:=Nat.eq_of_beq_eq_true h0;split at hty
   ·rename_i gs hu;obtain⟨xs,m,hm,_,hl,hxl,hget⟩:=DataW.trod_struct hu h;cases hm;obtain⟨ds,hd1,hd2⟩:=qT4 n IH (cs:=cs) fs gs.toList 0 hty oM (fun g hg=>by
     obtain⟨i,hi⟩:=List.getElem?_of_mem hg;have hi':gs[i]?=some g:=by simpa using hi
     have hlt:i<xs.length:=by rw[hxl];exact (Array.getElem?_eq_some_iff.1 hi').1
     exact⟨xs[i],by rw[hget i g hi'];exact List.getElem?_eq_getElem hlt⟩)
    rw[List.drop_zero] at hd2;exact⟨.agg ds,⟨ds,hd1,rfl⟩,hd2⟩
   ·rename_i m te hu;simp only[Bool.and_eq_true] at hty;have e5:=Nat.eq_of_beq_eq_true hty.1;obtain⟨xs,m',hm,_,hl,hxl,hget⟩:=DataW.trod_array hu h;cases hm;obtain⟨ds,hd1,hd2⟩:=qXa n IH (cs:=cs) fs 0 hty.2 oM (fun j hj=>by
     have hlt:j<xs.length:=oM;rw[Nat.zero_add];exact⟨xs[j],by rw[hget j oM];exact List.getElem?_eq_getElem hlt⟩)
    rw[Nat.zero_mul,List.drop_zero] at hd2;exact⟨.agg ds,⟨ds,hd1,rfl⟩,hd2⟩
   ·cases hty
theorem zIk {ty:Ty}{t:TypeId}{v:Value}{d:DataW H}{ps:List MemPlace}{b0:Nat}(hty:ty.ok P t=true)(hval:Value.okWide P w .any b0 t v)(h:DataW.Trod enc P w base sp held t v d ps) :
  ∃ y:T,ty.is y∧Rep (fun b=>b<w.heap.size) w y v:=by
 obtain⟨n,hn⟩:=h;have scalar : ∀ c,v=c→c.cells = #[c]→ty.size=1→(∀ y:T,ty.is y→y.cells=[y]) → ∃ y:T,ty.is y∧Rep (fun b=>b<w.heap.size) w y v:=by
  intro c hv hc hs hy;subst hv;rw[hc] at hn;obtain⟨y,h1,h2⟩:=qXb n ty t _ _ hty (by rw[hs];rfl) hn;rw[hy y h1] at h2;exact⟨y,h1,h2.rep 0 y v rfl rfl⟩
 cases ty with
 | int k=>
  obtain⟨m,hv⟩:=okWide_int (zVw hty) hval;exact scalar _ hv rfl rfl (fun y hy=>by obtain⟨_,_,rfl⟩:=hy;rfl)
 | bool=>
  simp only[Ty.ok] at hty;split at hty
  ·rename_i hu;obtain⟨m,hv⟩:=okWide_bool hu hval;exact scalar _ hv rfl rfl (fun y hy=>by obtain⟨_,rfl⟩:=hy;rfl)
  ·cases hty
 | str=>
  simp only[Ty.ok] at hty;split at hty
  ·rename_i hu;obtain⟨m,hv⟩:=okWide_string hu hval;exact scalar _ hv rfl rfl (fun y hy=>by obtain⟨_,_,rfl⟩:=hy;rfl)
  ·cases hty
 | sl e=>
  have hty':=hty;simp only[Ty.ok] at hty';split at hty'
  ·rename_i te hu;obtain⟨a,l,c,hv⟩:=okWide_slice hu hval;exact scalar _ hv rfl rfl (fun y hy=>by obtain⟨_,_,_,rfl⟩:=hy;rfl)
  ·cases hty'
 | st fs=>
  have hagg : ∃ cs,v = .agg cs∧cs.size=P.cellsOf t:=by
   have hty':=hty;simp only[Ty.ok,Bool.and_eq_true] at hty';obtain⟨_,h2⟩:=hty';unfold Value.okWide at hval;split at h2
   ·rename_i hu;rw[hu] at hval;obtain⟨cs,h3,h4,_⟩:=hval;exact⟨cs,h3,h4⟩
   ·rename_i hu;rw[hu] at hval;obtain⟨cs,h3,h4,_⟩:=hval;exact⟨cs,h3,h4⟩
   ·cases h2
  obtain⟨cs,rfl,hsz⟩:=hagg;have hsz2:cs.size=Ty.sizeL fs:=by
   simp only[Ty.ok,Bool.and_eq_true] at hty;rw[hsz];exact Nat.eq_of_beq_eq_true hty.1
  obtain⟨y,h1,h2⟩:=qXb n (.st fs) t _ _ hty (by show cs.toList.length=Ty.sizeL fs;simpa using hsz2) hn;obtain⟨ds,h3,rfl⟩:=h1;refine⟨.agg ds,⟨ds,h3,rfl⟩,.agg ds cs ?_ ?_ ?_⟩
  ·have:=h2.len;simpa [Value.cells,T.cells] using this.symm
  ·intro u hu;exact h2.one u (by simpa [Value.cells] using hu)
  ·intro i c u hc hu;exact h2.rep i c u hc (by simpa [Value.cells] using hu)
theorem zBk : ∀ {tys:List Ty} {ts:List TypeId} {vs:List Value} {ds:List (DataW H)} {ps:List MemPlace} {b0:Nat},xT (fun (ty:Ty) (t:TypeId)=>ty.ok P t=true) tys ts→
  (∀ (j:Nat) t v,ts[j]?=some t→vs[j]?=some v→Value.okWide P w .any b0 t v)→DataW.TrodAll enc P w base sp held ts vs ds ps→
  ∃ ys:List T,xT (fun (ty:Ty) (y:T)=>ty.is y) tys ys∧xT (qS (fun _=>none) (fun b=>b<w.heap.size) w) (ys.map V.t) vs
 | [],ts,vs,ds,ps,b0,h,hv,hd=>by
  cases h;obtain⟨rfl,_,_⟩:=trodAll_nil hd;exact⟨[],.nil,.nil⟩
 | ty::tys,ts,vs,ds,ps,b0,h,hv,hd=>by
  cases h with
  | cons h1 h2=>
   obtain⟨v,vs',d,ds',p,q,rfl,rfl,rfl,hd1,hd2⟩:=trodAll_cons hd;obtain⟨y,hy1,hy2⟩:=zIk h1 (hv 0 _ v rfl rfl) hd1;obtain⟨ys,h3,h4⟩:=zBk h2 (fun j t v' ht hv'=>hv (j+1) t v' ht hv') hd2;exact⟨y::ys,.cons hy1 h3,.cons (.t hy2) h4⟩
end
end Go.Eng
end
section
set_option maxRecDepth 20000
namespace Go.Eng
open Go.ChangeShapes Go.WideShapes Go.RowKit Go.WideElems
section
variable {H:Type} {enc:TypeId×Value→H} {P:Program}
theorem zEg {W W':World}(hfr : ∀ b,b<W.heap.size→W'.heap[b]?=W.heap[b]?){p:MemPlace}(hp:p.block<W.heap.size):W.sameAt W' p:=by
 cases p with
 | cell b off=>exact World.cell?_of_block (hfr b hp)
 | map b=>exact hfr b hp
theorem zAe (hl:laidOutB P=true){W W':World}(hfr : ∀ b,b<W.heap.size→W'.heap[b]?=W.heap[b]?){sp:Nat→Bool} :
  ∀ {ts:List TypeId} {vs:List Value} {ds:List (DataW H)} {ps:List MemPlace},(∀ t∈ts,P.readableRec t=true∧t<P.types.size)→(∀ p∈ps,p.block<W.heap.size∧sp p.block=true)→
   DataW.TrodAll enc P W 0 (fun _=>true) true ts vs ds ps→DataW.TrodAll enc P W' 0 sp true ts vs ds ps
 | [],vs,ds,ps,_,_,h=>by
  obtain⟨rfl,rfl,rfl⟩:=trodAll_nil h;exact trodAll_mk0
 | t::ts,vs,ds,ps,ht,hp,h=>by
  obtain⟨v,vs',d,ds',p,q,rfl,rfl,rfl,h1,h2⟩:=trodAll_cons h;obtain⟨hr,hrow⟩:=ht t (.head _);exact⟨p,q,Trod_stays hl hr hrow h1 (fun x hx=>zEg hfr (hp x (List.mem_append_left _ hx)).1) (fun x hx=>(hp x (List.mem_append_left _ hx)).2),
   zAe hl hfr (fun t' ht'=>ht t' (.tail _ ht')) (fun x hx=>hp x (List.mem_append_right _ hx)) h2,rfl⟩
theorem zRx {fn:Func}{s:ChangeSpec}{tb:TypeId}{apart fresh handsOn again:Bool}{W W':World}{args:Array Value}{ds gs:List (DataW H)}{before:List MemPlace}
  (hl:laidOutB P=true) (hts : ∀ t∈fn.params.toList,P.readableRec t=true∧t<P.types.size) (hrt:fn.resultTypes = #[tb]) (hb:P.underlying tb=some .bool) (hsv:s.vars=[])
  (hfn:(s.fn H (ds++gs)).results=[.lit (.bool true)]∧(s.fn H (ds++gs)).args=ds∧(s.fn H (ds++gs)).vars=[])
  (hW:DataW.Whole enc P fn.params.toList s.vars apart W args.toList ds gs before)
  (hos:W'.os=W.os) (hout:W'.output=W.output) (hfr : ∀ b,b<W.heap.size→W'.heap[b]?=W.heap[b]?) :
  s.post enc P fn apart fresh handsOn again W args (.bool true) W':=by
 have hlt : ∀ p∈before,p.block<W.heap.size:=fun p hp=>hW.lt p hp
 have hW':=hW;obtain⟨p,q,hA,hV,rfl,hz,hn⟩:=hW';rw[hsv] at hV;obtain⟨rfl,rfl⟩:=trodVars_none hV;have hres : ∀ (b:Nat) (sp:Nat→Bool) (hd:Bool),DataW.TrodAll enc P W' b sp hd fn.resultTypes.toList ((Value.bool true).resultList fn.resultTypes.size) (s.fn H (ds++[])).results []:=by
  intro b sp hd;rw[hrt,hfn.1];exact trodAll_mk1 (shut_bool hb true)
 have hargs : ∀ sp:Nat→Bool,(∀ x∈p++[],sp x.block=true)→DataW.TrodAll enc P W' 0 sp true fn.params.toList args.toList (s.fn H (ds++[])).args p:=by
  intro sp hsp;rw[hfn.2.1];exact zAe hl hfr hts (fun x hx=>⟨hlt x (by simpa using hx),hsp x (by simpa using hx)⟩) hA
 have hvars : ∀ sp:Nat→Bool,DataW.TrodVars enc P W' sp s.vars (s.fn H (ds++[])).vars []:=by
  intro sp;rw[hsv,hfn.2.2];rfl
 refine⟨ds,[],_,[],p,[],hW,hres _ _ _,hargs _ (fun x hx=>by simpa using hlt x hx),hvars _,⟨hos,hout,fun i hi=>?_⟩,fun _=>?_⟩
 ·have e:=hfr i hi;revert e;generalize W'.heap[i]?=o';intro e;subst e;split
  ·rename_i h1 h2;rw[h1] at h2;cases h2;exact⟨rfl,rfl,rfl,fun _ _=>rfl⟩
  ·rename_i h1 h2;rw[h1] at h2;cases h2;exact .inr ⟨rfl,rfl⟩
  ·rfl
 ·refine⟨ok_one hrt rfl (okWide_bool_mk hb _),_,_,([]++p)++[],⟨[]++p,[],trodAll_append (hargs _ (fun _ _=>rfl)) (hres _ _ _),hvars _,rfl,?_,?_⟩,?_⟩
  ·intro b off hx;have hx':MemPlace.cell b off∈p++[]:=by simpa using hx
   have e:W'.frozen? ⟨b,off,none⟩=W.frozen? ⟨b,off,none⟩:=by
    unfold World.frozen?;rw[hfr b (hlt _ hx')]
   rw[e];exact hz b off hx'
  ·intro ha;have:=hn ha;simpa using this
  ·intro x hx _;simpa using hx
theorem qN4 {w:World} : ∀ {laid:List (String×DataW Unit)} {ps:List MemPlace},DataW.LaidVars P w laid ps → ∀ x∈laid,∃ g t cs fuel p,P.globalNamed x.1=some g∧(P.globals[g]?).map (·.type)=some t∧w.var? P x.1=some cs∧
   DataW.trod (fun _=>()) P w 0 (fun _=>true) false fuel t cs.toList=some (x.2,p)
 | [],_,_,x,hx=>by cases hx
 | y::r,ps,h,x,hx=>by
  obtain⟨g,t,cs,fuel,p,q,h1,h2,h3,h4,h5,_⟩:=h;rcases List.mem_cons.1 hx with rfl | hx
  ·exact⟨g,t,cs,fuel,p,h1,h2,h3,h4⟩
  ·exact qN4 h5 x hx
theorem zNf {w:World}{nm:String}{g t e n:Nat}{k:IntKind}{ns:List Int}{cs:Array Value}{fuel:Nat}{p:List MemPlace}{F:Nat→Prop}(hg:P.globalNamed nm=some g)(hv:w.var? P nm=some cs)
  (ht:P.underlying t=some (.array n e)) (he:P.underlying e=some (.int k)) (hc:P.cellsOf e=1) (hct:P.cellsOf t=n) (hn:0<ns.length)
  (h:DataW.trod (fun _=>()) P w 0 (fun _=>true) false fuel t cs.toList=some (.agg (ns.map fun m=> .lit (.int k m)),p)) (hF:g<w.heap.size→F g) :
  qS (fun _=>none) F w (.ro (ns.map (T.int k))) (.pointer (some ⟨g,0,none⟩)):=by
 obtain⟨xs,m,_,hx,hl,hxl,hget⟩:=DataW.trod_array ht h;simp only[Prod.mk.injEq,DataW.agg.injEq] at hx;have hlen:ns.length=n:=by
  have:=congrArg List.length hx.1;simp only[List.length_map] at this;omega
 have hcl:cs.toList.length=n:=by rw[hl,hct]
 have hcell : ∀ i,i<n→cs.toList[i]?=some (.int k (ns.getD i 0)):=by
  intro i hi;have h1:=hget i hi;have h2:xs[i]?=some xs[i]:=List.getElem?_eq_getElem oM;rw[h2,hc,Nat.mul_one] at h1;obtain⟨z,hz1,hz2,_⟩:=DataW.trod_int he h1;have h3:cs.toList[i]?=some (.int k z):=by
   have h4:=congrArg (fun l=>l[0]?) hz1;simp only[List.getElem?_take,List.getElem?_drop,Nat.add_zero,List.getElem?_cons_zero] at h4;simpa using h4
  have h5:=congrArg (fun l=>l[i]?) hx.1;simp only[List.getElem?_map,h2,oms,hz2] at h5;have h6:ns[i]?=some ns[i]:=List.getElem?_eq_getElem oM;rw[h6] at h5;simp only[oms,Option.some.injEq,DataW.lit.injEq,Lit.int.injEq,true_and] at h5;rw[h3,List.getD_eq_getElem?_getD,h6,h5];rfl
 have hw : ∀ j,w.cell? ((⟨g,0,none⟩:Addr).add j)=cs.toList[j]?:=by
  intro j;have e:(⟨g,0,none⟩:Addr).add j=⟨g,j,none⟩:=by
   unfold Addr.add;split
   ·rename_i h0;rw[h0]
   ·simp
  rw[e,World.var?_cell hg hv j,Array.getElem?_toList]
 refine .ro (ns.map (T.int k)) ⟨g,0,none⟩ cs.toList rfl (by rw[hcl,List.length_map,hlen]) ?_ (hF ?_) (fun j u hu=>(hw j).trans hu) ?_
 ·intro u hu;obtain⟨i,hi⟩:=List.getElem?_of_mem hu;rw[hcell i (by rw[←hcl];exact (List.getElem?_eq_some_iff.1 hi).1)] at hi;cases hi;rfl
 ·have h0:=hw 0;rw[hcell 0 oM] at h0;have:=(qTd h0).1;rw[qBo] at this;exact this
 ·intro j c u hcj hu;rw[List.getElem?_map,Option.map_eq_some_iff] at hcj;obtain⟨z,hz,rfl⟩:=hcj;rw[hcell j (by rw[←hlen];exact (List.getElem?_eq_some_iff.1 hz).1)] at hu;cases hu;rw[List.getD_eq_getElem?_getD,hz];exact .int k z
theorem zL2 {w:World}{nm:String}{g t e n:Nat}{k:IntKind}{ns:List Int}{cs:Array Value}{fuel:Nat}{p:List MemPlace}(hg:P.globalNamed nm=some g)(hv:w.var? P nm=some cs)
  (ht:P.underlying t=some (.array n e)) (hct:P.cellsOf t=n)
  (h:DataW.trod (fun _=>()) P w 0 (fun _=>true) false fuel t cs.toList=some (.agg (ns.map fun m=> .lit (.int k m)),p)):GSz w g (ns.map (T.int k)).length:=by
 obtain⟨xs,m,_,hx,hl,hxl,hget⟩:=DataW.trod_array ht h;simp only[Prod.mk.injEq,DataW.agg.injEq] at hx;have hlen:ns.length=n:=by
  have:=congrArg List.length hx.1;simp only[List.length_map] at this;omega
 have hcl:cs.toList.length=n:=by rw[hl,hct]
 unfold World.var? at hv;rw[hg,Option.bind_some] at hv;split at hv
 ·rename_i c e z hc;cases hv;exact⟨_,e,z,hc,by rw[List.length_map,hlen,←hcl];simp⟩
 ·cases hv
theorem qKt {w:World}{base:Nat}{sp:Nat→Bool}{held:Bool} : ∀ {ts:List TypeId} {vs:List Value} {ds:List (DataW H)} {ps:List MemPlace},DataW.TrodAll enc P w base sp held ts vs ds ps→ds.length=ts.length
 | [],_,_,_,h=>by obtain⟨rfl,rfl,rfl⟩:=trodAll_nil h;rfl
 | _::_,_,_,_,h=>by
  obtain⟨_,_,_,_,_,_,rfl,rfl,rfl,_,h2⟩:=trodAll_cons h;simp[qKt h2]
end
theorem zIg {H:Type}{enc:TypeId×Value→H}{C:Checked}{os:Os}{f:FuncId}{fn:Func}{s:ChangeSpec}{laid:List (String×DataW Unit)}{tys:List Ty}{G:Nat→Option (List T)}{tb:TypeId}{apart fresh handsOn again:Bool}
  (own:ownKnob C.prog.godebug=none) (started:os.Started) (noInit:C.prog.inits.idxOf? f=none) (hfn:C.prog.funcs[f]?=some fn)
  (witness : ∃ (w:World) (tape:Tape) (i:Input),w.os=os∧(w.forCall tape i).Shaped C.prog∧i.vars=[]∧Input.okWide C.prog (w.forCall tape i) .any w.heap.size f i∧
   ((s.pre enc C.prog fn [] apart (w.forCall tape i).memory i.args∧laidMetH C.prog laid (w.forCall tape i).memory)∧sizedMet enc C.prog fn (OpenSpec.ofChange s) apart (w.forCall tape i).memory i.args)∧({}:Assume).holds C.prog (lone (Frame.enter C.prog f i.args .normal) [] (w.forCall tape i)))
  (hl:laidOutB C.prog=true) (hts:fn.params.toList.all (fun t=>C.prog.readableRec t&&Nat.blt t C.prog.types.size)=true) (hrt:fn.resultTypes = #[tb]) (hb:C.prog.underlying tb=some .bool) (hsv:s.vars=[])
  (hspec : ∀ ds:List (DataW H),ds.length=tys.length→(s.fn H ds).results=[.lit (.bool true)]∧(s.fn H ds).args=ds∧(s.fn H ds).vars=[])
  (htys:xT (fun (ty:Ty) (t:TypeId)=>ty.ok C.prog t=true) tys fn.params.toList)
  (henv : ∀ W,laidMetH C.prog laid W→zJ4 G (fun b=>b<W.heap.size) W)
  (hlaw : ∀ ys,xT (fun (ty:Ty) (y:T)=>ty.is y) tys ys→zFp C.prog G f (ys.map V.t) [] (.t (.bool true)) []) :
  ReturnsInHanded {} C os f .any (fun w args=>(s.pre enc C.prog fn [] apart w args∧laidMetH C.prog laid w)∧sizedMet enc C.prog fn (OpenSpec.ofChange s) apart w args) (s.post enc C.prog fn apart fresh handsOn again):=by
 have hts' : ∀ t∈fn.params.toList,C.prog.readableRec t=true∧t<C.prog.types.size:=by
  intro t ht;have:=List.all_eq_true.1 hts t ht;rw[Bool.and_eq_true] at this;exact⟨this.1,by simpa [Nat.blt_eq] using this.2⟩
 refine returnsInHanded_of_change_and (C:=C) (X:=fun w _=>laidMetH C.prog laid w) (fun _ _ _ hh h=>laidMetH.of_heap hh h) own started noInit hfn witness ?_;intro W base args ds gs before hval hW _ _ hL _;have hW':=hW;obtain⟨p,q,hA,hV,rfl,_,_⟩:=hW';rw[hsv] at hV;obtain⟨rfl,rfl⟩:=trodVars_none hV;obtain⟨ys,hys,hreps⟩:=zBk htys (fun j t v ht hv=>hval j t v (by simpa using ht) (by simpa using hv)) hA;have hlen:ds.length=tys.length:=by rw[qKt hA,htys.length]
 have hcall:=hlaw ys hys W (fun _=>none) (fun b=>b<W.heap.size) args (henv W hL)
  ⟨fun k o h=>by simp at h,fun _ _=>rfl,fun _ _ _ _ _ h=>by simp at h,fun _ _ _ h=>by simp at h⟩ hreps
 refine hcall.mono fun e W' ⟨x,β',F',he,hp⟩=>?_
 subst he;have hx:x = .bool true:=by
  have:=hp.res;cases this with
  | t h=>cases h;rfl
 subst hx;exact⟨_,rfl,zRx hl hts' hrt hb hsv (by rw[List.append_nil];exact hspec ds hlen) hW hp.os hp.output (fun b hb=>hp.frame b hb (fun _ _ h=>by simp at h))⟩
end Go.Eng
end
section
set_option maxRecDepth 20000
namespace Go.Eng
open Go.ChangeShapes Go.WideShapes Go.RowKit Go.WideElems
theorem qW4 {α β:Type}{f:α→β}{m:Nat} : ∀ {rows:List (List α)} {l:List β},l.length=rows.length*m→(∀ r∈rows,r.length=m)→(∀ i j,i<rows.length→j<m→l[i*m+j]?=((rows[i]?).bind (·[j]?)).map f)→l=rows.flatten.map f
 | [],l,hl,_,_=>by
  have:l.length=0:=by simpa using hl
  rw[List.length_eq_zero_iff.1 this];rfl
 | r::rs,l,hl,hr,h=>by
  have hlr:=hr r (.head _);have hl':l.length=m+rs.length*m:=by rw[hl,List.length_cons,Nat.succ_mul,Nat.add_comm]
  have e1:l.take m=r.map f:=by
   refine List.ext_getElem? fun j=>?_
   by_cases hj:j<m
   ·have:=h 0 j sM hj;simp only[Nat.zero_mul,Nat.zero_add,List.getElem?_cons_zero,Option.bind_some] at this;rw[List.getElem?_take_of_lt hj,this,List.getElem?_map]
   ·rw[List.getElem?_eq_none (by rw[List.length_take];omega),List.getElem?_eq_none (by rw[List.length_map];omega)]
  have e2:l.drop m=rs.flatten.map f:=by
   refine qW4 (m:=m) (by rw[List.length_drop];omega) (fun x hx=>hr x (.tail _ hx)) fun i j hi hj=>?_
   have:=h (i+1) j soM hj;rw[List.getElem?_drop,←Nat.add_assoc,Nat.add_comm m,←Nat.succ_mul,this,List.getElem?_cons_succ]
  rw[List.flatten_cons,List.map_append,←e1,←e2,List.take_append_drop]
variable {P:Program}
theorem zHj {w:World}{t e n m:Nat}{k:IntKind}{rows:List (List Int)}{cs:List Value}{fuel:Nat}{p:List MemPlace}{fs:Array Field}
  (ht:P.underlying t=some (.array n e)) (he:P.underlying e=some (.struct fs)) (hc:P.cellsOf e=m) (hfs:fs.size=m) (hm:0<m)
  (hf : ∀ j<m,∃ f,fs[j]?=some f∧f.offset=j∧P.cellsOf f.type=1∧P.underlying f.type=some (.int k)) (hct:P.cellsOf t=n*m) (hr : ∀ r∈rows,r.length=m)
  (h:DataW.trod (fun _=>()) P w 0 (fun _=>true) false fuel t cs=some (.agg (rows.map fun r=> .agg (r.map fun x=> .lit (.int k x))),p)):rows.length=n∧cs=rows.flatten.map (Value.int k):=by
 obtain⟨xs,q,_,hx,hl,hxl,hget⟩:=DataW.trod_array ht h;simp only[Prod.mk.injEq,DataW.agg.injEq] at hx;have hlen:rows.length=n:=by
  have:=congrArg List.length hx.1;simp only[List.length_map] at this;omega
 refine⟨hlen,qW4 (m:=m) (by rw[hl,hct,hlen]) hr fun i j hi hj=>?_⟩;have h1:=hget i oM;have h2:xs[i]?=some xs[i]:=List.getElem?_eq_getElem oM;rw[h2,hc] at h1;obtain⟨ys,q',_,hy,hyl,hysz,hyg⟩:=DataW.trod_struct he h1;obtain⟨f,f1,f2,f3,f4⟩:=hf j hj;have g1:=hyg j f f1;have g2:ys[j]?=some ys[j]:=List.getElem?_eq_getElem oM;rw[g2,f2,f3] at g1;obtain⟨z,hz1,hz2,_⟩:=DataW.trod_int f4 g1;have h3:cs[i*m+j]?=some (.int k z):=by
  have h4:=congrArg (fun l=>l[0]?) hz1;simp only[List.getElem?_take,List.getElem?_drop,List.getElem?_cons_zero] at h4;have h5:0<1:=oM;simp only[h5,if_true,Nat.add_zero,hj] at h4;exact h4
 have hri:rows[i]?=some rows[i]:=List.getElem?_eq_getElem hi;have h5:=congrArg (fun l=>l[i]?) hx.1;simp only[List.getElem?_map,h2,hri,oms] at h5;have hy1:=congrArg (·.1) hy;simp only at hy1;rw[hy1] at h5;simp only[Option.some.injEq,DataW.agg.injEq] at h5;have h6:=congrArg (fun l=>l[j]?) h5;simp only[List.getElem?_map,g2,oms] at h6;have hrl:=hr rows[i] (List.getElem_mem hi);have hrj:(rows[i])[j]?=some ((rows[i])[j]'(oM)):=List.getElem?_eq_getElem oM;rw[hrj] at h6;simp only[oms,Option.some.injEq,hz2,DataW.lit.injEq,Lit.int.injEq,true_and] at h6;rw[h3,hri,Option.bind_some,hrj,Option.map_some,h6]
theorem zIo {w:World}{nm:String}{g t e n m:Nat}{k:IntKind}{rows:List (List Int)}{cs:Array Value}{fuel:Nat}{p:List MemPlace}{fs:Array Field}{F:Nat→Prop}(hg:P.globalNamed nm=some g)(hv:w.var? P nm=some cs)
  (ht:P.underlying t=some (.array n e)) (he:P.underlying e=some (.struct fs)) (hc:P.cellsOf e=m) (hfs:fs.size=m) (hm:0<m)
  (hf : ∀ j<m,∃ f,fs[j]?=some f∧f.offset=j∧P.cellsOf f.type=1∧P.underlying f.type=some (.int k)) (hct:P.cellsOf t=n*m) (hr : ∀ r∈rows,r.length=m) (hn:0<rows.flatten.length)
  (h:DataW.trod (fun _=>()) P w 0 (fun _=>true) false fuel t cs.toList=some (.agg (rows.map fun r=> .agg (r.map fun x=> .lit (.int k x))),p)) (hF:g<w.heap.size→F g) :
  qS (fun _=>none) F w (.ro (rows.flatten.map (T.int k))) (.pointer (some ⟨g,0,none⟩)):=by
 obtain⟨_,hcs⟩:=zHj ht he hc hfs hm hf hct hr h;have hw : ∀ j,w.cell? ((⟨g,0,none⟩:Addr).add j)=cs.toList[j]?:=by
  intro j;have e:(⟨g,0,none⟩:Addr).add j=⟨g,j,none⟩:=by
   unfold Addr.add;split
   ·rename_i h0;rw[h0]
   ·simp
  rw[e,World.var?_cell hg hv j,Array.getElem?_toList]
 refine .ro (rows.flatten.map (T.int k)) ⟨g,0,none⟩ cs.toList rfl (by rw[hcs,List.length_map,List.length_map]) ?_ (hF ?_) (fun j u hu=>(hw j).trans hu) ?_
 ·intro u hu;rw[hcs,List.mem_map] at hu;obtain⟨z,_,rfl⟩:=hu;rfl
 ·have h0:=hw 0;rw[hcs,List.getElem?_map,List.getElem?_eq_getElem hn,Option.map_some] at h0;have:=(qTd h0).1;rw[qBo] at this;exact this
 ·intro j c u hcj hu;rw[List.getElem?_map,Option.map_eq_some_iff] at hcj;obtain⟨z,hz,rfl⟩:=hcj;rw[hcs,List.getElem?_map,hz,Option.map_some] at hu;cases hu;exact .int k z
theorem zIc {w:World}{nm:String}{g t e n m:Nat}{k:IntKind}{rows:List (List Int)}{cs:Array Value}{fuel:Nat}{p:List MemPlace}{fs:Array Field}(hg:P.globalNamed nm=some g)(hv:w.var? P nm=some cs)
  (ht:P.underlying t=some (.array n e)) (he:P.underlying e=some (.struct fs)) (hc:P.cellsOf e=m) (hfs:fs.size=m) (hm:0<m)
  (hf : ∀ j<m,∃ f,fs[j]?=some f∧f.offset=j∧P.cellsOf f.type=1∧P.underlying f.type=some (.int k)) (hct:P.cellsOf t=n*m) (hr : ∀ r∈rows,r.length=m)
  (h:DataW.trod (fun _=>()) P w 0 (fun _=>true) false fuel t cs.toList=some (.agg (rows.map fun r=> .agg (r.map fun x=> .lit (.int k x))),p)):GSz w g (rows.flatten.map (T.int k)).length:=by
 obtain⟨_,hcs⟩:=zHj ht he hc hfs hm hf hct hr h;unfold World.var? at hv;rw[hg,Option.bind_some] at hv;split at hv
 ·rename_i c e z hc;cases hv;refine⟨_,e,z,hc,?_⟩;have:=congrArg List.length hcs;rw[List.length_map] at this;rw[List.length_map,←this];simp
 ·cases hv
end Go.Eng
end
