/- A part of an abstract machine, its walks, their tie. -/
import Derived.Test.YtlhjonbjbiafaaaGreatDoorRows
import Derived.KernelRfl
import Derived.Test.YtlhjonbjbiafaaaGreatDoorU30
import Derived.Test.YtlhjonbjbiafaaaGreatDoorU20
import Derived.Test.YtlhjonbjbiafaaaGreatDoorU23
import Derived.Test.YtlhjonbjbiafaaaGreatDoorU25
import Derived.Test.YtlhjonbjbiafaaaGreatDoorU29
import Derived.Test.YtlhjonbjbiafaaaGreatDoorU31
import Derived.Test.YtlhjonbjbiafaaaGreatDoorU24
import Derived.Test.YtlhjonbjbiafaaaGreatDoorU26
import Derived.Test.YtlhjonbjbiafaaaGreatDoorU28
import Derived.Test.YtlhjonbjbiafaaaGreatDoorU27
import Derived.Test.YtlhjonbjbiafaaaGreatDoorU9
import Derived.WideKeyArgs
import Derived.Handed
import Derived.OpenShut
import Derived.RowKit
import Derived.ProofKit
import Derived.LaidMore
import Derived.MakeChecks
import Derived.Stop.Joined
import Derived.Test.YtlhjonbjbiafaaaGreatDoorTie
import Derived.Test.YtlhjonbjbiafaaaGreatDoorCards
import Derived.Lay
import Derived.SevenTiedAt
set_option linter.all false
section
set_option maxRecDepth 100000
namespace Go.Eng
open Go.Proofs Go.Proofs.YtlhjonbjbiafaaaGreatDoor
def gl0:Gl:=fun g=>if g=2 then some (zAd.map zU) else if g=0 then some (zV2) else if g=1 then some (zPi) else none
abbrev TO (t:Tab):Prop:=qFl Tryz.prog gl0 t
structure TT where
 t:Tab
 h:TO t
def T0:TT:=⟨[],qFl.nil⟩
noncomputable section
def aE {n:Nat}{E:ECt}(T:TT)(h : ∃ g:EF E,FOk Tryz.prog gl0 n (E.fs g)):TT:=⟨(n,E.fs h.choose)::T.t,.cons h.choose_spec T.h⟩
def aF {n:Nat}{f:FnS}(T:TT)(h:FOk Tryz.prog gl0 n f):TT:=⟨(n,f)::T.t,.cons h T.h⟩
abbrev Cl (n:Nat)(fn:Func)(rs:List (Nat×Option (Nat×Bool))):Prop:=Tryz.prog.funcs[n]?=some fn∧(fn.name == "runtime.NumGoroutine")=false∧fn.body=some (fn.body.getD .skip)∧Tryz.prog.follows .mixedOrders=true∧qNt Tryz.prog fn.results.toList=some rs
def xE (n:Nat)(T:TT)(E:ECt){fn:Func}{h:List (Nat×List Nat)}{rs:List (Nat×Option (Nat×Bool))}(c:AF fn h)(w : ∀ x,E.pre x→c.1.wp T.t gl0 (qF 0 (E.aS x)) (qF 0 (E.ins x)) (zD rs (E.ins x).length (E.K x)))(k:Cl n fn rs:=by exact⟨by kernel_rfl,by kernel_rfl,by kernel_rfl,by kernel_rfl,by kernel_rfl⟩)(z:c.1.strict=true:=by kernel_rfl)(u : ∀ x,(E.aS x).length≤fn.ntmps:=by exact fun _=>Nat.le_of_ble_eq_true (by kernel_rfl))(v : ∀ x,(E.ins x).length≤100:=by exact fun _=>Nat.le_of_ble_eq_true (by kernel_rfl)):TT:=aE (n:=n) T (jLf _ _ _ _ T.h E w k.1 k.2.1 k.2.2.1 c.2 k.2.2.2.1 k.2.2.2.2 z u v)
def xG (n:Nat)(T:TT)(E:ECt){fn:Func}{h:List (Nat×List Nat)}{rs:List (Nat×Option (Nat×Bool))}(c:AF fn h)(w : ∀ x,E.pre x→c.1.wp T.t gl0 (qF 0 (E.aS x)) (qF 0 (E.ins x)) (kU [] rs (E.ins x).length (E.K x)))(k:Cl n fn rs:=by exact⟨by kernel_rfl,by kernel_rfl,by kernel_rfl,by kernel_rfl,by kernel_rfl⟩)(z:c.1.strict=true:=by kernel_rfl)(u : ∀ x,(E.aS x).length≤fn.ntmps:=by exact fun _=>Nat.le_of_ble_eq_true (by kernel_rfl))(v : ∀ x,(E.ins x).length≤100:=by exact fun _=>Nat.le_of_ble_eq_true (by kernel_rfl)):TT:=aE (n:=n) T (jLg [] _ _ _ _ T.h E w k.1 k.2.1 k.2.2.1 c.2 k.2.2.2.1 k.2.2.2.2 z u v)
def xW (n:Nat)(T:TT)(E:Ct){fn:Func}{h:List (Nat×List Nat)}{rs:List (Nat×Option (Nat×Bool))}(c:AF fn h)(w : ∀ x,E.pre x→c.1.wp T.t gl0 (qF 0 (E.aS x)) (qF 0 (E.ins x)) (zD rs (E.ins x).length (fun r' o'=>r'=E.r x∧o'=E.outs x)))(k:Cl n fn rs:=by exact⟨by kernel_rfl,by kernel_rfl,by kernel_rfl,by kernel_rfl,by kernel_rfl⟩)(u : ∀ x,(E.aS x).length≤fn.ntmps:=by exact fun _=>Nat.le_of_ble_eq_true (by kernel_rfl))(v : ∀ x,(E.ins x).length≤100:=by exact fun _=>Nat.le_of_ble_eq_true (by kernel_rfl)):TT:=aF (n:=n) T (jSf k.1 k.2.1 k.2.2.1 c.2 k.2.2.2.1 T.h k.2.2.2.2 E u v w)
def xF (fz:List Nat)(n:Nat)(T:TT)(E:Ct){fn:Func}{h:List (Nat×List Nat)}{rs:List (Nat×Option (Nat×Bool))}(c:AF fn h)(w : ∀ x,E.pre x→c.1.wp T.t gl0 (qF 0 (E.aS x)) (qF 0 (E.ins x)) (kU fz rs (E.ins x).length (fun r' o'=>r'=E.r x∧o'=E.outs x)))(k:Cl n fn rs:=by exact⟨by kernel_rfl,by kernel_rfl,by kernel_rfl,by kernel_rfl,by kernel_rfl⟩)(u : ∀ x,(E.aS x).length≤fn.ntmps:=by exact fun _=>Nat.le_of_ble_eq_true (by kernel_rfl))(v : ∀ x,(E.ins x).length≤100:=by exact fun _=>Nat.le_of_ble_eq_true (by kernel_rfl)):TT:=aF (n:=n) T (jSd fz k.1 k.2.1 k.2.2.1 c.2 k.2.2.2.1 T.h k.2.2.2.2 E u v w)
def T1:=xW 71 T0 zGm qEs fun _ _=>qZy T0.t _
def T2:=xF [] 98 T1 qXs qKo fun x _=>zJ0 T1.t _ x
def T3:=xF [] 170 T2 qM5 qF2 fun x hx=>zCo T2.t _ x hx
def T4:=xW 237 T3 qGf qEq fun x hx=>qZx T3.t _ x.1 x.2 hx.1 hx.2
def T5:=xW 238 T4 qO8 kV fun x hx=>qMq T4.t _ x.1 x.2 hx
def T6:=xW 171 T5 (xU 5 qCv) wM fun x hx=>qMx T5.t _ rfl rfl x hx
def T7:=xF [] 172 T6 qAx qCc fun x hx=>qUx T6.t _ x hx
def T8:=xW 173 T7 (xU 8 kC) kK fun x hx=>qJ9 T7.t _ rfl rfl rfl x.2 x.1 hx.1 hx.2
def T9:=xF [] 130 T8 xV kR fun x hx=>zCn T8.t _ rfl rfl rfl rfl x.1 hx.1 x.2 hx.2
def T10:=xF [] 131 T9 qXt qHs fun x hx=>zFh T9.t _ x.1 x.2 hx
def T11:=xF [] 99 T10 zGn qOx fun x hx=>zO2 T10.t _ rfl rfl x.1 x.2 hx.1 hx.2
def T12:=xW 72 T11 qS0 qCq fun x hx=>zCp T11.t _ rfl rfl x.1 x.2.1 x.2.2.1 x.2.2.2 hx.1 hx.2.1 hx.2.2.1 hx.2.2.2
def T13:=xW 40 T12 qX2 qAb fun x hx=>zFu T12.t _ rfl rfl x.1 x.2 hx
def T14:=xE 42 T13 qK4 qKm fun n hp=>zJs T13.t _ n hp
def T15:=xE 78 T14 zXp zDg fun ⟨l,i⟩ hp=>jTe T14.t _ l i hp
def T16:=xF [] 74 T15 yR qH7 fun x hx=>zFw T15.t _ x.1 x.2.1 x.2.2 hx.1 hx.2
def T17:=xF [] 77 T16 qE6 qH6 fun x hx=>zFv T16.t _ rfl x.1 x.2 hx.1 hx.2
def T18:=xF [] 79 T17 jSv qOz fun x hx=>jSn T17.t _ rfl x.1 x.2 hx
def T19:=xE 80 T18 zXr zAi fun b hp=>jS3 T18.t _ b
def T20:=xW 103 T19 wT yB fun x hx=>qMz T19.t _ x hx
def T21:=xF [] 81 T20 zXk wP fun x hx=>qOm T20.t _ rfl rfl x.1 x.2 hx
def T22:=xG 43 T21 qPd qSi fun s hp=>jSs T21.t _ rfl rfl rfl rfl rfl rfl s hp
def T23:=xE 73 T22 qIn qCe fun n hp=>qUn T22.t _ n hp
def T24:=xF [] 132 T23 qEa qC6 fun x hx=>qV3 T23.t _ x.1 hx.1 x.2 hx.2
def T25:=xF [] 100 T24 wI qEp fun x hx=>qZv T24.t _ rfl rfl x.1 x.2 hx.1 hx.2
def T26:=xE 75 T25 qIo qDb fun ⟨n,p⟩ hp=>qVq T25.t _ rfl rfl n p hp
def T27:=xW 102 T26 zAw qC8 fun x hx=>qV5 T26.t _ x.1 x.2 hx
def T28:=xE 133 T27 qGh qAl fun ⟨k,i⟩ hp=>zCi T27.t _ k i hp
def T29:=xW 101 T28 (qXr 102) qKn fun x hx=>zJz T28.t _ 102 rfl rfl x.1 x.2.1 x.2.2 hx
def T30:=xE 76 T29 qK8 qF3 fun ⟨k,i,b⟩ hp=>zCh T29.t _ rfl rfl k i b hp
def T31:=xE 41 T30 qGj qBe fun ⟨k,b,n,p⟩ hp=>qQ9 T30.t _ rfl rfl rfl rfl k b n p hp
def T32:=xE 82 T31 qK7 qHr fun k hp=>zE8 T31.t _ k
def T33:=xE 44 T32 qFd qEo fun d hp=>qZh T32.t _ rfl d
def T34:=xE 26 T33 qI0 qEm fun ⟨n,en,a⟩ hp=>qZf T33.t _ rfl rfl rfl rfl rfl n en a hp
def T35:=xE 46 T34 qI1 qAk fun d hp=>qPw T34.t _ rfl d
def T36:=xE 50 T35 qI2 kQ fun d hp=>qQ8 T35.t _ d
def T37:=xE 83 T36 qK6 qC7 fun k hp=>qVn T36.t _ k
def T38:=xE 104 T37 qK5 qD4 fun ⟨k,i⟩ hp=>zE7 T37.t _ rfl k i hp
def T39:=xF [8208] 106 T38 qId qKv fun x hx=>zJ5 T38.t _ x hx
def T40:=xW 137 T39 qO4 xS fun x hx=>zFx T39.t _ x.1 hx x.2
def T41:=xW 138 T40 wR yC fun x hx=>zC2 T40.t _ x hx
def T42:=xW 134 T41 qS4 vR fun x hx=>qQf T41.t _ rfl rfl x.1 hx.1 x.2 hx.2
def T43:=xW 118 T42 qIc vC fun x hx=>qOs T42.t _ rfl rfl x.1 hx.1 x.2 hx.2
def T44:=xW 120 T43 qO7 qAv fun x hx=>qQe T43.t _ x hx
def T45:=xE 105 T44 qLb xD fun ⟨b,w⟩ hp=>qUo T44.t _ rfl rfl rfl rfl rfl b w hp
def T46:=xE 84 T45 qLc yL fun ⟨k,b⟩ hp=>qPx T45.t _ rfl rfl rfl k b hp
def T47:=xE 108 T46 qS9 qH1 fun ⟨s,e,k,m⟩ hp=>qTa T46.t _ rfl rfl s e k m hp
def T48:=xE 107 T47 zGx qM1 fun ⟨s,e,k⟩ hp=>jJw T47.t _ rfl s e k hp
def T49:=xW 119 T48 qJt jK fun x hx=>qOq T48.t _ rfl rfl x.1 hx.1 x.2 hx.2
def T50:=xE 110 T49 qS8 qKr fun ⟨s,e⟩ hp=>zV4 T49.t _ rfl rfl s e hp
def T51:=xE 109 T50 jDl qOy fun ⟨s,e,n⟩ hp=>jKe T50.t _ rfl s e n hp
def T52:=xE 111 T51 zG2 qKs fun ⟨s,e⟩ hp=>zYf T51.t _ rfl s e hp
def T53:=xW 175 T52 kD kZ fun x _=>qZw T52.t _ x
def T54:=xW 321 T53 qJs qCp fun x hx=>zCm T53.t _ x hx
def T55:=xW 306 T54 qJs qKl fun x hx=>zJy T54.t _ rfl x hx
def T56:TT:=aF T55 (show FOk Tryz.prog gl0 307 zAv.fs from jEx (fn:=Tryz.f307) (ps := #[3]) (t:=22) (e:=5) (by kernel_rfl) (by kernel_rfl) (by kernel_rfl) (by kernel_rfl) (by kernel_rfl) (by kernel_rfl))
def T57:=xF [] 278 T56 qM6 qC5 fun x hx=>qV2 T56.t _ rfl rfl x.1 x.2 hx
def T58:=xF [] 239 T57 wG qBi fun x hx=>qRj T57.t _ rfl x.2 x.1 hx
def T59:=xF [] 174 T58 kN jH fun x hx=>qRm T58.t _ rfl rfl x
def T60:=xW 136 T59 qO5 xR fun x hx=>qOr T59.t _ x hx
def T61:=xW 114 T60 qK1 vQ fun x hx=>qQd T60.t _ rfl x hx
def T62:=xW 135 T61 zXj zO fun x hx=>qOk T61.t _ rfl rfl rfl rfl rfl rfl rfl x hx
def T63:=xE 112 T62 jDm qJ1 fun ⟨s,e⟩ hp=>zT2 T62.t _ rfl rfl s e hp
def T64:=xE 113 T63 jGc qJ0 fun ⟨s,e⟩ hp=>zOt T63.t _ rfl rfl rfl s e hp
def T65:=xE 85 T64 qS6 qSh fun b hp=>jSr T64.t _ rfl rfl rfl rfl rfl rfl rfl rfl rfl b hp
def T66:=xE 86 T65 qS5 qXd fun s hp=>jSz T65.t _ s
def T67:=xE 45 T66 qL7 qBd fun d hp=>qQ7 T66.t _ rfl rfl rfl rfl rfl d hp
def T68:=xE 47 T67 qI8 qE2 fun m hp=>qZs T67.t _ m
def T69:=xE 115 T68 qEb qDg fun _ hp=>qVw T68.t _
def T70:=xE 87 T69 qIz yV fun k hp=>qKk T69.t _ rfl k hp
def T71:=xE 88 T70 qGp yQ fun ⟨a,b⟩ hp=>qOd T70.t _ a b
def T72:=xE 89 T71 qGq vA fun h hp=>qJo T71.t _ h
def T73:=xF [] 22 T72 yR qH0 fun x hx=>zFr T72.t _ x.1 x.2.1 x.2.2 hx.1 hx.2
def T74:=xF [] 91 T73 qE6 qHz fun x hx=>zFq T73.t _ rfl x.1 x.2 hx.1 hx.2
def T75:=xE 49 T74 qFc qAp fun q hp=>qOe T74.t _ rfl rfl q hp
def T76:=xE 90 T75 qIy qAq fun q hp=>qOf T75.t _ rfl q hp
def T77:=xE 48 T76 qL4 jR fun q hp=>qKj T76.t _ rfl rfl rfl rfl q hp
def T78:=xE 30 T77 qL5 qDf fun q hp=>qVv T77.t _ rfl rfl q hp
def T79:=xE 116 T78 qIh qCa fun b hp=>qUi T78.t _ rfl b hp
def T80:=xE 117 T79 qIg qB9 fun k hp=>qUh T79.t _ rfl k hp
def T81:=xE 121 T80 qGg yK fun ⟨n,s⟩ hp=>qPv T80.t _ n s
def T82:=xE 92 T81 qIe qBc fun b hp=>qQ6 T81.t _ rfl rfl rfl rfl rfl rfl rfl rfl b hp
def T83:=xE 93 T82 qIf yI fun r hp=>qFx T82.t _ rfl rfl r hp
def T84:=xE 139 T83 qIi kJ fun n hp=>qVm T83.t _ n
def T85:=xE 140 T84 qIj qCb fun q hp=>qUj T84.t _ rfl rfl rfl q hp
def T86:=xE 122 T85 qK3 qB8 fun q hp=>qUg T85.t _ rfl rfl rfl rfl q hp
def T87:=xE 123 T86 qBm qEt fun ⟨s,e⟩ hp=>qZl T86.t _ s e
def T88:=xE 143 T87 qE8 qC9 fun ⟨s,h⟩ hp=>qVo T87.t _ s h hp
def T89:=xE 142 T88 qE9 vL fun ⟨s,h⟩ hp=>qUl T88.t _ s h hp
def T90:=xE 240 T89 qLa kI fun h hp=>qJ8 T89.t _ rfl h hp
def T91:=xE 186 T90 qIm qBb fun x hp=>qQ5 T90.t _ rfl rfl x hp
def T92:=xF [] 210 T91 qS1 qEl fun x hx=>qZu T91.t _ rfl x.1 x.2 hx
def T93:=xW 193 T92 qS2 qHq fun x hx=>zFf T92.t _ rfl rfl x.1 x.2 hx
def T94:=xE 176 T93 qE7 wW fun ⟨s,h⟩ hp=>qZj T93.t _ rfl rfl rfl rfl rfl s h hp
def T95:=xE 141 T94 qGi qEr fun ⟨s,h⟩ hp=>qZi T94.t _ rfl s h hp
def T96:=xE 124 T95 qLj wE fun ⟨s,q⟩ hp=>qRc T95.t _ rfl rfl rfl s q hp
def T97:=xF [] 241 T96 jF yW fun x hx=>qQg T96.t _ x hx
def T98:=xW 177 T97 qQj yA fun x hx=>qMy T97.t _ rfl rfl rfl x hx
def T99:=xE 144 T98 qTb qQv fun ⟨s,m⟩ hp=>jSq T98.t _ rfl rfl s m hp
def jMk:=xE 145 T99 qGl qBq fun ⟨s,c,e⟩ hp=>qZk T99.t _ rfl s c e
def jMl:=xE 146 jMk zLf qO0 fun ⟨s,m⟩ hp=>jSm jMk.t _ rfl s m
def jMm:=xW 242 jMl wD vP fun x _=>qP7 jMl.t _ x
def jMn:=xW 243 jMm qHi qDk fun x hx=>qWd jMm.t _ rfl x.1 x.2.1 hx.1 x.2.2 hx.2
def jMo:=xF [] 178 jMn zGq jT fun x hx=>qP6 jMn.t _ rfl rfl x.1 x.2.1 x.2.2.1 x.2.2.2 hx
def jMp:=xW 244 jMo qAw qAr fun x _=>qP8 jMo.t _ x.1 x.2
def jMq:=xW 179 jMp kM qZ fun x hx=>qOn jMp.t _ rfl rfl rfl rfl rfl rfl x hx
def jMr:=xW 180 jMq zDy kG fun x hx=>qP5 jMq.t _ rfl rfl rfl x.1 x.2.1 x.2.2.1 x.2.2.2.1 x.2.2.2.2 hx.1 hx.2.1 hx.2.2
def jMs:=xW 181 jMr qM7 zC fun x hx=>qOt jMr.t _ rfl rfl rfl rfl rfl rfl x hx
def jMt:=xE 147 jMs qLp qAm fun ⟨s,lo,q⟩ hp=>qPz jMs.t _ rfl rfl rfl rfl rfl rfl s lo q hp
def jMu:=xE 167 jMt qPc qSj fun ⟨s,n⟩ hp=>jSt jMt.t _ rfl rfl s n hp
def jMv:=xF [] 245 jMu qS3 qDd fun _ _=>qV6 jMu.t _
def jMw:=xF [] 168 jMv zAu zQ fun x hx=>qRl jMv.t _ x hx
def jMx:=xE 236 jMw qGn qEz fun ⟨s,k,x⟩ hp=>qZp jMw.t _ rfl s k x hp
def jMy:=xE 185 jMx qL2 qDl fun ⟨s,k⟩ hp=>qVy jMx.t _ rfl rfl rfl s k hp
def jMz:=xE 194 jMy qGo wF fun ⟨s,h⟩ hp=>qVz jMy.t _ s h hp
def jM0:=xE 153 jMz qFb qAs fun ⟨s,h⟩ hp=>qVx jMz.t _ rfl s h hp
def jM1:=xE 149 jM0 qLn qEu fun ⟨s,q⟩ hp=>qZm jM0.t _ rfl rfl rfl s q hp
def jM2:=xE 189 jM1 qL3 zY fun ⟨s,h⟩ hp=>qG7 jM1.t _ rfl s h hp
def jM3:=xW 267 jM2 qX0 qCg fun x _=>qUy jM2.t _ x.1 x.2.1 x.2.2
def jM4:=xW 266 jM3 qXu qAo fun x _=>qP2 jM3.t _ x
def jM5:=xE 268 jM4 qLw qDe fun ⟨e,b⟩ hp=>qVu jM4.t _ e b
def jM6:=xE 218 jM5 qIu jS fun a hp=>qVt jM5.t _ rfl rfl rfl a hp
def jM7:=xW 279 jM6 zQj qAt fun x hx=>qQb jM6.t _ x.1 x.2.1 x.2.2
def jM8:=xF [] 216 jM7 qGd xQ fun x hx=>qOl jM7.t _ rfl rfl rfl x.1 x.2.1 x.2.2.1 x.2.2.2 hx
def jM9:=xE 280 jM8 qL1 jD fun ⟨s,x,a⟩ hp=>qFy jM8.t _ rfl s x a hp
def jNa:=xW 284 jM9 zAt qAu fun x hx=>qQc jM9.t _ x.1 x.2
def jNb:=xW 309 jNa (zGl 284) jE fun x hx=>qKa jNa.t _ 284 rfl x.1 x.2 hx
def jNc:=xW 283 jNb (zGi 284) zI fun x hx=>qG9 jNb.t _ 284 rfl x.1 x.2 hx
def jNd:=xE 246 jNc qLz jI fun ⟨s,x,a⟩ hp=>qUv jNc.t _ rfl rfl rfl rfl s x a hp
def jNe:=xE 293 jNd qLv xK fun ⟨d,a⟩ hp=>qUt jNd.t _ rfl d a
def jNf:=xG 251 jNe qIv xJ fun ⟨d,a⟩ hp=>qUs jNe.t _ rfl rfl rfl d a hp
def jNg:=xE 192 jNf qIw qBj fun ⟨s,k,x,a⟩ hp=>qRf jNf.t _ rfl rfl s k x a hp
def jNh:=xE 187 jNg qLy jM fun ⟨s,h,a⟩ hp=>qRe jNg.t _ rfl rfl rfl rfl rfl s h a hp
def jNi:=xE 150 jNh qLk xH fun ⟨s,q⟩ hp=>qUp jNh.t _ rfl rfl rfl rfl rfl s q hp
def jNj:=xE 125 jNi qLo yZ fun ⟨s,lo,q⟩ hp=>qVr jNi.t _ rfl rfl rfl rfl rfl rfl rfl rfl s lo q hp
def jNk:=xE 202 jNj qIp yH fun ⟨c,h⟩ hp=>qFw jNj.t _ rfl c h hp
def jNl:=xE 258 jNk qLx qAi fun k hp=>qPt jNk.t _ k
def jNm:=xE 203 jNl qI4 qAj fun ⟨k,r,w⟩ hp=>qPu jNl.t _ rfl k r w hp
def jNn:=xE 195 jNm qLe zH fun c hp=>qCm jNm.t _ rfl rfl rfl c hp
def jNo:=xE 204 jNn qGk vI fun c hp=>qFh jNn.t _ c
def jNp:=xE 253 jNo qIk xO fun ⟨s,h⟩ hp=>qOc jNo.t _ rfl s h hp
def jNq:=xE 294 jNp qLh kF fun ⟨l,n⟩ hp=>qPy jNp.t _ l n hp
def jNr:=xE 254 jNq qLi qBf fun ⟨l,n⟩ hp=>qRa jNq.t _ rfl l n hp
def jNs:=xE 196 jNr qIr yY fun c hp=>qD3 jNr.t _ rfl rfl rfl c hp
def jNt:=xE 197 jNs qIl qDa fun ⟨s,h⟩ hp=>qVp jNs.t _ rfl s h hp
def jNu:=xW 255 jNt qK2 qD5 fun x hx=>zFg jNt.t _ x.1 x.2 hx
def jNv:=xE 198 jNu qIq yO fun ⟨c,a,b⟩ hp=>qD1 jNu.t _ rfl rfl rfl c a b hp
def jNw:=xE 154 jNv qLg yN fun ⟨c,x⟩ hp=>qD0 jNv.t _ rfl rfl rfl rfl rfl c x hp
def jNx:=xE 201 jNw qK9 qCd fun ⟨s,h⟩ hp=>qUm jNw.t _ rfl s h hp
def jNy:=xE 155 jNx qIs zP fun ⟨c,x,lo⟩ hp=>qC2 jNx.t _ rfl rfl rfl rfl rfl rfl rfl c x lo hp
def jNz:=xE 126 jNy qLd vN fun ⟨s,lo,q⟩ hp=>qPs jNy.t _ rfl rfl rfl s lo q hp
def jN0:=xE 205 jNz qGm qDc fun q hp=>qVs jNz.t _ q hp
def jN1:=xE 182 jN0 qLs xI fun ⟨q,i⟩ hp=>qUr jN0.t _ q i hp
def jN2:=xE 207 jN1 qFa qBr fun ⟨q,i⟩ hp=>qZn jN1.t _ q i hp
def jN3:=xE 206 jN2 qIt qAn fun q hp=>qP0 jN2.t _ rfl rfl q hp
def jN4:=xW 259 jN3 zVa qE3 fun x _=>qZ5 jN3.t _ x
def jN5:=xW 247 jN4 zGp qAh fun _ _=>qP1 jN4.t _
def jN6:=xW 188 jN5 qXz qF1 fun x hx=>zCl jN5.t _ rfl x.1 x.2 hx
def jN7:=xF [] 260 jN6 zGo qE4 fun x hx=>qZ6 jN6.t _ rfl x.1 x.2.1 x.2.2 hx
def jN8:=xE 208 jN7 qI3 qD8 fun ⟨k,p,au,da⟩ hp=>zFd jN7.t _ rfl rfl rfl rfl k p au da hp
def jN9:=xF [] 184 jN8 zGj zX fun x hx=>qRk jN8.t _ x hx
def jOa:=xE 209 jN9 qLr qEv fun ⟨s,x⟩ hp=>qZo jN9.t _ rfl s x hp
def jOb:=xE 156 jOa qLt qBg fun ⟨s,q⟩ hp=>qRd jOa.t _ rfl rfl rfl rfl rfl rfl rfl rfl rfl s q hp
def jOc:=xE 159 jOb qLu qCf fun ⟨s,q⟩ hp=>qUq jOb.t _ rfl rfl s q hp
def jOd:=xE 127 jOc qLl wC fun ⟨s,q⟩ hp=>qMp jOc.t _ rfl rfl rfl rfl rfl s q hp
def jOe:=xE 169 jOd qL0 xL fun ⟨s,h⟩ hp=>qUu jOd.t _ rfl rfl s h hp
def jOf:=xE 128 jOe qLf wK fun ⟨s,q⟩ hp=>qOb jOe.t _ rfl rfl rfl rfl s q hp
def jOg:=xE 94 jOf qLm jY fun ⟨s,lo,q⟩ hp=>qRb jOf.t _ rfl rfl rfl rfl rfl rfl rfl s lo q hp
def jOh:=xE 51 jOg qLq qF4 fun ⟨s,lo,b⟩ hp=>zCj jOg.t _ rfl rfl rfl s lo b hp
def jOi:=xE 52 jOh qL6 xC fun ⟨d,s⟩ hp=>qUk jOh.t _ rfl rfl rfl d s hp
def jOj:=xE 31 jOi qL8 qEn fun ⟨d,lo,b⟩ hp=>qZg jOi.t _ rfl rfl rfl rfl d lo b hp
def jOl:=xF [] 53 jOj qId qKq fun x hx=>zJ3 jOj.t _ x hx
def jOm:=xW 95 jOl kW jZ fun x hx=>zCz jOl.t _ x hx
def jOn:=xW 54 jOm qIc vB fun x hx=>qOj jOm.t _ rfl x.1 hx.1 x.2 hx.2
def jOo:=xW 55 jOn qJt jJ fun x hx=>qOh jOn.t _ rfl x.1 hx.1 x.2 hx.2
def jOp:=xW 96 jOo qO5 xP fun x hx=>qOi jOo.t _ x hx
def jOq:=xW 56 jOp qK1 vO fun x hx=>qP3 jOp.t _ rfl x hx
def jOr:=xE 32 jOq qIx yP fun b hp=>qHm jOq.t _ rfl rfl rfl rfl b hp
def jOs:=xE 16 jOr kE qO1 fun ⟨d,lo,q⟩ hp=>zOy jOr.t _ rfl rfl rfl d lo q hp
def jOt:=xE 12 jOs yS qBk fun ⟨d,lo,q,i,b⟩ hp=>zJt jOs.t _ rfl d lo q i b hp
def jOu:=xE 27 jOt qL9 qH3 fun d hp=>zFa jOt.t _ rfl rfl rfl rfl d hp
def jOv:=xE 10 jOu qGr qH5 fun a hp=>zFc jOu.t _ rfl rfl a hp
def jOw:=xW 58 jOv kD qBx fun x _=>zFl jOv.t _ x
def jOx:=xF [] 57 jOw wG qD7 fun x hx=>zC1 jOw.t _ x hx
def jOy:=xF [] 33 jOx qGe qDi fun x hx=>qWb jOx.t _ rfl rfl x.1 hx x.2
def jOz:=xF [] 19 jOy kN wO fun x hx=>zFz jOy.t _ rfl x
def jO0:=xW 20 jOz vE wY fun x hx=>qWe jOz.t _ x hx
def jO1:=xF [] 35 jO0 qEa qF5 fun x hx=>zCq jO0.t _ x.1 hx.1 x.2 hx.2
def jO2:=xW 59 jO1 qRs qBh fun _ _=>qRh jO1.t _
def jO3:=xF [] 60 jO2 qM5 qKp fun x hx=>zJ2 jO2.t _ x hx
def jO4:=xW 61 jO3 qGf qHy fun x hx=>zFp jO3.t _ x.1 x.2 hx.1 hx.2
def jO5:=xW 62 jO4 qX1 qHx fun x hx=>zFo jO4.t _ x.1 x.2 hx
def jO6:=xF [] 63 jO5 qAx qF7 fun x hx=>zCr jO5.t _ x hx
def jO7:=xF [] 34 jO6 (qQk 32 jC) qEw fun x hx=>qZz jO6.t _ rfl rfl rfl rfl rfl x hx
def jO8:=xF [] 21 jO7 wI qHu fun x hx=>zFj jO7.t _ rfl rfl x.1 x.2 hx.1 hx.2
def jO9:=xF [] 6 jO8 qGd qEx fun x hx=>qZ1 jO8.t _ rfl rfl rfl x.1 x.2.1 x.2.2.1 x.2.2.2 hx
def jPa:=xF [] 24 jO9 qS3 qF9 fun _ _=>zCy jO9.t _
def jPb:=xW 68 jPa qXy qDj fun x hx=>qWc jPa.t _ x.1 x.2 hx.1 hx.2
def jPc:=xE 69 jPb zXq qXc fun ⟨a,b⟩ hp=>jSy jPb.t _ a b hp
def jPd:=xW 70 jPc qXv qCh fun x hx=>qUz jPc.t _ x hx
def jPe:=xW 38 jPd qO6 qCs fun x hx=>zCw jPd.t _ rfl rfl x hx
def jPf:=xF [] 39 jPe qXx qCt fun x hx=>zCx jPe.t _ rfl rfl x.1 x.2 hx.1 hx.2
def jPg:=xF [] 25 jPf qXw qBs fun x hx=>qZ4 jPf.t _ rfl rfl rfl x.1 x.2 hx.1 hx.2
def jPh:=xW 8 jPg qK0 qEy fun x hx=>qZ3 jPg.t _ rfl rfl x hx
def jPi:=xE 29 jPh qMa qKu fun ⟨q,v⟩ hp=>zJv jPh.t _ q v
def jPj:=xE 13 jPi qCk qE1 fun ⟨h,k,a,t,p,u,d⟩ hp=>qZr jPi.t _ rfl h k a t p u d
def jPk:=xE 14 jPj qCj qKt fun k hp=>zJu jPj.t _ k
def jPl:=xE 15 jPk kX qGa fun ⟨h,k,s,n,o,b⟩ hp=>zCk jPk.t _ h k s n o b
def jPm:=xE 18 jPl qCi qSl fun ⟨c,h,b⟩ hp=>zUh jPl.t _ c h b
def jPn:=xF [] 17 jPm qWn qSk fun x _=>zUm jPm.t _ x.1 x.2
def jPo:=xE 5 jPn qI5 qH2 fun _ hp=>zE9 jPn.t _ rfl rfl rfl rfl rfl rfl rfl rfl rfl rfl
def jPp:=xW 129 jPo qRt qHw fun x hx=>zFn jPo.t _ x.1 x.2 hx
def jPq:=xF [] 97 jPp (qQk 20 qQt) qHv fun x hx=>zFm jPp.t _ rfl rfl rfl rfl x hx
def jPr:=xF [] 66 jPq xV qF6 fun x hx=>zJ1 jPq.t _ rfl rfl x.1 hx.1 x.2 hx.2
def jPs:=xW 37 jPr zGk qDh fun x hx=>qV8 jPr.t _ rfl rfl x.1 x.2.1 x.2.2 hx.1 hx.2
def jPt:=xW 64 jPs qDq qF8 fun x _=>zCv jPs.t _ x.1 x.2
def jPu:=xF [] 67 jPt qKz qHt fun x hx=>zFi jPt.t _ x hx
def jPv:=xF [] 65 jPu jF qAa fun x hx=>zC0 jPu.t _ rfl x hx
def jPw:=xW 36 jPv kM zS fun x hx=>qZ2 jPv.t _ rfl rfl rfl rfl rfl rfl x hx
def jPx:=xW 23 jPw zDy qCr fun x hx=>zCu jPw.t _ rfl rfl x.1 x.2.1 x.2.2.1 x.2.2.2.1 x.2.2.2.2 hx.1 hx.2.1 hx.2.2
def jPy:=xE 7 jPx qI7 qDm fun cs hp=>qV1 jPx.t _ rfl rfl cs hp
def jPz:=xW 9 jPy qK2 qD6 fun x hx=>zFk jPy.t _ x.1 x.2 hx.1 hx.2
def jP0:=xE 28 jPz qI6 qH4 fun ⟨i,d⟩ hp=>zFb jPz.t _ i d
def jIk:=xE 11 jP0 qGs qE0 fun ⟨d,cs⟩ hp=>qZq jP0.t _ rfl rfl d cs hp
end
end Go.Eng
end
section
set_option maxRecDepth 20000
namespace Go.Eng
open Go.ChangeShapes Go.WideShapes Go.RowKit
inductive Ty where
 | int (k:IntKind)
 | bool
 | str
 | sl (e:Ty)
 | st (fs:List Ty)
mutual
def Ty.size:Ty→Nat
 | .st fs=>Ty.sizeL fs
 | _=>1
def Ty.sizeL:List Ty→Nat
 | []=>0
 | f::r=>f.size+Ty.sizeL r
end
def isK (P:Program)(t:TypeId)(k:IntKind):Bool:=match P.underlying t with
 | some (.int k')=>decide (k'=k)
 | _=>false
theorem zVq {P:Program}{t:TypeId}{k:IntKind}(h:isK P t k=true):P.underlying t=some (.int k):=by
 unfold isK at h;split at h
 ·rename_i h1;rw[h1,of_decide_eq_true h]
 ·cases h
mutual
def Ty.ok (P:Program):Ty→TypeId→Bool
 | .int k,t=>isK P t k
 | .bool,t=>match P.underlying t with | some .bool=>true | _=>false
 | .str,t=>match P.underlying t with | some .string=>true | _=>false
 | .sl e,t=>match P.underlying t with | some (.slice te)=>e.ok P te&&Nat.beq (P.cellsOf te) e.size&&Nat.ble 1 e.size | _=>false
 | .st fs,t=>Nat.beq (P.cellsOf t) (Ty.sizeL fs)&&match P.underlying t with
  | some (.struct gs)=>Ty.okF P fs gs.toList 0
  | some (.array n te)=>Nat.beq fs.length n&&Ty.okA P fs te
  | _=>false
def Ty.okF (P:Program):List Ty→List Field→Nat→Bool
 | [],[],_=>true
 | f::r,g::gs,off=>Nat.beq g.offset off&&Nat.beq (P.cellsOf g.type) f.size&&f.ok P g.type&&Ty.okF P r gs (off+f.size)
 | _,_,_=>false
def Ty.okA (P:Program):List Ty→TypeId→Bool
 | [],_=>true
 | f::r,te=>f.ok P te&&Nat.beq (P.cellsOf te) f.size&&Ty.okA P r te
end
mutual
def Ty.is:Ty→T→Prop
 | .int k,x => ∃ n,(Lit.int k n).wf=true∧x = .int k n
 | .bool,x => ∃ b,x = .bool b
 | .str,x => ∃ s:ByteArray,s.size≤maxLen∧x = .str s
 | .sl e,x => ∃ es:List T,es.length≤maxLen∧(∀ y∈es,e.is y)∧x = .sl es
 | .st fs,x => ∃ cs,Ty.isL fs cs∧x = .agg cs
def Ty.isL:List Ty→List T→Prop
 | [],cs=>cs=[]
 | f::r,cs => ∃ x rest,f.is x∧Ty.isL r rest∧cs=x.cells++rest
end
mutual
theorem Ty.is_size : ∀ (ty:Ty) (x:T),ty.is x→x.cells.length=ty.size
 | .int k,x,h=>by obtain⟨n,_,rfl⟩:=h;rfl
 | .bool,x,h=>by obtain⟨n,rfl⟩:=h;rfl
 | .str,x,h=>by obtain⟨n,_,rfl⟩:=h;rfl
 | .sl e,x,h=>by obtain⟨es,_,_,rfl⟩:=h;rfl
 | .st fs,x,h=>by
  obtain⟨cs,h1,rfl⟩:=h;show cs.length=Ty.sizeL fs;exact Ty.isL_size fs cs h1
theorem Ty.isL_size : ∀ (fs:List Ty) (cs:List T),Ty.isL fs cs→cs.length=Ty.sizeL fs
 | [],cs,h=>by cases h;rfl
 | f::r,cs,h=>by
  obtain⟨x,rest,h1,h2,rfl⟩:=h;rw[List.length_append,Ty.is_size f x h1,Ty.isL_size r rest h2,Ty.sizeL]
end
theorem zBt {α:Type}{Q:Nat→α→Prop} : ∀ (n:Nat),(∀ i,i<n → ∃ y,Q i y) → ∃ l:List α,l.length=n ∧ ∀ i y,l[i]?=some y→Q i y
 | 0,_=>⟨[],rfl,sM⟩
 | n+1,h=>by
  obtain⟨l,hl,hq⟩:=zBt n (fun i hi=>h i oM);obtain⟨y,hy⟩:=h n oM;refine⟨l++[y],by simp[hl],fun i z hz=>?_⟩;rw[List.getElem?_append] at hz;split at hz
  ·exact hq i z hz
  ·have h1:i-l.length=0:=by
    rcases Nat.eq_zero_or_pos (i-l.length) with h | h
    ·exact h
    ·rw[List.getElem?_eq_none soM] at hz;cases hz
   rw[h1] at hz;simp only[List.getElem?_cons_zero,Option.some.injEq] at hz;subst hz;have:i=n:=oM;subst this;exact hy
theorem qSy {w:World}{a:Addr}{u:Value}(h:w.cell? a=some u):a.block<w.heap.size∧a.spot=none:=by
 unfold World.cell? at h;split at h
 ·rename_i hb;refine⟨(Array.getElem?_eq_some_iff.1 hb).1,?_⟩;split at h
  ·cases h
  ·rename_i hs;simpa using hs
 ·cases h
section
variable {H:Type} {enc:TypeId×Value→H} {P:Program} {w:World} {base:Nat} {sp:Nat→Bool} {held:Bool}
structure qHp (w:World) (ds:List T) (cs:List Value):Prop where
 len:ds.length=cs.length
 one : ∀ u∈cs,u.oneCell'=true
 rep : ∀ (i:Nat) (c:T) (u:Value),ds[i]?=some c→cs[i]?=some u→Rep (fun b=>b<w.heap.size) w c u
theorem qHp.one1 {x:T}{c:Value}(hc:c.oneCell'=true)(h:Rep (fun b=>b<w.heap.size) w x c):qHp w [x] [c]:=
 ⟨rfl,by simpa using hc,fun i d u hd hu=>by
  cases i with
  | zero=>simp only[List.getElem?_cons_zero,Option.some.injEq] at hd hu;subst hd;subst hu;exact h
  | succ i=>simp at hd⟩
theorem qHp.app {ds es:List T}{cs vs:List Value}(h:qHp w ds cs)(h2:qHp w es vs):qHp w (ds++es) (cs++vs):=by
 refine⟨by rw[List.length_append,List.length_append,h.len,h2.len],fun u hu=>?_,fun i c u hc hu=>?_⟩
 ·rcases List.mem_append.1 hu with h3 | h3
  ·exact h.one u h3
  ·exact h2.one u h3
 ·rw[List.getElem?_append] at hc hu;rw[h.len] at hc;split at hc
  ·rename_i hl;rw[if_pos hl] at hu;exact h.rep i c u hc hu
  ·rename_i hl;rw[if_neg hl] at hu;exact h2.rep _ c u hc hu
theorem qHp.nil:qHp w [] []:=⟨rfl,sM,fun i c u hc=>by simp at hc⟩
theorem qTr (n:Nat)(IH : ∀ (ty:Ty) (t:TypeId) (cs:List Value) (x:DataW H×List MemPlace),ty.ok P t=true→cs.length=ty.size→DataW.trod enc P w base sp held n t cs=some x → ∃ y:T,ty.is y∧qHp w y.cells cs){cs:List Value} :
  ∀ (fs:List Ty) (gs:List Field) (off:Nat),Ty.okF P fs gs off=true→off+Ty.sizeL fs=cs.length→(∀ g∈gs,∃ x,DataW.trod enc P w base sp held n g.type ((cs.drop g.offset).take (P.cellsOf g.type))=some x)→
   ∃ ds,Ty.isL fs ds∧qHp w ds (cs.drop off)
 | [],[],off,_,hl,_=>⟨[],rfl,by
   have:cs.drop off=[]:=List.drop_eq_nil_of_le (by simp only[Ty.sizeL] at hl;omega);rw[this];exact qHp.nil⟩
 | [],_::_,_,h,_,_=>by simp[Ty.okF] at h
 | _::_,[],_,h,_,_=>by simp[Ty.okF] at h
 | f::r,g::gs,off,h,hl,hg=>by
  simp only[Ty.okF,Bool.and_eq_true] at h;obtain⟨⟨⟨h1,h2⟩,h3⟩,h4⟩:=h;have e1:=Nat.eq_of_beq_eq_true h1;have e2:=Nat.eq_of_beq_eq_true h2;simp only[Ty.sizeL] at hl;obtain⟨ds,hd1,hd2⟩:=qTr n IH r gs (off+f.size) h4 oM (fun g' hg'=>hg g' (.tail _ hg'));obtain⟨x,hx⟩:=hg g (.head _);rw[e1,e2] at hx;obtain⟨y,hy1,hy2⟩:=IH f g.type _ x h3 soM hx;refine⟨y.cells++ds,⟨y,ds,hy1,hd1,rfl⟩,?_⟩;have e3:cs.drop off=(cs.drop off).take f.size++cs.drop (off+f.size):=by
   rw[←List.drop_drop,List.take_append_drop]
  rw[e3];exact hy2.app hd2
theorem qWx (n:Nat)(IH : ∀ (ty:Ty) (t:TypeId) (cs:List Value) (x:DataW H×List MemPlace),ty.ok P t=true→cs.length=ty.size→DataW.trod enc P w base sp held n t cs=some x → ∃ y:T,ty.is y∧qHp w y.cells cs){cs:List Value}{te:TypeId} :
  ∀ (fs:List Ty) (i:Nat),Ty.okA P fs te=true→i*P.cellsOf te+Ty.sizeL fs=cs.length→(∀ j,j<fs.length → ∃ x,DataW.trod enc P w base sp held n te ((cs.drop ((i+j)*P.cellsOf te)).take (P.cellsOf te))=some x)→
   ∃ ds,Ty.isL fs ds∧qHp w ds (cs.drop (i*P.cellsOf te))
 | [],i,_,hl,_=>⟨[],rfl,by
   have:cs.drop (i*P.cellsOf te)=[]:=List.drop_eq_nil_of_le (by simp only[Ty.sizeL] at hl;omega);rw[this];exact qHp.nil⟩
 | f::r,i,h,hl,hg=>by
  simp only[Ty.okA,Bool.and_eq_true] at h;obtain⟨⟨h3,h2⟩,h4⟩:=h;have e2:=Nat.eq_of_beq_eq_true h2;simp only[Ty.sizeL] at hl;have e4:(i+1)*P.cellsOf te=i*P.cellsOf te+f.size:=by rw[Nat.add_mul,Nat.one_mul,e2]
  obtain⟨ds,hd1,hd2⟩:=qWx n IH (cs:=cs) r (i+1) h4 (by rw[e4];omega) (fun j hj=>by
   have:=hg (j+1) soM;rw[show i+1+j=i+(j+1) by omega];exact this)
  obtain⟨x,hx⟩:=hg 0 sM;rw[Nat.add_zero,e2,←e2] at hx;obtain⟨y,hy1,hy2⟩:=IH f te _ x h3 (by rw[e2] at hl ⊢;rw[List.length_take,List.length_drop];omega) hx;refine⟨y.cells++ds,⟨y,ds,hy1,hd1,rfl⟩,?_⟩;have e3:cs.drop (i*P.cellsOf te)=(cs.drop (i*P.cellsOf te)).take (P.cellsOf te)++cs.drop ((i+1)*P.cellsOf te):=by
   rw[e4,←e2,←List.drop_drop,List.take_append_drop]
  rw[e3];exact hy2.app hd2
theorem qWy : ∀ (n:Nat) (ty:Ty) (t:TypeId) (cs:List Value) (x:DataW H×List MemPlace),ty.ok P t=true→cs.length=ty.size→DataW.trod enc P w base sp held n t cs=some x → ∃ y:T,ty.is y∧qHp w y.cells cs:=by
 intro n
 induction n with
 | zero=>intro ty t cs x _ _ h;simp[DataW.trod] at h
 | succ n IH=>
  intro ty t cs x hty hlen h;cases ty with
  | int k=>
   obtain⟨m,rfl,_,hw⟩:=DataW.trod_int (zVq hty) h;exact⟨.int k m,⟨m,hw,rfl⟩,.one1 rfl (.int k m)⟩
  | bool=>
   simp only[Ty.ok] at hty;split at hty
   ·rename_i hu;obtain⟨b,rfl,_⟩:=DataW.trod_bool hu h;exact⟨.bool b,⟨b,rfl⟩,.one1 rfl (.bool b)⟩
   ·cases hty
  | str=>
   simp only[Ty.ok] at hty;split at hty
   ·rename_i hu;obtain⟨s,rfl,_,hs⟩:=DataW.trod_string hu h;exact⟨.str s,⟨s,hs,rfl⟩,.one1 rfl (.str s)⟩
   ·cases hty
  | sl e=>
   simp only[Ty.ok] at hty;split at hty
   ·rename_i te hu;simp only[Bool.and_eq_true] at hty;obtain⟨⟨h1,h2⟩,h3⟩:=hty;have e2:=Nat.eq_of_beq_eq_true h2;have e3:=Nat.le_of_ble_eq_true h3;rcases DataW.trod_slice hu h with⟨rfl,_⟩ | ⟨a,len,cap,elems,rest,m,hm,rfl,_,_,hlc,hcm,hel,hget,_,_⟩
    ·exact⟨.sl [],⟨[],sM,sM,rfl⟩,.one1 rfl .nil⟩
    ·cases hm;have hcells : ∀ i,i<len → ∃ y:T,e.is y ∧ ∃ cs',qHp w y.cells cs'∧cs'.length=e.size ∧ ∀ j,j<e.size→w.cell? ((a.add (i*e.size)).add j)=cs'[j]?:=by
      intro i hi;have hg:=hget i hi;have:elems[i]?=some elems[i]:=List.getElem?_eq_getElem oM;rw[this,Option.bind_eq_some_iff] at hg;obtain⟨cs',hc,ht⟩:=hg;obtain⟨_,hl,hcell⟩:=World.cells?_some hc;rw[e2] at hl hcell;obtain⟨y,hy1,hy2⟩:=IH e te cs' _ h1 hl ht;exact⟨y,hy1,cs',hy2,hl,hcell⟩
     obtain⟨es,hes,hq⟩:=zBt len hcells;have hz : ∀ y∈es,y.cells.length=e.size:=fun y hy=>by
      obtain⟨i,hi⟩:=List.getElem?_of_mem hy;exact e.is_size y (hq i y hi).1
     have hcellk : ∀ k,k<len*e.size → ∃ (i j:Nat) (y:T) (cs':List Value) (u:Value),k=i*e.size+j∧j<e.size∧es[i]?=some y∧qHp w y.cells cs'∧cs'[j]?=some u∧w.cell? (a.add k)=some u:=by
      intro k hk;have hi:k/e.size<len:=(Nat.div_lt_iff_lt_mul oM).2 hk;have hj:k%e.size<e.size:=Nat.mod_lt _ oM;have hy:es[k/e.size]?=some es[k/e.size]:=List.getElem?_eq_getElem oM;obtain⟨_,cs',hr,hl,hc⟩:=hq _ _ hy;have hu:cs'[k%e.size]?=some cs'[k%e.size]:=List.getElem?_eq_getElem oM;have ek:k=k/e.size*e.size+k%e.size:=by rw[Nat.mul_comm];exact (Nat.div_add_mod k e.size).symm
      refine⟨_,_,_,cs',_,ek,hj,hy,hr,hu,?_⟩;rw[←hu,←hc _ hj,Addr.add_add,←ek]
     refine⟨.sl es,⟨es,oM,fun y hy=>?_,rfl⟩,.one1 rfl ?_⟩
     ·obtain⟨i,hi⟩:=List.getElem?_of_mem hy;exact (hq i y hi).1
     ·have hnl:((List.range (len*e.size)).map fun k=>(w.cell? (a.add k)).getD default).length=len*e.size:=sM;have hnews : ∀ k u,((List.range (len*e.size)).map fun k=>(w.cell? (a.add k)).getD default)[k]?=some u→k<len*e.size∧w.cell? (a.add k)=some u:=by
       intro k u hu;have hk:k<len*e.size:=by
        rcases Nat.lt_or_ge k (len*e.size) with h | h
        ·exact h
        ·rw[List.getElem?_eq_none oM] at hu;cases hu
       obtain⟨_,_,_,_,u',_,_,_,_,_,hc⟩:=hcellk k hk;rw[List.getElem?_map,List.getElem?_range hk,Option.map_some,hc,Option.getD_some,Option.some.injEq] at hu;subst hu;exact⟨hk,hc⟩
      have h0:es≠[]→a.block<w.heap.size∧a.spot=none:=by
       intro hne;have hlp:0<len:=by
        rw[←hes];exact List.length_pos_iff.2 hne
       obtain⟨_,_,_,_,u',_,_,_,_,_,hc⟩:=hcellk 0 (Nat.mul_pos hlp oM);have e9:a.add 0=a:=by simp[Addr.add]
       rw[e9] at hc;exact qSy hc
      have key:=Rep.sl (F:=fun b=>b<w.heap.size) (w:=w) es a cap e.size _ (fun hne=>(h0 hne).2) oM (by rw[hes];exact hnl) (fun u hu=>by
       obtain⟨k,hk⟩:=List.getElem?_of_mem hu;obtain⟨hk1,hk2⟩:=hnews k u hk;obtain⟨_,_,_,cs',u',_,_,_,hr,hcu,hc⟩:=hcellk k hk1;rw[hk2] at hc;cases hc;exact hr.one u (List.mem_of_getElem? hcu)) (fun hne=>(h0 hne).1) (fun k u hk=>(hnews k u hk).2) hz
       (fun i y j c u hy hc hu=>by
        obtain⟨hk1,hk2⟩:=hnews _ u hu;obtain⟨i',j',y',cs',u',e1,hj',hy',hr,hcu,hc'⟩:=hcellk _ hk1;rw[hk2] at hc';cases hc';have hj:j<e.size:=by rw[←hz y (List.mem_of_getElem? hy)];exact (List.getElem?_eq_some_iff.1 hc).1
        have ei:i=i'∧j=j':=by
         have h5:=congrArg (· / e.size) e1;have h6:=congrArg (· % e.size) e1;simp only[Nat.mul_comm _ e.size,Nat.mul_add_div (show 0<e.size by omega),Nat.mul_add_mod,Nat.div_eq_of_lt hj,Nat.div_eq_of_lt hj',Nat.mod_eq_of_lt hj,Nat.mod_eq_of_lt hj'] at h5 h6;exact⟨oM,h6⟩
        obtain⟨rfl,rfl⟩:=ei;rw[hy] at hy';cases hy';exact hr.rep j c u hc hcu)
      rw[hes] at key;exact key
   ·cases hty
  | st fs=>
   simp only[Ty.ok,Bool.and_eq_true] at hty;obtain⟨h0,hty⟩:=hty;have e0:=Nat.eq_of_beq_eq_true h0;split at hty
   ·rename_i gs hu;obtain⟨xs,m,hm,_,hl,hxl,hget⟩:=DataW.trod_struct hu h;cases hm;obtain⟨ds,hd1,hd2⟩:=qTr n IH (cs:=cs) fs gs.toList 0 hty oM (fun g hg=>by
     obtain⟨i,hi⟩:=List.getElem?_of_mem hg;have hi':gs[i]?=some g:=by simpa using hi
     have hlt:i<xs.length:=by rw[hxl];exact (Array.getElem?_eq_some_iff.1 hi').1
     exact⟨xs[i],by rw[hget i g hi'];exact List.getElem?_eq_getElem hlt⟩)
    rw[List.drop_zero] at hd2;exact⟨.agg ds,⟨ds,hd1,rfl⟩,hd2⟩
   ·rename_i m te hu;simp only[Bool.and_eq_true] at hty;have e5:=Nat.eq_of_beq_eq_true hty.1;obtain⟨xs,m',hm,_,hl,hxl,hget⟩:=DataW.trod_array hu h;cases hm;obtain⟨ds,hd1,hd2⟩:=qWx n IH (cs:=cs) fs 0 hty.2 oM (fun j hj=>by
     have hlt:j<xs.length:=oM;rw[Nat.zero_add];exact⟨xs[j],by rw[hget j oM];exact List.getElem?_eq_getElem hlt⟩)
    rw[Nat.zero_mul,List.drop_zero] at hd2;exact⟨.agg ds,⟨ds,hd1,rfl⟩,hd2⟩
   ·cases hty
theorem zIr {ty:Ty}{t:TypeId}{v:Value}{d:DataW H}{ps:List MemPlace}{b0:Nat}(hty:ty.ok P t=true)(hval:Value.okWide P w .any b0 t v)(h:DataW.Trod enc P w base sp held t v d ps) :
  ∃ y:T,ty.is y∧Rep (fun b=>b<w.heap.size) w y v:=by
 obtain⟨n,hn⟩:=h;have scalar : ∀ c,v=c→c.cells = #[c]→ty.size=1→(∀ y:T,ty.is y→y.cells=[y]) → ∃ y:T,ty.is y∧Rep (fun b=>b<w.heap.size) w y v:=by
  intro c hv hc hs hy;subst hv;rw[hc] at hn;obtain⟨y,h1,h2⟩:=qWy n ty t _ _ hty (by rw[hs];rfl) hn;rw[hy y h1] at h2;exact⟨y,h1,h2.rep 0 y v rfl rfl⟩
 cases ty with
 | int k=>
  obtain⟨m,hv⟩:=okWide_int (zVq hty) hval;exact scalar _ hv rfl rfl (fun y hy=>by obtain⟨_,_,rfl⟩:=hy;rfl)
 | bool=>
  simp only[Ty.ok] at hty;split at hty
  ·rename_i hu;obtain⟨m,hv⟩:=okWide_bool hu hval;exact scalar _ hv rfl rfl (fun y hy=>by obtain⟨_,rfl⟩:=hy;rfl)
  ·cases hty
 | str=>
  simp only[Ty.ok] at hty;split at hty
  ·rename_i hu;obtain⟨m,hv⟩:=okWide_string hu hval;exact scalar _ hv rfl rfl (fun y hy=>by obtain⟨_,_,rfl⟩:=hy;rfl)
  ·cases hty
 | sl e=>
  have hty':=hty;simp only[Ty.ok] at hty';split at hty'
  ·rename_i te hu;obtain⟨a,l,c,hv⟩:=okWide_slice hu hval;exact scalar _ hv rfl rfl (fun y hy=>by obtain⟨_,_,_,rfl⟩:=hy;rfl)
  ·cases hty'
 | st fs=>
  have hagg : ∃ cs,v = .agg cs∧cs.size=P.cellsOf t:=by
   have hty':=hty;simp only[Ty.ok,Bool.and_eq_true] at hty';obtain⟨_,h2⟩:=hty';unfold Value.okWide at hval;split at h2
   ·rename_i hu;rw[hu] at hval;obtain⟨cs,h3,h4,_⟩:=hval;exact⟨cs,h3,h4⟩
   ·rename_i hu;rw[hu] at hval;obtain⟨cs,h3,h4,_⟩:=hval;exact⟨cs,h3,h4⟩
   ·cases h2
  obtain⟨cs,rfl,hsz⟩:=hagg;have hsz2:cs.size=Ty.sizeL fs:=by
   simp only[Ty.ok,Bool.and_eq_true] at hty;rw[hsz];exact Nat.eq_of_beq_eq_true hty.1
  obtain⟨y,h1,h2⟩:=qWy n (.st fs) t _ _ hty (by show cs.toList.length=Ty.sizeL fs;simpa using hsz2) hn;obtain⟨ds,h3,rfl⟩:=h1;refine⟨.agg ds,⟨ds,h3,rfl⟩,.agg ds cs ?_ ?_ ?_⟩
  ·have:=h2.len;simpa [Value.cells,T.cells] using this.symm
  ·intro u hu;exact h2.one u (by simpa [Value.cells] using hu)
  ·intro i c u hc hu;exact h2.rep i c u hc (by simpa [Value.cells] using hu)
theorem zBq : ∀ {tys:List Ty} {ts:List TypeId} {vs:List Value} {ds:List (DataW H)} {ps:List MemPlace} {b0:Nat},qAg (fun (ty:Ty) (t:TypeId)=>ty.ok P t=true) tys ts→
  (∀ (j:Nat) t v,ts[j]?=some t→vs[j]?=some v→Value.okWide P w .any b0 t v)→DataW.TrodAll enc P w base sp held ts vs ds ps→
  ∃ ys:List T,qAg (fun (ty:Ty) (y:T)=>ty.is y) tys ys∧qAg (qV (fun _=>none) (fun b=>b<w.heap.size) w) (ys.map V.t) vs
 | [],ts,vs,ds,ps,b0,h,hv,hd=>by
  cases h;obtain⟨rfl,_,_⟩:=trodAll_nil hd;exact⟨[],.nil,.nil⟩
 | ty::tys,ts,vs,ds,ps,b0,h,hv,hd=>by
  cases h with
  | cons h1 h2=>
   obtain⟨v,vs',d,ds',p,q,rfl,rfl,rfl,hd1,hd2⟩:=trodAll_cons hd;obtain⟨y,hy1,hy2⟩:=zIr h1 (hv 0 _ v rfl rfl) hd1;obtain⟨ys,h3,h4⟩:=zBq h2 (fun j t v' ht hv'=>hv (j+1) t v' ht hv') hd2;exact⟨y::ys,.cons hy1 h3,.cons (.t hy2) h4⟩
end
end Go.Eng
end
section
set_option maxRecDepth 20000
namespace Go.Eng
open Go.ChangeShapes Go.WideShapes Go.RowKit Go.WideElems
section
variable {H:Type} {enc:TypeId×Value→H} {P:Program}
theorem zEt {W W':World}(hfr : ∀ b,b<W.heap.size→W'.heap[b]?=W.heap[b]?){p:MemPlace}(hp:p.block<W.heap.size):W.sameAt W' p:=by
 cases p with
 | cell b off=>exact World.cell?_of_block (hfr b hp)
 | map b=>exact hfr b hp
theorem zAl (hl:laidOutB P=true){W W':World}(hfr : ∀ b,b<W.heap.size→W'.heap[b]?=W.heap[b]?){sp:Nat→Bool} :
  ∀ {ts:List TypeId} {vs:List Value} {ds:List (DataW H)} {ps:List MemPlace},(∀ t∈ts,P.readableRec t=true∧t<P.types.size)→(∀ p∈ps,p.block<W.heap.size∧sp p.block=true)→
   DataW.TrodAll enc P W 0 (fun _=>true) true ts vs ds ps→DataW.TrodAll enc P W' 0 sp true ts vs ds ps
 | [],vs,ds,ps,_,_,h=>by
  obtain⟨rfl,rfl,rfl⟩:=trodAll_nil h;exact trodAll_mk0
 | t::ts,vs,ds,ps,ht,hp,h=>by
  obtain⟨v,vs',d,ds',p,q,rfl,rfl,rfl,h1,h2⟩:=trodAll_cons h;obtain⟨hr,hrow⟩:=ht t (.head _);exact⟨p,q,Trod_stays hl hr hrow h1 (fun x hx=>zEt hfr (hp x (List.mem_append_left _ hx)).1) (fun x hx=>(hp x (List.mem_append_left _ hx)).2),
   zAl hl hfr (fun t' ht'=>ht t' (.tail _ ht')) (fun x hx=>hp x (List.mem_append_right _ hx)) h2,rfl⟩
theorem zRq {fn:Func}{s:ChangeSpec}{tb:TypeId}{apart fresh handsOn again:Bool}{W W':World}{args:Array Value}{ds gs:List (DataW H)}{before:List MemPlace}
  (hl:laidOutB P=true) (hts : ∀ t∈fn.params.toList,P.readableRec t=true∧t<P.types.size) (hrt:fn.resultTypes = #[tb]) (hb:P.underlying tb=some .bool) (hsv:s.vars=[])
  (hfn:(s.fn H (ds++gs)).results=[.lit (.bool true)]∧(s.fn H (ds++gs)).args=ds∧(s.fn H (ds++gs)).vars=[])
  (hW:DataW.Whole enc P fn.params.toList s.vars apart W args.toList ds gs before)
  (hos:W'.os=W.os) (hout:W'.output=W.output) (hfr : ∀ b,b<W.heap.size→W'.heap[b]?=W.heap[b]?) :
  s.post enc P fn apart fresh handsOn again W args (.bool true) W':=by
 have hlt : ∀ p∈before,p.block<W.heap.size:=fun p hp=>hW.lt p hp
 have hW':=hW;obtain⟨p,q,hA,hV,rfl,hz,hn⟩:=hW';rw[hsv] at hV;obtain⟨rfl,rfl⟩:=trodVars_none hV;have hres : ∀ (b:Nat) (sp:Nat→Bool) (hd:Bool),DataW.TrodAll enc P W' b sp hd fn.resultTypes.toList ((Value.bool true).resultList fn.resultTypes.size) (s.fn H (ds++[])).results []:=by
  intro b sp hd;rw[hrt,hfn.1];exact trodAll_mk1 (shut_bool hb true)
 have hargs : ∀ sp:Nat→Bool,(∀ x∈p++[],sp x.block=true)→DataW.TrodAll enc P W' 0 sp true fn.params.toList args.toList (s.fn H (ds++[])).args p:=by
  intro sp hsp;rw[hfn.2.1];exact zAl hl hfr hts (fun x hx=>⟨hlt x (by simpa using hx),hsp x (by simpa using hx)⟩) hA
 have hvars : ∀ sp:Nat→Bool,DataW.TrodVars enc P W' sp s.vars (s.fn H (ds++[])).vars []:=by
  intro sp;rw[hsv,hfn.2.2];rfl
 refine⟨ds,[],_,[],p,[],hW,hres _ _ _,hargs _ (fun x hx=>by simpa using hlt x hx),hvars _,⟨hos,hout,fun i hi=>?_⟩,fun _=>?_⟩
 ·have e:=hfr i hi;revert e;generalize W'.heap[i]?=o';intro e;subst e;split
  ·rename_i h1 h2;rw[h1] at h2;cases h2;exact⟨rfl,rfl,rfl,fun _ _=>rfl⟩
  ·rename_i h1 h2;rw[h1] at h2;cases h2;exact .inr ⟨rfl,rfl⟩
  ·rfl
 ·refine⟨ok_one hrt rfl (okWide_bool_mk hb _),_,_,([]++p)++[],⟨[]++p,[],trodAll_append (hargs _ (fun _ _=>rfl)) (hres _ _ _),hvars _,rfl,?_,?_⟩,?_⟩
  ·intro b off hx;have hx':MemPlace.cell b off∈p++[]:=by simpa using hx
   have e:W'.frozen? ⟨b,off,none⟩=W.frozen? ⟨b,off,none⟩:=by
    unfold World.frozen?;rw[hfr b (hlt _ hx')]
   rw[e];exact hz b off hx'
  ·intro ha;have:=hn ha;simpa using this
  ·intro x hx _;simpa using hx
theorem qNh {w:World} : ∀ {laid:List (String×DataW Unit)} {ps:List MemPlace},DataW.LaidVars P w laid ps → ∀ x∈laid,∃ g t cs fuel p,P.globalNamed x.1=some g∧(P.globals[g]?).map (·.type)=some t∧w.var? P x.1=some cs∧
   DataW.trod (fun _=>()) P w 0 (fun _=>true) false fuel t cs.toList=some (x.2,p)
 | [],_,_,x,hx=>by cases hx
 | y::r,ps,h,x,hx=>by
  obtain⟨g,t,cs,fuel,p,q,h1,h2,h3,h4,h5,_⟩:=h;rcases List.mem_cons.1 hx with rfl | hx
  ·exact⟨g,t,cs,fuel,p,h1,h2,h3,h4⟩
  ·exact qNh h5 x hx
theorem zNm {w:World}{nm:String}{g t e n:Nat}{k:IntKind}{ns:List Int}{cs:Array Value}{fuel:Nat}{p:List MemPlace}{F:Nat→Prop}(hg:P.globalNamed nm=some g)(hv:w.var? P nm=some cs)
  (ht:P.underlying t=some (.array n e)) (he:P.underlying e=some (.int k)) (hc:P.cellsOf e=1) (hct:P.cellsOf t=n) (hn:0<ns.length)
  (h:DataW.trod (fun _=>()) P w 0 (fun _=>true) false fuel t cs.toList=some (.agg (ns.map fun m=> .lit (.int k m)),p)) (hF:g<w.heap.size→F g) :
  qV (fun _=>none) F w (.ro (ns.map (T.int k))) (.pointer (some ⟨g,0,none⟩)):=by
 obtain⟨xs,m,_,hx,hl,hxl,hget⟩:=DataW.trod_array ht h;simp only[Prod.mk.injEq,DataW.agg.injEq] at hx;have hlen:ns.length=n:=by
  have:=congrArg List.length hx.1;simp only[List.length_map] at this;omega
 have hcl:cs.toList.length=n:=by rw[hl,hct]
 have hcell : ∀ i,i<n→cs.toList[i]?=some (.int k (ns.getD i 0)):=by
  intro i hi;have h1:=hget i hi;have h2:xs[i]?=some xs[i]:=List.getElem?_eq_getElem oM;rw[h2,hc,Nat.mul_one] at h1;obtain⟨z,hz1,hz2,_⟩:=DataW.trod_int he h1;have h3:cs.toList[i]?=some (.int k z):=by
   have h4:=congrArg (fun l=>l[0]?) hz1;simp only[List.getElem?_take,List.getElem?_drop,Nat.add_zero,List.getElem?_cons_zero] at h4;simpa using h4
  have h5:=congrArg (fun l=>l[i]?) hx.1;simp only[List.getElem?_map,h2,oms,hz2] at h5;have h6:ns[i]?=some ns[i]:=List.getElem?_eq_getElem oM;rw[h6] at h5;simp only[oms,Option.some.injEq,DataW.lit.injEq,Lit.int.injEq,true_and] at h5;rw[h3,List.getD_eq_getElem?_getD,h6,h5];rfl
 have hw : ∀ j,w.cell? ((⟨g,0,none⟩:Addr).add j)=cs.toList[j]?:=by
  intro j;have e:(⟨g,0,none⟩:Addr).add j=⟨g,j,none⟩:=by
   unfold Addr.add;split
   ·rename_i h0;rw[h0]
   ·simp
  rw[e,World.var?_cell hg hv j,Array.getElem?_toList]
 refine .ro (ns.map (T.int k)) ⟨g,0,none⟩ cs.toList rfl (by rw[hcl,List.length_map,hlen]) ?_ (hF ?_) (fun j u hu=>(hw j).trans hu) ?_
 ·intro u hu;obtain⟨i,hi⟩:=List.getElem?_of_mem hu;rw[hcell i (by rw[←hcl];exact (List.getElem?_eq_some_iff.1 hi).1)] at hi;cases hi;rfl
 ·have h0:=hw 0;rw[hcell 0 oM] at h0;have:=(qSy h0).1;rw[qBy] at this;exact this
 ·intro j c u hcj hu;rw[List.getElem?_map,Option.map_eq_some_iff] at hcj;obtain⟨z,hz,rfl⟩:=hcj;rw[hcell j (by rw[←hlen];exact (List.getElem?_eq_some_iff.1 hz).1)] at hu;cases hu;rw[List.getD_eq_getElem?_getD,hz];exact .int k z
theorem zMc {w:World}{nm:String}{g t e n:Nat}{k:IntKind}{ns:List Int}{cs:Array Value}{fuel:Nat}{p:List MemPlace}(hg:P.globalNamed nm=some g)(hv:w.var? P nm=some cs)
  (ht:P.underlying t=some (.array n e)) (hct:P.cellsOf t=n)
  (h:DataW.trod (fun _=>()) P w 0 (fun _=>true) false fuel t cs.toList=some (.agg (ns.map fun m=> .lit (.int k m)),p)):GSz w g (ns.map (T.int k)).length:=by
 obtain⟨xs,m,_,hx,hl,hxl,hget⟩:=DataW.trod_array ht h;simp only[Prod.mk.injEq,DataW.agg.injEq] at hx;have hlen:ns.length=n:=by
  have:=congrArg List.length hx.1;simp only[List.length_map] at this;omega
 have hcl:cs.toList.length=n:=by rw[hl,hct]
 unfold World.var? at hv;rw[hg,Option.bind_some] at hv;split at hv
 ·rename_i c e z hc;cases hv;exact⟨_,e,z,hc,by rw[List.length_map,hlen,←hcl];simp⟩
 ·cases hv
theorem qKi {w:World}{base:Nat}{sp:Nat→Bool}{held:Bool} : ∀ {ts:List TypeId} {vs:List Value} {ds:List (DataW H)} {ps:List MemPlace},DataW.TrodAll enc P w base sp held ts vs ds ps→ds.length=ts.length
 | [],_,_,_,h=>by obtain⟨rfl,rfl,rfl⟩:=trodAll_nil h;rfl
 | _::_,_,_,_,h=>by
  obtain⟨_,_,_,_,_,_,rfl,rfl,rfl,_,h2⟩:=trodAll_cons h;simp[qKi h2]
end
theorem qWu {H:Type}{enc:TypeId×Value→H}{C:Checked}{os:Os}{f:FuncId}{fn:Func}{s:ChangeSpec}{laid:List (String×DataW Unit)}{tys:List Ty}{G:Nat→Option (List T)}{tb:TypeId}{apart fresh handsOn again:Bool}
  (own:ownKnob C.prog.godebug=none) (started:os.Started) (noInit:C.prog.inits.idxOf? f=none) (hfn:C.prog.funcs[f]?=some fn)
  (witness : ∃ (w:World) (tape:Tape) (i:Input),w.os=os∧(w.forCall tape i).Shaped C.prog∧i.vars=[]∧Input.okWide C.prog (w.forCall tape i) .any w.heap.size f i∧
   ((s.pre enc C.prog fn [] apart (w.forCall tape i).memory i.args∧laidMetH C.prog laid (w.forCall tape i).memory)∧sizedMet enc C.prog fn (OpenSpec.ofChange s) apart (w.forCall tape i).memory i.args)∧({}:Assume).holds C.prog (lone (Frame.enter C.prog f i.args .normal) [] (w.forCall tape i)))
  (hl:laidOutB C.prog=true) (hts:fn.params.toList.all (fun t=>C.prog.readableRec t&&Nat.blt t C.prog.types.size)=true) (hrt:fn.resultTypes = #[tb]) (hb:C.prog.underlying tb=some .bool) (hsv:s.vars=[])
  (hspec : ∀ ds:List (DataW H),ds.length=tys.length→(s.fn H ds).results=[.lit (.bool true)]∧(s.fn H ds).args=ds∧(s.fn H ds).vars=[])
  (htys:qAg (fun (ty:Ty) (t:TypeId)=>ty.ok C.prog t=true) tys fn.params.toList)
  (henv : ∀ W,laidMetH C.prog laid W→zKd G (fun b=>b<W.heap.size) W)
  (hlaw : ∀ ys,qAg (fun (ty:Ty) (y:T)=>ty.is y) tys ys→zDf C.prog G f (ys.map V.t) [] (.t (.bool true)) []) :
  ReturnsInHanded {} C os f .any (fun w args=>(s.pre enc C.prog fn [] apart w args∧laidMetH C.prog laid w)∧sizedMet enc C.prog fn (OpenSpec.ofChange s) apart w args) (s.post enc C.prog fn apart fresh handsOn again):=by
 have hts' : ∀ t∈fn.params.toList,C.prog.readableRec t=true∧t<C.prog.types.size:=by
  intro t ht;have:=List.all_eq_true.1 hts t ht;rw[Bool.and_eq_true] at this;exact⟨this.1,by simpa [Nat.blt_eq] using this.2⟩
 refine returnsInHanded_of_change_and (C:=C) (X:=fun w _=>laidMetH C.prog laid w) (fun _ _ _ hh h=>laidMetH.of_heap hh h) own started noInit hfn witness ?_;intro W base args ds gs before hval hW _ _ hL _;have hW':=hW;obtain⟨p,q,hA,hV,rfl,_,_⟩:=hW';rw[hsv] at hV;obtain⟨rfl,rfl⟩:=trodVars_none hV;obtain⟨ys,hys,hreps⟩:=zBq htys (fun j t v ht hv=>hval j t v (by simpa using ht) (by simpa using hv)) hA;have hlen:ds.length=tys.length:=by rw[qKi hA,htys.length]
 have hcall:=hlaw ys hys W (fun _=>none) (fun b=>b<W.heap.size) args (henv W hL)
  ⟨fun k o h=>by simp at h,fun _ _=>rfl,fun _ _ _ _ _ h=>by simp at h,fun _ _ _ h=>by simp at h⟩ hreps
 refine hcall.mono fun e W' ⟨x,β',F',he,hp⟩=>?_
 subst he;have hx:x = .bool true:=by
  have:=hp.res;cases this with
  | t h=>cases h;rfl
 subst hx;exact⟨_,rfl,zRq hl hts' hrt hb hsv (by rw[List.append_nil];exact hspec ds hlen) hW hp.os hp.output (fun b hb=>hp.frame b hb (fun _ _ h=>by simp at h))⟩
end Go.Eng
end
section
set_option maxRecDepth 20000
namespace Go.Eng
open Go.ChangeShapes Go.WideShapes Go.RowKit Go.WideElems
theorem qWq {α β:Type}{f:α→β}{m:Nat} : ∀ {rows:List (List α)} {l:List β},l.length=rows.length*m→(∀ r∈rows,r.length=m)→(∀ i j,i<rows.length→j<m→l[i*m+j]?=((rows[i]?).bind (·[j]?)).map f)→l=rows.flatten.map f
 | [],l,hl,_,_=>by
  have:l.length=0:=by simpa using hl
  rw[List.length_eq_zero_iff.1 this];rfl
 | r::rs,l,hl,hr,h=>by
  have hlr:=hr r (.head _);have hl':l.length=m+rs.length*m:=by rw[hl,List.length_cons,Nat.succ_mul,Nat.add_comm]
  have e1:l.take m=r.map f:=by
   refine List.ext_getElem? fun j=>?_
   by_cases hj:j<m
   ·have:=h 0 j sM hj;simp only[Nat.zero_mul,Nat.zero_add,List.getElem?_cons_zero,Option.bind_some] at this;rw[List.getElem?_take_of_lt hj,this,List.getElem?_map]
   ·rw[List.getElem?_eq_none (by rw[List.length_take];omega),List.getElem?_eq_none (by rw[List.length_map];omega)]
  have e2:l.drop m=rs.flatten.map f:=by
   refine qWq (m:=m) (by rw[List.length_drop];omega) (fun x hx=>hr x (.tail _ hx)) fun i j hi hj=>?_
   have:=h (i+1) j soM hj;rw[List.getElem?_drop,←Nat.add_assoc,Nat.add_comm m,←Nat.succ_mul,this,List.getElem?_cons_succ]
  rw[List.flatten_cons,List.map_append,←e1,←e2,List.take_append_drop]
variable {P:Program}
theorem zHs {w:World}{t e n m:Nat}{k:IntKind}{rows:List (List Int)}{cs:List Value}{fuel:Nat}{p:List MemPlace}{fs:Array Field}
  (ht:P.underlying t=some (.array n e)) (he:P.underlying e=some (.struct fs)) (hc:P.cellsOf e=m) (hfs:fs.size=m) (hm:0<m)
  (hf : ∀ j<m,∃ f,fs[j]?=some f∧f.offset=j∧P.cellsOf f.type=1∧P.underlying f.type=some (.int k)) (hct:P.cellsOf t=n*m) (hr : ∀ r∈rows,r.length=m)
  (h:DataW.trod (fun _=>()) P w 0 (fun _=>true) false fuel t cs=some (.agg (rows.map fun r=> .agg (r.map fun x=> .lit (.int k x))),p)):rows.length=n∧cs=rows.flatten.map (Value.int k):=by
 obtain⟨xs,q,_,hx,hl,hxl,hget⟩:=DataW.trod_array ht h;simp only[Prod.mk.injEq,DataW.agg.injEq] at hx;have hlen:rows.length=n:=by
  have:=congrArg List.length hx.1;simp only[List.length_map] at this;omega
 refine⟨hlen,qWq (m:=m) (by rw[hl,hct,hlen]) hr fun i j hi hj=>?_⟩;have h1:=hget i oM;have h2:xs[i]?=some xs[i]:=List.getElem?_eq_getElem oM;rw[h2,hc] at h1;obtain⟨ys,q',_,hy,hyl,hysz,hyg⟩:=DataW.trod_struct he h1;obtain⟨f,f1,f2,f3,f4⟩:=hf j hj;have g1:=hyg j f f1;have g2:ys[j]?=some ys[j]:=List.getElem?_eq_getElem oM;rw[g2,f2,f3] at g1;obtain⟨z,hz1,hz2,_⟩:=DataW.trod_int f4 g1;have h3:cs[i*m+j]?=some (.int k z):=by
  have h4:=congrArg (fun l=>l[0]?) hz1;simp only[List.getElem?_take,List.getElem?_drop,List.getElem?_cons_zero] at h4;have h5:0<1:=oM;simp only[h5,if_true,Nat.add_zero,hj] at h4;exact h4
 have hri:rows[i]?=some rows[i]:=List.getElem?_eq_getElem hi;have h5:=congrArg (fun l=>l[i]?) hx.1;simp only[List.getElem?_map,h2,hri,oms] at h5;have hy1:=congrArg (·.1) hy;simp only at hy1;rw[hy1] at h5;simp only[Option.some.injEq,DataW.agg.injEq] at h5;have h6:=congrArg (fun l=>l[j]?) h5;simp only[List.getElem?_map,g2,oms] at h6;have hrl:=hr rows[i] (List.getElem_mem hi);have hrj:(rows[i])[j]?=some ((rows[i])[j]'(oM)):=List.getElem?_eq_getElem oM;rw[hrj] at h6;simp only[oms,Option.some.injEq,hz2,DataW.lit.injEq,Lit.int.injEq,true_and] at h6;rw[h3,hri,Option.bind_some,hrj,Option.map_some,h6]
theorem zIv {w:World}{nm:String}{g t e n m:Nat}{k:IntKind}{rows:List (List Int)}{cs:Array Value}{fuel:Nat}{p:List MemPlace}{fs:Array Field}{F:Nat→Prop}(hg:P.globalNamed nm=some g)(hv:w.var? P nm=some cs)
  (ht:P.underlying t=some (.array n e)) (he:P.underlying e=some (.struct fs)) (hc:P.cellsOf e=m) (hfs:fs.size=m) (hm:0<m)
  (hf : ∀ j<m,∃ f,fs[j]?=some f∧f.offset=j∧P.cellsOf f.type=1∧P.underlying f.type=some (.int k)) (hct:P.cellsOf t=n*m) (hr : ∀ r∈rows,r.length=m) (hn:0<rows.flatten.length)
  (h:DataW.trod (fun _=>()) P w 0 (fun _=>true) false fuel t cs.toList=some (.agg (rows.map fun r=> .agg (r.map fun x=> .lit (.int k x))),p)) (hF:g<w.heap.size→F g) :
  qV (fun _=>none) F w (.ro (rows.flatten.map (T.int k))) (.pointer (some ⟨g,0,none⟩)):=by
 obtain⟨_,hcs⟩:=zHs ht he hc hfs hm hf hct hr h;have hw : ∀ j,w.cell? ((⟨g,0,none⟩:Addr).add j)=cs.toList[j]?:=by
  intro j;have e:(⟨g,0,none⟩:Addr).add j=⟨g,j,none⟩:=by
   unfold Addr.add;split
   ·rename_i h0;rw[h0]
   ·simp
  rw[e,World.var?_cell hg hv j,Array.getElem?_toList]
 refine .ro (rows.flatten.map (T.int k)) ⟨g,0,none⟩ cs.toList rfl (by rw[hcs,List.length_map,List.length_map]) ?_ (hF ?_) (fun j u hu=>(hw j).trans hu) ?_
 ·intro u hu;rw[hcs,List.mem_map] at hu;obtain⟨z,_,rfl⟩:=hu;rfl
 ·have h0:=hw 0;rw[hcs,List.getElem?_map,List.getElem?_eq_getElem hn,Option.map_some] at h0;have:=(qSy h0).1;rw[qBy] at this;exact this
 ·intro j c u hcj hu;rw[List.getElem?_map,Option.map_eq_some_iff] at hcj;obtain⟨z,hz,rfl⟩:=hcj;rw[hcs,List.getElem?_map,hz,Option.map_some] at hu;cases hu;exact .int k z
theorem zIk {w:World}{nm:String}{g t e n m:Nat}{k:IntKind}{rows:List (List Int)}{cs:Array Value}{fuel:Nat}{p:List MemPlace}{fs:Array Field}(hg:P.globalNamed nm=some g)(hv:w.var? P nm=some cs)
  (ht:P.underlying t=some (.array n e)) (he:P.underlying e=some (.struct fs)) (hc:P.cellsOf e=m) (hfs:fs.size=m) (hm:0<m)
  (hf : ∀ j<m,∃ f,fs[j]?=some f∧f.offset=j∧P.cellsOf f.type=1∧P.underlying f.type=some (.int k)) (hct:P.cellsOf t=n*m) (hr : ∀ r∈rows,r.length=m)
  (h:DataW.trod (fun _=>()) P w 0 (fun _=>true) false fuel t cs.toList=some (.agg (rows.map fun r=> .agg (r.map fun x=> .lit (.int k x))),p)):GSz w g (rows.flatten.map (T.int k)).length:=by
 obtain⟨_,hcs⟩:=zHs ht he hc hfs hm hf hct hr h;unfold World.var? at hv;rw[hg,Option.bind_some] at hv;split at hv
 ·rename_i c e z hc;cases hv;refine⟨_,e,z,hc,?_⟩;have:=congrArg List.length hcs;rw[List.length_map] at this;rw[List.length_map,←this];simp
 ·cases hv
end Go.Eng
end
section
set_option maxRecDepth 100000
namespace Go.Proofs.YtlhjonbjbiafaaaGreatDoor
open Go.Eng Go.ChangeShapes Go.WideShapes Go.ChangeAt Go.WideElems Go.RowKit
def qA4:List (String×DataW Unit):=[("sealwright/digest.round256",Rows.laid_sealwright_digest_round256),("sealwright/command.magic",Rows.laid_sealwright_command_magic),("sealwright/command.forms",Rows.laid_sealwright_command_forms),("unicode/utf8.acceptRanges",Rows.laid_unicode_utf8_acceptRanges),("unicode/utf8.first",Rows.laid_unicode_utf8_first)]
theorem jF4:ownKnob Tryz.prog.godebug=none:=by kernel_rfl
theorem zB5:laidOutB Tryz.prog=true:=by kernel_rfl
theorem jR2:Tryz.prog.globalNamed "sealwright/digest.round256" = some 2:=by kernel_rfl
theorem zZ4:(Rows.laid_sealwright_digest_round256:DataW Unit) = .agg ((zAd.map fun x=>(x.toNat:Int)).map fun m=> .lit (.int .u32 m)):=by rfl
theorem jR5 (W:World){ps:List MemPlace}(hv:DataW.LaidVars Tryz.prog W qA4 ps):qV (fun _=>none) (fun b=>b<W.heap.size) W (.ro (zAd.map zU)) (.pointer (some ⟨2,0,none⟩))∧GSz W 2 (zAd.map zU).length:=by
 obtain⟨g,t,cs,fuel,p,h1,h2,h3,h4⟩:=qNh hv _ (.head _);obtain rfl:=Option.some.inj (jR2.symm.trans h1);obtain rfl:=Option.some.inj ((show (Tryz.prog.globals[2]?).map (·.type)=some 125 by kernel_rfl).symm.trans h2);have h4':DataW.trod (fun _=>()) Tryz.prog W 0 (fun _=>true) false fuel 125 cs.toList=some (.agg ((zAd.map fun x=>(x.toNat:Int)).map fun m=> .lit (.int .u32 m)),p):=by rw[←zZ4];exact h4
 have e:(zAd.map fun x=>(x.toNat:Int)).map (T.int .u32)=zAd.map zU:=by rw[List.map_map];rfl
 rw[←e];exact⟨zNm (F:=fun b=>b<W.heap.size) h1 h3 Tryz.underlying125 Tryz.underlying124 (by kernel_rfl) (by kernel_rfl) (by decide) h4' (fun h=>h),zMc h1 h3 Tryz.underlying125 (by kernel_rfl) h4'⟩
theorem jR3:Tryz.prog.globalNamed "sealwright/command.magic" = some 0:=by kernel_rfl
theorem zZ5:(Rows.laid_sealwright_command_magic:DataW Unit) = .agg ((([83,87]:List Int)).map fun m=> .lit (.int .u8 m)):=by rfl
theorem jR6 (W:World){ps:List MemPlace}(hv:DataW.LaidVars Tryz.prog W qA4 ps):qV (fun _=>none) (fun b=>b<W.heap.size) W (.ro (zV2)) (.pointer (some ⟨0,0,none⟩))∧GSz W 0 (zV2).length:=by
 obtain⟨g,t,cs,fuel,p,h1,h2,h3,h4⟩:=qNh hv _ (.tail _ (.head _));obtain rfl:=Option.some.inj (jR3.symm.trans h1);obtain rfl:=Option.some.inj ((show (Tryz.prog.globals[0]?).map (·.type)=some 204 by kernel_rfl).symm.trans h2);have h4':DataW.trod (fun _=>()) Tryz.prog W 0 (fun _=>true) false fuel 204 cs.toList=some (.agg ((([83,87]:List Int)).map fun m=> .lit (.int .u8 m)),p):=by rw[←zZ5];exact h4
 have e:(([83,87]:List Int)).map (T.int .u8)=zV2:=rfl;rw[←e];exact⟨zNm (F:=fun b=>b<W.heap.size) h1 h3 Tryz.underlying204 Tryz.underlying5 (by kernel_rfl) (by kernel_rfl) (by decide) h4' (fun h=>h),zMc h1 h3 Tryz.underlying204 (by kernel_rfl) h4'⟩
theorem jR4:Tryz.prog.globalNamed "sealwright/command.forms" = some 1:=by kernel_rfl
theorem zZ6:(Rows.laid_sealwright_command_forms:DataW Unit) = .agg ((zQ5.map fun t=>[t.1,t.2.1,t.2.2.1,t.2.2.2.1,t.2.2.2.2]).map fun r=> .agg (r.map fun x=> .lit (.int .i64 x))):=by rfl
theorem jR7 (W:World){ps:List MemPlace}(hv:DataW.LaidVars Tryz.prog W qA4 ps):qV (fun _=>none) (fun b=>b<W.heap.size) W (.ro (zPi)) (.pointer (some ⟨1,0,none⟩))∧GSz W 1 (zPi).length:=by
 obtain⟨g,t,cs,fuel,p,h1,h2,h3,h4⟩:=qNh hv _ (.tail _ (.tail _ (.head _)));obtain rfl:=Option.some.inj (jR4.symm.trans h1);obtain rfl:=Option.some.inj ((show (Tryz.prog.globals[1]?).map (·.type)=some 207 by kernel_rfl).symm.trans h2);have h4':DataW.trod (fun _=>()) Tryz.prog W 0 (fun _=>true) false fuel 207 cs.toList=some (.agg ((zQ5.map fun t=>[t.1,t.2.1,t.2.2.1,t.2.2.2.1,t.2.2.2.2]).map fun r=> .agg (r.map fun x=> .lit (.int .i64 x))),p):=by rw[←zZ6];exact h4
 have e:((zQ5.map fun t=>[t.1,t.2.1,t.2.2.1,t.2.2.2.1,t.2.2.2.2]).flatten).map (T.int .i64)=zPi:=rfl;have hc:Tryz.prog.cellsOf 3=1:=by kernel_rfl
 have hf : ∀ fs,Tryz.prog.underlying 206=some (.struct fs) → ∀ j<5,∃ f,fs[j]?=some f∧f.offset=j∧Tryz.prog.cellsOf f.type=1∧Tryz.prog.underlying f.type=some (.int .i64):=by
  intro fs h;rw[Tryz.underlying206] at h;cases h;exact fun
   | 0,_=>⟨_,rfl,rfl,hc,Tryz.underlying3⟩
   | 1,_=>⟨_,rfl,rfl,hc,Tryz.underlying3⟩
   | 2,_=>⟨_,rfl,rfl,hc,Tryz.underlying3⟩
   | 3,_=>⟨_,rfl,rfl,hc,Tryz.underlying3⟩
   | 4,_=>⟨_,rfl,rfl,hc,Tryz.underlying3⟩
   | n+5,h=>absurd h oM
 have hr : ∀ r∈(zQ5.map fun t=>[t.1,t.2.1,t.2.2.1,t.2.2.2.1,t.2.2.2.2]),r.length=5:=by decide
 rw[←e];exact⟨zIv (F:=fun b=>b<W.heap.size) h1 h3 Tryz.underlying207 Tryz.underlying206 (by kernel_rfl) rfl (by decide) (hf _ Tryz.underlying206) (by kernel_rfl) hr (by decide) h4' (fun h=>h),zIk h1 h3 Tryz.underlying207 Tryz.underlying206 (by kernel_rfl) rfl (by decide) (hf _ Tryz.underlying206) (by kernel_rfl) hr h4'⟩
theorem jF0 (W:World){ps:List MemPlace}(hv:DataW.LaidVars Tryz.prog W qA4 ps)(g:Nat)(cs:List T)(hg:gl0 g=some cs):qV (fun _=>none) (fun b=>b<W.heap.size) W (.ro cs) (.pointer (some ⟨g,0,none⟩))∧GSz W g cs.length:=by
 unfold gl0 at hg;split at hg
 ·rename_i h0;subst h0;cases hg;exact jR5 W hv
 ·skip
  split at hg
  ·rename_i h0;subst h0;cases hg;exact jR6 W hv
  ·skip
   split at hg
   ·rename_i h0;subst h0;cases hg;exact jR7 W hv
   ·cases hg
theorem jF2 (W:World)(h:laidMetH Tryz.prog qA4 W):zKd gl0 (fun b=>b<W.heap.size) W:=by
 rw[MakeChecks.laidMetH_plain _ _ _ (by kernel_rfl)] at h;obtain⟨ps,hv,_⟩:=h;exact⟨fun _ h=>h,fun g cs hg=>(jF0 W hv g cs hg).1,fun g cs hg=>(jF0 W hv g cs hg).2⟩
abbrev jK2:TypeId:=4
theorem zWg:Tryz.prog.underlying jK2=some .bool:=Tryz.underlying4
theorem zHj (os:Os)(args:Array Value):((World.laidAll Tryz.prog os qA4).forCall (fun _ _=>0) ⟨#[],args,[]⟩).Shaped Tryz.prog:=World.shaped_of_ZipB (by kernel_rfl) (by kernel_rfl)
theorem zGu (os:Os)(args:Array Value):laidMetH Tryz.prog qA4 ((World.laidAll Tryz.prog os qA4).forCall (fun _ _=>0) ⟨#[],args,[]⟩).memory:=by
 rw[MakeChecks.laidMetH_plain _ _ _ (by kernel_rfl)];exact laidMet_laidAll _ (by kernel_rfl) (by kernel_rfl)
end Go.Proofs.YtlhjonbjbiafaaaGreatDoor
end
