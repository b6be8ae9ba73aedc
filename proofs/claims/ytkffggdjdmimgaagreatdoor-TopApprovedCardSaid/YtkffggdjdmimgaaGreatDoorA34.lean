/- A part of the proof. -/
import Derived.KernelRfl
import Derived.Test.YtkffggdjdmimgaaGreatDoorA36
import Derived.WideKeyArgs
import Derived.Handed
import Derived.OpenShut
import Derived.RowKit
import Derived.ProofKit
import Derived.LaidMore
import Derived.MakeChecks
import Derived.Stop.Joined
set_option linter.all false
section
set_option maxRecDepth 100000
namespace Go.Eng
open List
open Go.Proofs Go.Proofs.YtkffggdjdmimgaaGreatDoor
def gl0:Gl:=fun g=>if g=2 then some (zFu.map jC) else if g=0 then some (jD7) else if g=1 then some (zW3) else none
abbrev TO (t:Tab):Prop:=qCc Tryz.prog gl0 t
structure TT where
 t:Tab
 h:TO t
def T0:TT:=⟨[],qCc.nil⟩
noncomputable section
def aE {n:Nat}{E:ECt}(T:TT)(h : ∃ g:EF E,FOk Tryz.prog gl0 n (E.fs g)):TT:=⟨(n,E.fs h.choose)::T.t,.cons h.choose_spec T.h⟩
def aF {n:Nat}{f:FnS}(T:TT)(h:FOk Tryz.prog gl0 n f):TT:=⟨(n,f)::T.t,.cons h T.h⟩
abbrev Cl (n:Nat)(fn:Func)(rs:List (Nat×Option (Nat×Bool))):Prop:=Tryz.prog.funcs[n]?=some fn∧(fn.name == "runtime.NumGoroutine")=false∧fn.body=some (fn.body.getD .skip)∧Tryz.prog.follows .mixedOrders=true∧qNk Tryz.prog fn.results.toList=some rs
def xE (n:Nat)(T:TT)(E:ECt){fn:Func}{h:List (Nat×List Nat)}{rs:List (Nat×Option (Nat×Bool))}(c:AF fn h)(w : ∀ x,E.pre x→c.1.wp T.t gl0 (qE 0 (E.aS x)) (qE 0 (E.ins x)) (qV rs (E.ins x).length (E.K x)))(k:Cl n fn rs:=by exact⟨by kernel_rfl,by kernel_rfl,by kernel_rfl,by kernel_rfl,by kernel_rfl⟩)(z:c.1.strict=true:=by kernel_rfl)(u : ∀ x,(E.aS x).length≤fn.ntmps:=by exact fun _=>Nat.le_of_ble_eq_true (by kernel_rfl))(v : ∀ x,(E.ins x).length≤100:=by exact fun _=>Nat.le_of_ble_eq_true (by kernel_rfl)):TT:=aE (n:=n) T (jVf _ _ _ _ T.h E w k.1 k.2.1 k.2.2.1 c.2 k.2.2.2.1 k.2.2.2.2 z u v)
def xG (n:Nat)(T:TT)(E:ECt){fn:Func}{h:List (Nat×List Nat)}{rs:List (Nat×Option (Nat×Bool))}(c:AF fn h)(w : ∀ x,E.pre x→c.1.wp T.t gl0 (qE 0 (E.aS x)) (qE 0 (E.ins x)) (kG [] rs (E.ins x).length (E.K x)))(k:Cl n fn rs:=by exact⟨by kernel_rfl,by kernel_rfl,by kernel_rfl,by kernel_rfl,by kernel_rfl⟩)(z:c.1.strict=true:=by kernel_rfl)(u : ∀ x,(E.aS x).length≤fn.ntmps:=by exact fun _=>Nat.le_of_ble_eq_true (by kernel_rfl))(v : ∀ x,(E.ins x).length≤100:=by exact fun _=>Nat.le_of_ble_eq_true (by kernel_rfl)):TT:=aE (n:=n) T (jVg [] _ _ _ _ T.h E w k.1 k.2.1 k.2.2.1 c.2 k.2.2.2.1 k.2.2.2.2 z u v)
def xW (n:Nat)(T:TT)(E:Ct){fn:Func}{h:List (Nat×List Nat)}{rs:List (Nat×Option (Nat×Bool))}(c:AF fn h)(w : ∀ x,E.pre x→c.1.wp T.t gl0 (qE 0 (E.aS x)) (qE 0 (E.ins x)) (qV rs (E.ins x).length (fun r' o'=>r'=E.r x∧o'=E.outs x)))(k:Cl n fn rs:=by exact⟨by kernel_rfl,by kernel_rfl,by kernel_rfl,by kernel_rfl,by kernel_rfl⟩)(u : ∀ x,(E.aS x).length≤fn.ntmps:=by exact fun _=>Nat.le_of_ble_eq_true (by kernel_rfl))(v : ∀ x,(E.ins x).length≤100:=by exact fun _=>Nat.le_of_ble_eq_true (by kernel_rfl)):TT:=aF (n:=n) T (yEj k.1 k.2.1 k.2.2.1 c.2 k.2.2.2.1 T.h k.2.2.2.2 E u v w)
def xF (fz:List Nat)(n:Nat)(T:TT)(E:Ct){fn:Func}{h:List (Nat×List Nat)}{rs:List (Nat×Option (Nat×Bool))}(c:AF fn h)(w : ∀ x,E.pre x→c.1.wp T.t gl0 (qE 0 (E.aS x)) (qE 0 (E.ins x)) (kG fz rs (E.ins x).length (fun r' o'=>r'=E.r x∧o'=E.outs x)))(k:Cl n fn rs:=by exact⟨by kernel_rfl,by kernel_rfl,by kernel_rfl,by kernel_rfl,by kernel_rfl⟩)(u : ∀ x,(E.aS x).length≤fn.ntmps:=by exact fun _=>Nat.le_of_ble_eq_true (by kernel_rfl))(v : ∀ x,(E.ins x).length≤100:=by exact fun _=>Nat.le_of_ble_eq_true (by kernel_rfl)):TT:=aF (n:=n) T (yEg fz k.1 k.2.1 k.2.2.1 c.2 k.2.2.2.1 T.h k.2.2.2.2 E u v w)
def xN (t0 nb z0 n:Nat)(T:TT)(E:Ct){fn:Func}{h:List (Nat×List Nat)}{rs:List (Nat×Option (Nat×Bool))}(c:AF fn h)(w : ∀ x,E.pre x→c.1.wp T.t gl0 (qE 0 (E.aS x)) (qE 0 (E.ins x)) (jQ4 t0 nb z0 (kG [] rs (E.ins x).length (fun r' o'=>r'=E.r x∧o'=E.outs x))))(k:Cl n fn rs:=by exact⟨by kernel_rfl,by kernel_rfl,by kernel_rfl,by kernel_rfl,by kernel_rfl⟩)(u : ∀ x,(E.aS x).length≤fn.ntmps:=by exact fun _=>Nat.le_of_ble_eq_true (by kernel_rfl))(v : ∀ x,(E.ins x).length≤100:=by exact fun _=>Nat.le_of_ble_eq_true (by kernel_rfl)):TT:=aF (n:=n) T (yEi t0 nb z0 k.1 k.2.1 k.2.2.1 c.2 k.2.2.2.1 T.h k.2.2.2.2 E u v w)
def T1:=xW 95 T0 zMw qGv fun _ _=>zFe T0.t _
def T2:=xF [] 121 T1 qTi qN9 fun x _=>zQ0 T1.t _ x
def T3:=xF [] 193 T2 qRm qIi fun x hx=>zIj T2.t _ x hx
def T4:=xW 260 T3 qI6 qGs fun x hx=>zFd T3.t _ x.1 x.2 hx.1 hx.2
def T5:=xW 261 T4 qTl qAf fun x hx=>qQ2 T4.t _ x.1 x.2 hx
def T6:=xW 194 T5 (qA9 5 qEj) kK fun x hx=>qRc T5.t _ rfl rfl x hx
def T7:=xF [] 195 T6 qB3 qDs fun x hx=>qZt T6.t _ x hx
def T8:=xW 196 T7 (qA9 8 xA) xQ fun x hx=>qNs T7.t _ rfl rfl rfl x.2 x.1 hx.1 hx.2
def T9:=xF [] 153 T8 qBa qAa fun x hx=>zIi T8.t _ rfl rfl rfl rfl x.1 hx.1 x.2 hx.2
def T10:=xF [] 154 T9 zC6 qKm fun x hx=>zLk T9.t _ x.1 x.2 hx
def T11:=xF [] 122 T10 zBy qTb fun x hx=>zWj T10.t _ rfl rfl x.1 x.2 hx.1 hx.2
def T12:=xW 96 T11 qH2 qEh fun x hx=>zIk T11.t _ rfl rfl x.1 x.2.1 x.2.2.1 x.2.2.2 hx.1 hx.2.1 hx.2.2.1 hx.2.2.2
def T13:=xW 61 T12 zDf qBi fun x hx=>zLz T12.t _ rfl rfl x.1 x.2 hx
def T14:=xE 63 T13 qOo qN7 fun n hp=>zQr T13.t _ n hp
def T15:=xE 102 T14 qOk qIy fun ⟨l,i⟩ hp=>zQs T14.t _ l i hp
def T16:=xF [] 98 T15 vB qK8 fun x hx=>zL1 T15.t _ x.1 x.2.1 x.2.2 hx.1 hx.2
def T17:=xF [] 101 T16 qFo qK7 fun x hx=>zL0 T16.t _ rfl x.1 x.2 hx.1 hx.2
def T18:=xF [] 103 T17 zC7 qCx fun x hx=>qWi T17.t _ rfl x.1 x.2 hx
def T19:=xE 104 T18 qPk qK2 fun b hp=>zLc T18.t _ b
def T20:=xW 126 T19 kT yN fun x hx=>qRe T19.t _ x hx
def T21:=xF [] 105 T20 zC5 kN fun x hx=>qS1 T20.t _ rfl rfl x.1 x.2 hx
def T22:=xG 64 T21 qL4 qFh fun s hp=>zAw T21.t _ rfl rfl rfl rfl rfl rfl s hp
def T23:=xE 97 T22 qLp qDv fun n hp=>qZb T22.t _ n hp
def T24:=xF [] 155 T23 qEk qEx fun x hx=>zA9 T23.t _ x.1 hx.1 x.2 hx.2
def T25:=xF [] 123 T24 jL qGr fun x hx=>zFb T24.t _ rfl rfl x.1 x.2 hx.1 hx.2
def T26:=xE 99 T25 qLq qE2 fun ⟨n,p⟩ hp=>zAj T25.t _ rfl rfl n p hp
def T27:=xE 156 T26 qI8 qBr fun ⟨k,i⟩ hp=>zH5 T26.t _ k i hp
def T28:=xW 125 T27 zGh qEz fun x hx=>zBb T27.t _ x.1 x.2 hx
def T29:=xW 124 T28 (zC4 125) qN8 fun x hx=>zQz T28.t _ 125 rfl rfl x.1 x.2.1 x.2.2 hx
def T30:=xE 100 T29 qOs qIj fun ⟨k,i,b⟩ hp=>zH4 T29.t _ rfl k i b hp
def T31:=xE 62 T30 qJc qCm fun ⟨k,b,n,p⟩ hp=>qVy T30.t _ rfl rfl rfl rfl k b n p hp
def T32:=xE 106 T31 qOr qKk fun k hp=>zLa T31.t _ k
def T33:=xE 65 T32 qHk qGq fun d hp=>zEn T32.t _ rfl d
def T34:=xE 36 T33 qL8 qGo fun ⟨n,en,a⟩ hp=>zEl T33.t _ rfl rfl rfl rfl rfl n en a hp
def T35:=xE 67 T34 qL9 qBq fun d hp=>qUc T34.t _ rfl d
def T36:=xE 73 T35 qMa xZ fun d hp=>qVx T35.t _ d
def T37:=xE 107 T36 qOq qEy fun k hp=>zAg T36.t _ k
def T38:=xE 127 T37 qOp qF7 fun ⟨k,i⟩ hp=>zK9 T37.t _ rfl k i hp
def T39:=xF [8208] 129 T38 qFr qOf fun x hx=>zQ6 T38.t _ x hx
def T40:=xW 160 T39 qTh qA7 fun x hx=>zL2 T39.t _ x.1 hx x.2
def T41:=xW 161 T40 kP yO fun x hx=>zIy T40.t _ x hx
def T42:=xW 157 T41 qXs wR fun x hx=>qU2 T41.t _ rfl rfl x.1 hx.1 x.2 hx.2
def T43:=xW 141 T42 qFp vR fun x hx=>qS7 T42.t _ rfl rfl x.1 hx.1 x.2 hx.2
def T44:=xW 143 T43 qLc qB1 fun x hx=>qU1 T43.t _ x hx
def T45:=xE 128 T44 qO0 qAt fun ⟨b,w⟩ hp=>qZc T44.t _ rfl rfl rfl rfl rfl b w hp
def T46:=xE 108 T45 qO1 yZ fun ⟨k,b⟩ hp=>qUe T45.t _ rfl rfl rfl k b hp
def T47:=xE 131 T46 qJa jW fun ⟨s,e,k,m⟩ hp=>qNr T46.t _ rfl rfl s e k m hp
def T48:=xE 130 T47 qOy qB0 fun ⟨s,e,k⟩ hp=>qUk T47.t _ rfl s e k hp
def T49:=xW 142 T48 qGd jU fun x hx=>qS5 T48.t _ rfl rfl x.1 hx.1 x.2 hx.2
def T50:=xE 133 T49 qHh kO fun ⟨s,e⟩ hp=>qSt T49.t _ rfl rfl s e hp
def T51:=xE 132 T50 qTo qCw fun ⟨s,e,n⟩ hp=>qV8 T50.t _ rfl s e n hp
def T52:=xE 134 T51 qOz qA5 fun ⟨s,e⟩ hp=>qSu T51.t _ rfl s e hp
def T53:=xW 198 T52 xB qAn fun x _=>zFc T52.t _ x
def mU6:AF Tryz.f344 []:=⟨_,cvG⟩
theorem mU7 (tab:Tab)(gl:Gl)(n:Int)(hn:n=20∨n=32):mU6.1.wp tab gl (qE 0 [.t (.int .u64 1),.t (.int .u64 n)]) (qE 0 []) (qV [(4,none),(5,none)] 0 (fun r o=>r = .tup [.t (.int .u64 0),.t (.int .u64 n)]∧o=[])):=by
 rcases hn with rfl | rfl<;>simp(disch:=omega)only[go_sem,mU6,BitVec.reduceOfInt,BitVec.reduceAnd,BitVec.reduceToNat,Int.reduceFDiv]
def S53:=xW 344 T53 qM5 mU6 fun x hx=>mU7 T53.t _ x hx
def T54:=xW 329 S53 qM5 qN6 fun x hx=>zQy S53.t _ rfl x hx
def T55:TT:=aF T54 (show FOk Tryz.prog gl0 330 zGc.fs from jNy (fn:=Tryz.f330) (ps := #[3]) (t:=22) (e:=5) (by kernel_rfl) (by kernel_rfl) (by kernel_rfl) (by kernel_rfl) (by kernel_rfl) (by kernel_rfl))
def T56:=xF [] 301 T55 qRn qEw fun x hx=>zA8 T55.t _ rfl rfl x.1 x.2 hx
def T57:=xF [] 262 T56 kE qCu fun x hx=>qWf T56.t _ rfl x.2 x.1 hx
def T58:=xF [] 197 T57 kH jR fun x hx=>qWj T57.t _ rfl rfl x
def T59:=xW 159 T58 qTj qA6 fun x hx=>qS6 T58.t _ x hx
def T60:=xW 137 T59 qI5 wQ fun x hx=>qU0 T59.t _ rfl x hx
def T61:=xW 158 T60 zC3 zU fun x hx=>qSz T60.t _ rfl rfl rfl rfl rfl rfl rfl x hx
def T62:=xE 135 T61 qTp kA fun ⟨s,e⟩ hp=>qQ1 T61.t _ rfl rfl s e hp
def T63:=xE 136 T62 qTq qAj fun ⟨s,e⟩ hp=>qQ0 T62.t _ rfl rfl rfl s e hp
def T64:=xE 109 T63 qOt xU fun b hp=>zAv T63.t _ rfl rfl rfl rfl rfl rfl rfl rfl rfl b hp
def T65:=xE 110 T64 qLe qIx fun s hp=>zH8 T64.t _ s
def T66:=xE 66 T65 qP0 qCl fun d hp=>qVw T65.t _ rfl rfl rfl rfl rfl d hp
def T67:=xE 68 T66 qMi qHa fun m hp=>zEz T66.t _ m
def T68:=xE 138 T67 qJj qFa fun _ hp=>zAq T67.t _
def T69:=xE 111 T68 qPy qG1 fun k hp=>zA0 T68.t _ rfl k hp
def T70:=xE 112 T69 qL6 kL fun ⟨a,b⟩ hp=>zE1 T69.t _ a b
def T71:=xE 113 T70 qL7 xR fun h hp=>qZq T70.t _ h
def T72:=xF [] 31 T71 vB qKv fun x hx=>zLv T71.t _ x.1 x.2.1 x.2.2 hx.1 hx.2
def T73:=xF [] 45 T72 qFo qKu fun x hx=>zLu T72.t _ rfl x.1 x.2 hx.1 hx.2
def T74:=xE 72 T73 qJk qIp fun q hp=>zE2 T73.t _ rfl rfl q hp
def T75:=xE 114 T74 qPx qIq fun q hp=>zE3 T74.t _ rfl q hp
def T76:=xE 71 T75 qPv qG0 fun q hp=>zAz T75.t _ rfl rfl rfl rfl q hp
def T77:=xE 42 T76 qPw qE9 fun q hp=>zAp T76.t _ rfl rfl q hp
def T78:=xE 139 T77 qLi qDq fun b hp=>qY5 T77.t _ rfl b hp
def T79:=xE 140 T78 qLh qDp fun k hp=>qY4 T78.t _ rfl k hp
def T80:=xE 144 T79 qI7 yY fun ⟨n,s⟩ hp=>qUb T79.t _ n s
def T81:=xE 115 T80 qLf qCk fun b hp=>qVv T80.t _ rfl rfl rfl rfl rfl rfl rfl rfl b hp
def T82:=xE 116 T81 qLg yT fun r hp=>qIf T81.t _ rfl rfl r hp
def T83:=xE 162 T82 qLj xP fun n hp=>zAf T82.t _ n
def T84:=xE 163 T83 qLk qDr fun q hp=>qY6 T83.t _ rfl rfl rfl q hp
def T85:=xE 145 T84 qOn qDo fun q hp=>qY3 T84.t _ rfl rfl rfl rfl q hp
def T86:=xE 146 T85 qBb qGw fun ⟨s,e⟩ hp=>zEs T85.t _ s e
def T87:=xE 166 T86 qFs qE0 fun ⟨s,h⟩ hp=>zAh T86.t _ s h hp
def T88:=xE 165 T87 qHg wF fun ⟨s,h⟩ hp=>qY8 T87.t _ s h hp
def T89:=xE 263 T88 qOv xM fun h hp=>qNo T88.t _ rfl h hp
def T90:=xE 209 T89 qJb qCi fun x hp=>qVu T89.t _ rfl rfl x hp
def T91:=xG 233 T90 qB4 qGn fun x hp=>zEk T90.t _ rfl x hp
def T92:=xE 216 T91 qB5 qKj fun x hp=>zK8 T91.t _ rfl rfl x hp
def T93:=xE 199 T92 qHf kW fun ⟨s,h⟩ hp=>zEp T92.t _ rfl rfl rfl rfl rfl s h hp
def T94:=xE 164 T93 qI9 qGt fun ⟨s,h⟩ hp=>zEo T93.t _ rfl s h hp
def T95:=xE 147 T94 qO8 yK fun ⟨s,q⟩ hp=>qV1 T94.t _ rfl rfl rfl s q hp
def T96:=xF [] 264 T95 jP vK fun x hx=>qU3 T95.t _ x hx
def T97:=xW 200 T96 qLd yM fun x hx=>qRd T96.t _ rfl rfl rfl x hx
def T98:=xE 167 T97 qPu jS fun ⟨s,m⟩ hp=>qZo T97.t _ rfl rfl s m hp
def T99:=xE 168 T98 qJe qC6 fun ⟨s,c,e⟩ hp=>zEr T98.t _ rfl s c e
def jWv:=xW 265 T99 kB wP fun x _=>qUs T99.t _ x
def jWw:=xW 266 jWv qKc qFf fun x hx=>zBk jWv.t _ rfl x.1 x.2.1 hx.1 x.2.2 hx.2
def jWx:=xF [] 201 jWw zM2 yG fun x hx=>qUr jWw.t _ rfl rfl x.1 x.2.1 x.2.2.1 x.2.2.2 hx
def jWy:=xW 267 jWx qB2 qBw fun x _=>qUt jWx.t _ x.1 x.2
def jWz:=xW 202 jWy xV zD fun x hx=>qS2 jWy.t _ rfl rfl rfl rfl rfl rfl x hx
def jW0:=xW 203 jWz zJu xI fun x hx=>qUq jWz.t _ rfl rfl rfl x.1 x.2.1 x.2.2.1 x.2.2.2.1 x.2.2.2.2 hx.1 hx.2.1 hx.2.2
def jW1:=xE 170 jW0 qPe qBs fun ⟨s,lo,q⟩ hp=>qUg jW0.t _ rfl rfl rfl s lo q hp
def jW2:=xE 190 jW1 qL1 qFi fun ⟨s,n⟩ hp=>zAx jW1.t _ rfl rfl s n hp
def jW3:=xF [] 268 jW2 qU7 qE6 fun _ _=>zBd jW2.t _
def jW4:=xF [] 191 jW3 zGa zW fun x hx=>qWh jW3.t _ x hx
def jW5:=xE 259 jW4 qJg qG7 fun ⟨s,k,x⟩ hp=>zEw jW4.t _ rfl s k x hp
def jW6:=xE 208 jW5 qPt qFg fun ⟨s,k⟩ hp=>zAs jW5.t _ rfl rfl rfl s k hp
def jW7:=xE 217 jW6 qJi kD fun ⟨s,h⟩ hp=>zAt jW6.t _ s h hp
def jW8:=xE 176 jW7 qHj qBx fun ⟨s,h⟩ hp=>zAr jW7.t _ rfl s h hp
def jW9:=xE 172 jW8 qPc qGx fun ⟨s,q⟩ hp=>zEt jW8.t _ rfl rfl s q hp
def jXa:=xE 212 jW9 qL3 jG fun ⟨s,h⟩ hp=>qJ0 jW9.t _ rfl s h hp
def jXb:=xW 290 jXa zDd qD0 fun x _=>qZu jXa.t _ x.1 x.2.1 x.2.2
def jXc:=xW 289 jXb zC8 qBv fun x _=>qUn jXb.t _ x
def jXd:=xE 291 jXc qPm qE7 fun ⟨e,b⟩ hp=>zAo jXc.t _ e b
def jXe:=xE 241 jXd qLz yF fun a hp=>zAn jXd.t _ rfl rfl rfl a hp
def jXf:=xW 302 jXe zX4 qBy fun x hx=>qUw jXe.t _ x.1 x.2.1 x.2.2
def jXg:=xF [] 239 jXf qI3 qA3 fun x hx=>qS0 jXf.t _ rfl rfl rfl x.1 x.2.1 x.2.2.1 x.2.2.2 hx
def jXh:=xE 303 jXg qPs jN fun ⟨s,x,a⟩ hp=>qIg jXg.t _ rfl s x a hp
def jXi:=xE 298 jXh qP2 vZ fun ⟨l,v⟩ hp=>qHu jXh.t _ l v hp
def jXj:=xE 253 jXi qMd vA fun ⟨l,v⟩ hp=>qEs jXi.t _ rfl l v hp
def jXk:=xE 350 jXj qOm xO fun ⟨a,c⟩ hp=>qNp jXj.t _ a c hp
def jXl:=xW 345 jXk zMo qCj fun x hx=>qWb jXk.t _ rfl x hx
def jXm:TT:=aF jXl (show FOk Tryz.prog gl0 354 zF8.fs from jNx (fn:=Tryz.f354) (by kernel_rfl) (by kernel_rfl) (by kernel_rfl) (by kernel_rfl) (by kernel_rfl))
def jXn:=xE 346 jXm qOl qDn fun ⟨a,b⟩ hp=>qY2 jXm.t _ rfl a b hp
def yCb:=xE 331 jXn qLy qCr fun ⟨op,a,b⟩ hp=>qV5 jXn.t _ rfl rfl op a b hp
def jXo:=xE 304 yCb qL2 xS fun ⟨s,a⟩ hp=>qNq yCb.t _ rfl rfl rfl s a hp
def jXp:=xW 307 jXo zF9 qBz fun x hx=>qUx jXo.t _ x.1 x.2
def mU8:AF Tryz.f332 [(4,[5])]:=⟨_,cvG⟩
theorem mU9 (tab:Tab)(gl:Gl)(n:Nat)(hn:tab.look n=some zF9.fs)(l:List (List UInt8))(x:Ses)(h:l.length≤1000):mU8.1.wp tab gl (qE 0 [.t (.sl (l.map bsT)),.fn n [.ref 0 0 0]]) (qE 0 [sOb x]) (qV [(4,none)] 1 (fun r o=>r = .t (.int .i64 (fdL x.dg l 0))∧o=[sOb x])):=by
 have key : ∀ b:List UInt8,zF9.fs [.t (.sl (b.map qA)),.ref 0 0 0] [.live 8 [.t (yD x)] true true]=some (.t (.bool (decide (b=x.dg))),[.live 8 [.t (yD x)] true true]):=fun b=>zF9.eq (b,x) trivial
 simp(disch:=omega)only[go_sem,mU8,sOb];refine yU (σ:=Nat) (fun k=>k≤l.length∧fdL x.dg (l.drop k) k=fdL x.dg l 0) (fun k=>l.length-k) (fun k=>[(0,.t (.sl (l.map bsT))),(1,.fn n [.ref 0 0 0]),(7,.t (.int .i64 l.length)),(8,.t (.int .i64 k))]) (fun _=>[(0,.live 8 [.t (yD x)] true true)]) 0 ⟨oM,rfl⟩ (qJ.rd id ?_ ?_ rfl) ?_
 ·simp(disch:=omega)only[go_sem,id]
 ·simp(disch:=omega)only[go_sem,id]
 rintro k ⟨hk,hF⟩;by_cases hlt:k<l.length
 ·obtain⟨b,hg,hm,hd⟩:=qX hlt;rw[hd,fdL] at hF;by_cases c:b=x.dg
  ·rw[if_pos c] at hF;have e := key b;rw[show decide (b=x.dg)=true by simpa using c] at e;simp only[yD] at e;simp(disch:=omega)only[go_sem,yD,hlt,hg,oms,hn,e];exact hF
  ·rw[if_neg c] at hF;have e := key b;rw[show decide (b=x.dg)=false by simpa using c] at e;simp only[yD] at e;simp(disch:=omega)only[go_sem,yD,hlt,hg,oms,hn,e];refine qZz.of (k+1) ⟨oM,hF⟩ oM (qJ.rd id ?_ ?_ rfl);all_goals simp(disch:=omega)only[go_sem,id,yD]
 ·rw[show l.drop k=[] from List.drop_eq_nil_of_le oM,fdL] at hF;have e:k=l.length:=oM;subst e;simp(disch:=omega)only[go_sem,hlt];exact hF
def S06:=xW 332 jXp (zMu 307) mU8 fun x hx=>mU9 jXp.t _ 307 rfl x.1 x.2 hx
def jXq:=xW 306 S06 (zMp 307) zM fun x hx=>qJ2 S06.t _ 307 rfl x.1 x.2 hx
def jXr:=xE 269 jXq qPq jI fun ⟨s,x,a⟩ hp=>qZm jXq.t _ rfl rfl rfl rfl s x a hp
def jXs:=xE 316 jXr qPl qAw fun ⟨d,a⟩ hp=>qZk jXr.t _ rfl d a
def jXt:=xG 274 jXs qL0 qAv fun ⟨d,a⟩ hp=>qZj jXs.t _ rfl rfl rfl d a hp
def jXu:=xE 215 jXt qJh qCv fun ⟨s,k,x,a⟩ hp=>qV7 jXt.t _ rfl rfl s k x a hp
def jXv:=xE 210 jXu qPp jB fun ⟨s,h,a⟩ hp=>qV6 jXu.t _ rfl rfl rfl rfl rfl s h a hp
def jXw:=xE 173 jXv qO9 kR fun ⟨s,q⟩ hp=>qZd jXv.t _ rfl rfl rfl rfl s q hp
def jXx:=xE 270 jXw qQe xC fun k hp=>qT7 jXw.t _ k hp
def jXy:=xE 211 jXx qJl qEf fun x hp=>zH3 jXx.t _ rfl x hp
def jXz:=xE 174 jXy qP8 qGm fun b hp=>zEj jXy.t _ rfl rfl rfl rfl rfl b hp
def jX0:=xE 214 jXz qD3 qA4 fun ⟨d,r⟩ hp=>qSs jXz.t _ rfl d r hp
def jX1:=xE 271 jX0 qQd xT fun h hp=>zAu jX0.t _ h
def jX2:=xE 308 jX1 qQf qDy fun l hp=>qZh jX1.t _ l hp
def jX3:=xE 309 jX2 qC0 qCq fun m hp=>qV4 jX2.t _ rfl m hp
def jX4:=xE 333 jX3 qJm qE4 fun ⟨l,c,p,x⟩ hp=>zAm jX3.t _ rfl l c p x hp
def jX5:=xW 310 jX4 zGd qAg fun x hx=>qQ3 jX4.t _ x.1 x.2 hx
def jX6:=xW 313 jX5 zGe qAh fun x hx=>qQ4 jX5.t _ x.1 x.2 hx
def jX7:=xW 314 jX6 zGf qAi fun x _=>qQ5 jX6.t _ x
def jX8:=xW 312 jX7 (zM3 310 313 314) qE5 fun x hx=>zBc jX7.t _ 310 313 314 rfl rfl rfl rfl x.1 x.2 hx
def jX9:=xE 311 jX8 qC1 qDz fun ⟨l,e⟩ hp=>qZi jX8.t _ rfl l e hp
def jYa:=xE 272 jX9 qD4 qBu fun ⟨l,m,sg⟩ hp=>qUi jX9.t _ rfl rfl rfl rfl l m sg hp
def jYb:=xE 273 jYa qHp qI0 fun ⟨x,i,p⟩ hp=>zIa jYa.t _ x i p hp
def jYc:=xE 213 jYb qD5 kS fun ⟨p,m,sg⟩ hp=>qZn jYb.t _ rfl rfl rfl p m sg hp
def jYd:=xE 175 jYc qPo xJ fun ⟨s,h,x,r,w⟩ hp=>qUj jYc.t _ rfl rfl rfl rfl rfl rfl s h x r w hp
def jYe:=xE 148 jYd qPd yE fun ⟨s,lo,q⟩ hp=>zAk jYd.t _ rfl rfl rfl rfl rfl rfl rfl rfl s lo q hp
def jYf:=xE 225 jYe qLr yS fun ⟨c,h⟩ hp=>qIe jYe.t _ rfl c h hp
def jYg:=xE 281 jYf qPn qBo fun k hp=>qT9 jYf.t _ k
def jYh:=xE 226 jYg qMc qBp fun ⟨k,r,w⟩ hp=>qUa jYg.t _ rfl k r w hp
def jYi:=xE 218 jYh qO3 zK fun c hp=>qD9 jYh.t _ rfl rfl rfl c hp
def jYj:=xE 227 jYi qJd vY fun c hp=>qHt jYi.t _ c
def jYk:=xE 276 jYj qLl qA1 fun ⟨s,h⟩ hp=>qSr jYj.t _ rfl s h hp
def jYl:=xE 317 jYk qO6 xH fun ⟨l,n⟩ hp=>qUf jYk.t _ l n hp
def jYm:=xE 277 jYl qO7 qCn fun ⟨l,n⟩ hp=>qVz jYl.t _ rfl l n hp
def jYn:=xE 219 jYm qLt vP fun c hp=>qF6 jYm.t _ rfl rfl rfl c hp
def jYo:=xE 220 jYn qLm qE1 fun ⟨s,h⟩ hp=>zAi jYn.t _ rfl s h hp
def jYp:=xW 278 jYo qOj qF8 fun x hx=>zLj jYo.t _ x.1 x.2 hx
def jYq:=xE 221 jYp qLs vF fun ⟨c,a,b⟩ hp=>qF3 jYp.t _ rfl c a b hp
def jYr:=xE 177 jYq qO5 vE fun ⟨c,x⟩ hp=>qF2 jYq.t _ rfl rfl rfl rfl c x hp
def jYs:=xE 224 jYr qOu qDt fun ⟨s,h⟩ hp=>qY9 jYr.t _ rfl s h hp
def jYt:=xE 178 jYs qLu zV fun ⟨c,x,lo⟩ hp=>qEr jYs.t _ rfl rfl rfl rfl rfl c x lo hp
def jYu:=xE 149 jYt qO2 wJ fun ⟨s,lo,q⟩ hp=>qT8 jYt.t _ rfl rfl rfl s lo q hp
def jYv:=xE 228 jYu qJf qE3 fun q hp=>zAl jYu.t _ q hp
def jYw:=xE 205 jYv qPh qAu fun ⟨q,i⟩ hp=>qZg jYv.t _ q i hp
def jYx:=xE 230 jYw qHi qC7 fun ⟨q,i⟩ hp=>zEu jYw.t _ q i hp
def jYy:=xE 229 jYx qLx qBt fun q hp=>qUh jYx.t _ rfl rfl q hp
def jYz:=xW 282 jYy jC9 qHb fun x _=>zFm jYy.t _ x
def jY0:=xF [] 283 jYz zM1 qHc fun x hx=>zFn jYz.t _ rfl x.1 x.2.1 x.2.2 hx
def jY1:=xE 231 jY0 qMb qGb fun ⟨k,p,au,da⟩ hp=>zLh jY0.t _ rfl rfl rfl rfl k p au da hp
def jY2:=xF [] 207 jY1 zMs jF fun x hx=>qWg jY1.t _ x hx
def jY3:=xE 232 jY2 qPg qGy fun ⟨s,x⟩ hp=>zEv jY2.t _ rfl s x hp
def jY4:=xE 179 jY3 qPi qCp fun ⟨s,q⟩ hp=>qV3 jY3.t _ rfl rfl rfl rfl rfl rfl rfl rfl rfl s q hp
def jY5:=xE 182 jY4 qPj qDx fun ⟨s,q⟩ hp=>qZf jY4.t _ rfl rfl s q hp
def jY6:=xE 292 jY5 qOw qGu fun ⟨k,z⟩ hp=>zEq jY5.t _ k z hp
def jY7:=xE 242 jY6 qLo qKl fun ⟨n,k,t,z,au,po⟩ hp=>zLb jY6.t _ rfl n k t z au po hp
def jY8:=xW 293 jY7 (zMv 244) zX fun x hx=>qNu jY7.t _ 244 x
def jY9:=xW 243 jY8 (zMq 244) zR fun x hx=>qJ3 jY8.t _ 244 rfl x
def jZa:TT:=aF (n:=245) jY9 (jEd (qCc.hd (show qCc _ _ ((245,qRl.fs)::jY9.t) from (xN 2 200 8 245 jY9 qRl zA (fun x hx=>qUy jY9.t _)).h)) (qCc.hd (show qCc _ _ ((245,qXr.fs)::jY9.t) from (xF [] 245 jY9 qXr zA (fun x hx=>qUz jY9.t _ x)).h)))
def jZb:=xE 186 jZa qLv qDw fun ⟨s,q⟩ hp=>qZe jZa.t _ rfl rfl rfl s q hp
def jZc:=xE 300 jZb qOx qDu fun ⟨x,d⟩ hp=>qZa jZb.t _ x d hp
def jFt:=xE 256 jZc qLn xD fun ⟨x,m⟩ hp=>qUd jZc.t _ rfl rfl rfl rfl x m hp
def jZd:=xE 189 jFt qLw qCo fun ⟨s,q⟩ hp=>qV2 jFt.t _ rfl rfl rfl rfl s q hp
def jZe:=xE 150 jZd qPa yI fun ⟨s,q⟩ hp=>qQz jZd.t _ rfl rfl rfl rfl s q hp
def jZf:=xE 192 jZe qPr qAx fun ⟨s,h⟩ hp=>qZl jZe.t _ rfl rfl s h hp
def jZg:=xE 151 jZf qO4 kJ fun ⟨s,q⟩ hp=>qSq jZf.t _ rfl rfl s q hp
def jZh:=xE 117 jZg qPb jJ fun ⟨s,lo,q⟩ hp=>qV0 jZg.t _ rfl rfl rfl rfl rfl rfl rfl s lo q hp
def jZi:=xE 74 jZh qPf qIk fun ⟨s,lo,b⟩ hp=>zH6 jZh.t _ rfl rfl rfl s lo b hp
def jZj:=xE 75 jZi qPz qAs fun ⟨d,s⟩ hp=>qY7 jZi.t _ rfl rfl d s hp
def jZk:=xE 43 jZj qP1 qGp fun ⟨d,lo,b⟩ hp=>zEm jZj.t _ rfl rfl rfl rfl d lo b hp
def jZl:=xF [] 76 jZk qFr qOc fun x hx=>zQ4 jZk.t _ x hx
def jZm:=xW 118 jZl qAl yL fun x hx=>zIv jZl.t _ x hx
def jZn:=xW 77 jZm qFp vQ fun x hx=>qSy jZm.t _ rfl x.1 hx.1 x.2 hx.2
def jZo:=xW 78 jZn qGd jT fun x hx=>qSw jZn.t _ rfl x.1 hx.1 x.2 hx.2
def jZp:=xW 119 jZo qTj qA2 fun x hx=>qSx jZo.t _ x hx
def jZq:=xW 79 jZp qI5 wK fun x hx=>qUo jZp.t _ rfl x hx
def jZr:=xE 44 jZq qL5 vG fun b hp=>qKf jZq.t _ rfl rfl rfl rfl b hp
def jZs:=xE 19 jZr qAm qTe fun ⟨d,lo,q⟩ hp=>zWf jZr.t _ rfl rfl rfl d lo q hp
def jZt:=xE 14 jZs wC qCy fun ⟨d,lo,q,i,b⟩ hp=>zQt jZs.t _ rfl d lo q i b hp
def jZu:=xE 37 jZt qP4 qK4 fun d hp=>zLe jZt.t _ rfl rfl rfl rfl d hp
def jZv:=xE 12 jZu qMf qK6 fun a hp=>zLg jZu.t _ rfl rfl a hp
def jZw:=xW 81 jZv xB qDb fun x _=>zLo jZv.t _ x
def jZx:=xF [] 80 jZw kE qGa fun x hx=>zIx jZw.t _ x hx
def jZy:=xF [] 46 jZx qI4 qFd fun x hx=>zBi jZx.t _ rfl rfl x.1 hx x.2
def jZz:=xF [] 24 jZy kH kM fun x hx=>zL4 jZy.t _ rfl x
def jZ0:=xW 30 jZz vU kX fun x hx=>zBl jZz.t _ x hx
def jZ1:=xF [] 54 jZ0 qEk qIm fun x hx=>zIl jZ0.t _ x.1 hx.1 x.2 hx.2
def jZ2:=xW 85 jZ1 qWo qCt fun _ _=>qWd jZ1.t _
def jZ3:=xF [] 86 jZ2 qRm qOa fun x hx=>zQ2 jZ2.t _ x hx
def jZ4:=xW 87 jZ3 qI6 qKs fun x hx=>zLs jZ3.t _ x.1 x.2 hx.1 hx.2
def jZ5:=xW 88 jZ4 zDe qKr fun x hx=>zLr jZ4.t _ x.1 x.2 hx
def jZ6:=xF [] 89 jZ5 qB3 qIo fun x hx=>zIm jZ5.t _ x hx
def jZ7:=xF [] 52 jZ6 (qNy 32 zT) qGz fun x hx=>zFf jZ6.t _ rfl rfl rfl rfl rfl x hx
def jZ8:=xF [] 29 jZ7 jL qKo fun x hx=>zLm jZ7.t _ rfl rfl x.1 x.2 hx.1 hx.2
def jZ9:=xF [] 8 jZ8 qI3 qG6 fun x hx=>zFi jZ8.t _ rfl rfl rfl x.1 x.2.1 x.2.2.1 x.2.2.2 hx
def yAa:=xF [] 27 jZ9 qU7 qIw fun _ _=>zIu jZ9.t _
def yAb:=xW 82 yAa zDc qFe fun x hx=>zBj yAa.t _ x.1 x.2 hx.1 hx.2
def yAc:=xE 83 yAb zJz qAb fun ⟨a,b⟩ hp=>zH7 yAb.t _ a b hp
def mV0:AF Tryz.f84 []:=⟨_,cvG⟩
theorem mV1 (tab:Tab)(gl:Gl)(bs:List (List UInt8))(ha:(As.alt bs).Ok) :
  mV0.1.wp tab gl (qE 0 [.t (.sl (bs.map bsT))]) (qE 0 []) (qV [(2,none)] 0 (fun r o=>r = .t (.bool true)∧o=[])):=by
 obtain⟨⟨a0,a2⟩,a1⟩:=ha;simp(disch:=omega)only[go_sem,mV0,a0,a2];refine qB bs.length (fun k=>[(0,.t (.sl (bs.map bsT))),(3,.t (.int .i64 k))]) (fun _=>[]) ?_ (fun k hk=>?_)
 ·refine qJ.rd id ?_ ?_ rfl;all_goals simp(disch:=omega)only[go_sem,id]
 ·by_cases hlt:k<bs.length
  ·have hb:(bs.getD k []).length=32:=by
    rw[List.getD_eq_getElem?_getD,List.getElem?_eq_getElem hlt];exact a1 _ (List.getElem_mem hlt)
   have hg:bs[k]?=some (bs.getD k []):=by rw[List.getD_eq_getElem?_getD,List.getElem?_eq_getElem hlt];rfl
   simp(disch:=omega)only[go_sem,hlt,hb,hg,oms];refine qJ.rd id ?_ ?_ rfl;all_goals simp(disch:=omega)only[go_sem,id]
  ·have e:k=bs.length:=oM;subst e;simp(disch:=omega)only[go_sem]
def S50:=xW 84 yAc zC9 mV0 fun x hx=>mV1 yAc.t _ x hx
def yAd:=xW 51 S50 qTk wM fun x hx=>zIs S50.t _ rfl rfl x hx
def yAe:=xF [] 53 yAd zDb wO fun x hx=>zIt yAd.t _ rfl rfl x.1 x.2 hx.1 hx.2
def yAf:=xF [] 28 yAe zDa wT fun x hx=>zFl yAe.t _ rfl rfl rfl x.1 x.2 hx.1 hx.2
def yAg:=xW 6 yAf qHe kY fun x hx=>zFk yAf.t _ rfl rfl x hx
def yAh:=xE 39 yAg qP5 qOe fun ⟨q,v⟩ hp=>zQv yAg.t _ q v
def yAi:=xE 15 yAh qHo qG9 fun ⟨h,k,a,t,p,u,d⟩ hp=>zEy yAh.t _ rfl h k a t p u d
def yAj:=xE 16 yAi qHm qOd fun k hp=>zQu yAi.t _ k
def yAk:=xE 17 yAj qHn qIz fun ⟨h,k,s,n,o,b⟩ hp=>zH9 yAj.t _ h k s n o b
def jSp:=xE 22 yAk qHl qXb fun ⟨c,h,b⟩ hp=>jB9 yAk.t _ c h b
def yAl:=xF [] 21 jSp zGi qXa fun x _=>jCe jSp.t _ x.1 x.2
def yAm:=xE 4 yAl qP3 qK3 fun _ hp=>zLd yAl.t _ rfl rfl rfl rfl rfl rfl rfl rfl rfl rfl
def yAn:=xF [] 93 yAm qTi qKt fun x _=>zLt yAm.t _ x
def yAo:=xF [] 94 yAn zBy qOb fun x hx=>zQ3 yAn.t _ rfl x.1 x.2 hx.1 hx.2
def yAp:=xW 60 yAo qH2 qC8 fun x hx=>zFg yAo.t _ rfl rfl x.1 x.2.1 x.2.2.1 x.2.2.2 hx.1 hx.2.1 hx.2.2.1 hx.2.2.2
def yAq:=xE 34 yAp qMk qD1 fun ⟨s,h⟩ hp=>qWa yAp.t _ rfl s h hp
def yAr:=xW 59 yAq zGg qIr fun x hx=>zIn yAq.t _ rfl x.1 x.2.1 x.2.2 hx
def yAs:=xE 58 yAr qJn qIs fun ⟨l,c,a,b,x⟩ hp=>zE4 yAr.t _ rfl l c a b x hp
def yAt:=xE 69 yAs qC1 qIt fun ⟨l,e⟩ hp=>zE5 yAs.t _ rfl l e hp
def yAu:=xE 50 yAt qQa qG3 fun ⟨s,l⟩ hp=>zA2 yAt.t _ rfl rfl rfl s l hp
def yAv:=xE 26 yAu qMl qG5 fun ⟨s,h⟩ hp=>zA5 yAu.t _ rfl rfl s h hp
def yAw:=xE 47 yAv qMj qKz fun n hp=>zIe yAv.t _ n hp
def yAx:=xF [] 49 yAw qHd qKn fun x hx=>zLl yAw.t _ x hx
def yAy:=xE 25 yAx qQb qKy fun l hp=>zId yAx.t _ rfl rfl l hp
def yAz:=xE 5 yAy qP6 qG4 fun ⟨s,h⟩ hp=>zA3 yAy.t _ rfl rfl s h hp
def yA0:=xG 20 yAz qB4 qE8 fun x hp=>qZp yAz.t _ rfl x hp
def yA1:=xE 7 yA0 qB5 qIl fun x hp=>zE0 yA0.t _ rfl rfl x hp
def yA2:=xW 152 yA1 qWp qKq fun x hx=>zLq yA1.t _ x.1 x.2 hx
def yA3:=xF [] 120 yA2 (qNy 20 qVh) qKp fun x hx=>zLp yA2.t _ rfl rfl rfl rfl x hx
def yA4:=xF [] 92 yA3 qBa qIn fun x hx=>zQ1 yA3.t _ rfl rfl x.1 hx.1 x.2 hx.2
def yA5:=xW 56 yA4 zMt qFc fun x hx=>zBf yA4.t _ rfl rfl x.1 x.2.1 x.2.2 hx.1 hx.2
def yA6:=xW 90 yA5 qFq qIv fun x _=>zIr yA5.t _ x.1 x.2
def yA7:=xF [] 91 yA6 jP qBh fun x hx=>zIw yA6.t _ rfl x hx
def yA8:=xW 55 yA7 xV jA fun x hx=>zFj yA7.t _ rfl rfl rfl rfl rfl rfl x hx
def yA9:=xW 32 yA8 zJu qEi fun x hx=>zIq yA8.t _ rfl rfl x.1 x.2.1 x.2.2.1 x.2.2.2.1 x.2.2.2.2 hx.1 hx.2.1 hx.2.2
def yBa:=xE 9 yA9 qMg qFj fun cs hp=>zAy yA9.t _ rfl rfl cs hp
def yBb:=xE 11 yBa qD3 qCs fun ⟨d,r⟩ hp=>qUm yBa.t _ rfl d r hp
def yBc:=xE 57 yBb qC0 qG2 fun m hp=>zA1 yBb.t _ rfl m hp
def yBd:=xE 33 yBc qQc qKw fun ⟨s,l,m⟩ hp=>zIb yBc.t _ rfl rfl rfl s l m hp
def yBe:=xE 35 yBd qP9 qKx fun ⟨i,l⟩ hp=>zIc yBd.t _ rfl i l hp
def yBf:=xE 10 yBe qP7 qK1 fun ⟨s,h,l,m⟩ hp=>zIf yBe.t _ rfl rfl rfl rfl s h l m hp
def yBg:=xE 38 yBf qMe qK5 fun ⟨i,d⟩ hp=>zLf yBf.t _ i d
def yBh:=xE 13 yBg qMh qG8 fun ⟨d,cs⟩ hp=>zEx yBg.t _ rfl rfl d cs hp
def yBi:=xE 40 yBh qD4 qFb fun ⟨l,m,sg⟩ hp=>qZr yBh.t _ rfl rfl rfl l m sg hp
def yBj:=xE 41 yBi qHp qIu fun ⟨x,i,p⟩ hp=>zE6 yBi.t _ rfl x i p hp
def yBk:=xW 23 yBj qOj qF9 fun x hx=>zLn yBj.t _ x.1 x.2 hx.1 hx.2
def yBl:=xE 18 yBk qD5 qAo fun ⟨p,m,sg⟩ hp=>zA4 yBk.t _ rfl rfl rfl p m sg hp
def yBm:=xW 83 yBl zM0 qAb fun x hx=>zE9 yBl.t _ x.1 x.2 hx
def yBn:=xW 51 yBm zMx wM fun x hx=>zE7 yBm.t _ rfl x hx
def yBo:=xF [] 53 yBn zMz wO fun x hx=>zE8 yBn.t _ rfl x.1 x.2 hx.1 hx.2
def yBp:=xF [] 28 yBo zMy wT fun x hx=>zA7 yBo.t _ rfl rfl rfl x.1 x.2 hx.1 hx.2
def yBq:=xW 6 yBp zBz kY fun x hx=>zA6 yBp.t _ rfl rfl x hx
def yBr:TT:=aF (n:=6) yBq (jEd (yAg.h 6 _ (if_pos rfl)) (yBq.h 6 _ (if_pos rfl)))
end
end Go.Eng
end
section
set_option maxRecDepth 20000
namespace Go.Eng
open List
open Go.ChangeShapes Go.WideShapes Go.RowKit
inductive Ty where
 | int (k:IntKind)
 | bool
 | str
 | sl (e:Ty)
 | st (fs:List Ty)
mutual
def Ty.size:Ty→Nat
 | .st fs=>Ty.sizeL fs
 | _=>1
def Ty.sizeL:List Ty→Nat
 | []=>0
 | f::r=>f.size+Ty.sizeL r
end
def isK (P:Program)(t:TypeId)(k:IntKind):Bool:=match P.underlying t with
 | some (.int k')=>decide (k'=k)
 | _=>false
theorem jDx {P:Program}{t:TypeId}{k:IntKind}(h:isK P t k=true):P.underlying t=some (.int k):=by
 unfold isK at h;split at h
 ·rename_i h1;rw[h1,of_decide_eq_true h]
 ·cases h
mutual
def Ty.ok (P:Program):Ty→TypeId→Bool
 | .int k,t=>isK P t k
 | .bool,t=>match P.underlying t with | some .bool=>true | _=>false
 | .str,t=>match P.underlying t with | some .string=>true | _=>false
 | .sl e,t=>match P.underlying t with | some (.slice te)=>e.ok P te&&Nat.beq (P.cellsOf te) e.size&&Nat.ble 1 e.size | _=>false
 | .st fs,t=>Nat.beq (P.cellsOf t) (Ty.sizeL fs)&&match P.underlying t with
  | some (.struct gs)=>Ty.okF P fs gs.toList 0
  | some (.array n te)=>Nat.beq fs.length n&&Ty.okA P fs te
  | _=>false
def Ty.okF (P:Program):List Ty→List Field→Nat→Bool
 | [],[],_=>true
 | f::r,g::gs,off=>Nat.beq g.offset off&&Nat.beq (P.cellsOf g.type) f.size&&f.ok P g.type&&Ty.okF P r gs (off+f.size)
 | _,_,_=>false
def Ty.okA (P:Program):List Ty→TypeId→Bool
 | [],_=>true
 | f::r,te=>f.ok P te&&Nat.beq (P.cellsOf te) f.size&&Ty.okA P r te
end
mutual
def Ty.is:Ty→T→Prop
 | .int k,x => ∃ n,(Lit.int k n).wf=true∧x = .int k n
 | .bool,x => ∃ b,x = .bool b
 | .str,x => ∃ s:ByteArray,s.size≤maxLen∧x = .str s
 | .sl e,x => ∃ es:List T,es.length≤maxLen∧(∀ y∈es,e.is y)∧x = .sl es
 | .st fs,x => ∃ cs,Ty.isL fs cs∧x = .agg cs
def Ty.isL:List Ty→List T→Prop
 | [],cs=>cs=[]
 | f::r,cs => ∃ x rest,f.is x∧Ty.isL r rest∧cs=x.cells++rest
end
mutual
theorem Ty.is_size : ∀ (ty:Ty) (x:T),ty.is x→x.cells.length=ty.size
 | .int k,x,h=>by obtain⟨n,_,rfl⟩:=h;rfl
 | .bool,x,h=>by obtain⟨n,rfl⟩:=h;rfl
 | .str,x,h=>by obtain⟨n,_,rfl⟩:=h;rfl
 | .sl e,x,h=>by obtain⟨es,_,_,rfl⟩:=h;rfl
 | .st fs,x,h=>by
  obtain⟨cs,h1,rfl⟩:=h;show cs.length=Ty.sizeL fs;exact Ty.isL_size fs cs h1
theorem Ty.isL_size : ∀ (fs:List Ty) (cs:List T),Ty.isL fs cs→cs.length=Ty.sizeL fs
 | [],cs,h=>by cases h;rfl
 | f::r,cs,h=>by
  obtain⟨x,rest,h1,h2,rfl⟩:=h;rw[length_append,Ty.is_size f x h1,Ty.isL_size r rest h2,Ty.sizeL]
end
theorem zHj {α:Type}{Q:Nat→α→Prop} : ∀ (n:Nat),(∀ i,i<n → ∃ y,Q i y) → ∃ l:List α,l.length=n ∧ ∀ i y,l[i]?=some y→Q i y
 | 0,_=>⟨[],rfl,sM⟩
 | n+1,h=>by
  obtain⟨l,hl,hq⟩:=zHj n (fun i hi=>h i oM);obtain⟨y,hy⟩:=h n oM;refine⟨l++[y],by simp[hl],fun i z hz=>?_⟩;rw[getElem?_append] at hz;split at hz
  ·exact hq i z hz
  ·have h1:i-l.length=0:=by
    rcases Nat.eq_zero_or_pos (i-l.length) with h | h
    ·exact h
    ·rw[getElem?_eq_none soM] at hz;cases hz
   rw[h1] at hz;simp only[getElem?_cons_zero,Option.some.injEq] at hz;subst hz;have:i=n:=oM;subst this;exact hy
theorem qXp {w:World}{a:Addr}{u:Value}(h:w.cell? a=some u):a.block<w.heap.size∧a.spot=none:=by
 unfold World.cell? at h;split at h
 ·rename_i hb;refine⟨(Array.getElem?_eq_some_iff.1 hb).1,?_⟩;split at h
  ·cases h
  ·rename_i hs;simpa using hs
 ·cases h
section
variable {H:Type} {enc:TypeId×Value→H} {P:Program} {w:World} {base:Nat} {sp:Nat→Bool} {held:Bool}
structure qKi (w:World) (ds:List T) (cs:List Value):Prop where
 len:ds.length=cs.length
 one : ∀ u∈cs,u.oneCell'=true
 rep : ∀ (i:Nat) (c:T) (u:Value),ds[i]?=some c→cs[i]?=some u→Rep (fun b=>b<w.heap.size) w c u
theorem qKi.one1 {x:T}{c:Value}(hc:c.oneCell'=true)(h:Rep (fun b=>b<w.heap.size) w x c):qKi w [x] [c]:=
 ⟨rfl,by simpa using hc,fun i d u hd hu=>by
  cases i with
  | zero=>simp only[getElem?_cons_zero,Option.some.injEq] at hd hu;subst hd;subst hu;exact h
  | succ i=>simp at hd⟩
theorem qKi.app {ds es:List T}{cs vs:List Value}(h:qKi w ds cs)(h2:qKi w es vs):qKi w (ds++es) (cs++vs):=by
 refine⟨by rw[length_append,length_append,h.len,h2.len],fun u hu=>?_,fun i c u hc hu=>?_⟩
 ·rcases mem_append.1 hu with h3 | h3
  ·exact h.one u h3
  ·exact h2.one u h3
 ·rw[getElem?_append] at hc hu;rw[h.len] at hc;split at hc
  ·rename_i hl;rw[if_pos hl] at hu;exact h.rep i c u hc hu
  ·rename_i hl;rw[if_neg hl] at hu;exact h2.rep _ c u hc hu
theorem qKi.nil:qKi w [] []:=⟨rfl,sM,fun i c u hc=>by simp at hc⟩
theorem qYa (n:Nat)(IH : ∀ (ty:Ty) (t:TypeId) (cs:List Value) (x:DataW H×List MemPlace),ty.ok P t=true→cs.length=ty.size→DataW.trod enc P w base sp held n t cs=some x → ∃ y:T,ty.is y∧qKi w y.cells cs){cs:List Value} :
  ∀ (fs:List Ty) (gs:List Field) (off:Nat),Ty.okF P fs gs off=true→off+Ty.sizeL fs=cs.length→(∀ g∈gs,∃ x,DataW.trod enc P w base sp held n g.type ((cs.drop g.offset).take (P.cellsOf g.type))=some x)→
   ∃ ds,Ty.isL fs ds∧qKi w ds (cs.drop off)
 | [],[],off,_,hl,_=>⟨[],rfl,by
   have:cs.drop off=[]:=drop_eq_nil_of_le (by simp only[Ty.sizeL] at hl;omega);rw[this];exact qKi.nil⟩
 | [],_::_,_,h,_,_=>by simp[Ty.okF] at h
 | _::_,[],_,h,_,_=>by simp[Ty.okF] at h
 | f::r,g::gs,off,h,hl,hg=>by
  simp only[Ty.okF,Bool.and_eq_true] at h;obtain⟨⟨⟨h1,h2⟩,h3⟩,h4⟩:=h;have e1:=Nat.eq_of_beq_eq_true h1;have e2:=Nat.eq_of_beq_eq_true h2;simp only[Ty.sizeL] at hl;obtain⟨ds,hd1,hd2⟩:=qYa n IH r gs (off+f.size) h4 oM (fun g' hg'=>hg g' (.tail _ hg'));obtain⟨x,hx⟩:=hg g (.head _);rw[e1,e2] at hx;obtain⟨y,hy1,hy2⟩:=IH f g.type _ x h3 soM hx;refine⟨y.cells++ds,⟨y,ds,hy1,hd1,rfl⟩,?_⟩;have e3:cs.drop off=(cs.drop off).take f.size++cs.drop (off+f.size):=by
   rw[←drop_drop,take_append_drop]
  rw[e3];exact hy2.app hd2
theorem zB8 (n:Nat)(IH : ∀ (ty:Ty) (t:TypeId) (cs:List Value) (x:DataW H×List MemPlace),ty.ok P t=true→cs.length=ty.size→DataW.trod enc P w base sp held n t cs=some x → ∃ y:T,ty.is y∧qKi w y.cells cs){cs:List Value}{te:TypeId} :
  ∀ (fs:List Ty) (i:Nat),Ty.okA P fs te=true→i*P.cellsOf te+Ty.sizeL fs=cs.length→(∀ j,j<fs.length → ∃ x,DataW.trod enc P w base sp held n te ((cs.drop ((i+j)*P.cellsOf te)).take (P.cellsOf te))=some x)→
   ∃ ds,Ty.isL fs ds∧qKi w ds (cs.drop (i*P.cellsOf te))
 | [],i,_,hl,_=>⟨[],rfl,by
   have:cs.drop (i*P.cellsOf te)=[]:=drop_eq_nil_of_le (by simp only[Ty.sizeL] at hl;omega);rw[this];exact qKi.nil⟩
 | f::r,i,h,hl,hg=>by
  simp only[Ty.okA,Bool.and_eq_true] at h;obtain⟨⟨h3,h2⟩,h4⟩:=h;have e2:=Nat.eq_of_beq_eq_true h2;simp only[Ty.sizeL] at hl;have e4:(i+1)*P.cellsOf te=i*P.cellsOf te+f.size:=by rw[Nat.add_mul,Nat.one_mul,e2]
  obtain⟨ds,hd1,hd2⟩:=zB8 n IH (cs:=cs) r (i+1) h4 (by rw[e4];omega) (fun j hj=>by
   have:=hg (j+1) soM;rw[show i+1+j=i+(j+1) by omega];exact this)
  obtain⟨x,hx⟩:=hg 0 sM;rw[Nat.add_zero,e2,←e2] at hx;obtain⟨y,hy1,hy2⟩:=IH f te _ x h3 (by rw[e2] at hl ⊢;rw[length_take,length_drop];omega) hx;refine⟨y.cells++ds,⟨y,ds,hy1,hd1,rfl⟩,?_⟩;have e3:cs.drop (i*P.cellsOf te)=(cs.drop (i*P.cellsOf te)).take (P.cellsOf te)++cs.drop ((i+1)*P.cellsOf te):=by
   rw[e4,←e2,←drop_drop,take_append_drop]
  rw[e3];exact hy2.app hd2
theorem zB9 : ∀ (n:Nat) (ty:Ty) (t:TypeId) (cs:List Value) (x:DataW H×List MemPlace),ty.ok P t=true→cs.length=ty.size→DataW.trod enc P w base sp held n t cs=some x → ∃ y:T,ty.is y∧qKi w y.cells cs:=by
 intro n
 induction n with
 | zero=>intro ty t cs x _ _ h;simp[DataW.trod] at h
 | succ n IH=>
  intro ty t cs x hty hlen h;cases ty with
  | int k=>
   obtain⟨m,rfl,_,hw⟩:=DataW.trod_int (jDx hty) h;exact⟨.int k m,⟨m,hw,rfl⟩,.one1 rfl (.int k m)⟩
  | bool=>
   simp only[Ty.ok] at hty;split at hty
   ·rename_i hu;obtain⟨b,rfl,_⟩:=DataW.trod_bool hu h;exact⟨.bool b,⟨b,rfl⟩,.one1 rfl (.bool b)⟩
   ·cases hty
  | str=>
   simp only[Ty.ok] at hty;split at hty
   ·rename_i hu;obtain⟨s,rfl,_,hs⟩:=DataW.trod_string hu h;exact⟨.str s,⟨s,hs,rfl⟩,.one1 rfl (.str s)⟩
   ·cases hty
  | sl e=>
   simp only[Ty.ok] at hty;split at hty
   ·rename_i te hu;simp only[Bool.and_eq_true] at hty;obtain⟨⟨h1,h2⟩,h3⟩:=hty;have e2:=Nat.eq_of_beq_eq_true h2;have e3:=Nat.le_of_ble_eq_true h3;rcases DataW.trod_slice hu h with⟨rfl,_⟩ | ⟨a,len,cap,elems,rest,m,hm,rfl,_,_,hlc,hcm,hel,hget,_,_⟩
    ·exact⟨.sl [],⟨[],sM,sM,rfl⟩,.one1 rfl .nil⟩
    ·cases hm;have hcells : ∀ i,i<len → ∃ y:T,e.is y ∧ ∃ cs',qKi w y.cells cs'∧cs'.length=e.size ∧ ∀ j,j<e.size→w.cell? ((a.add (i*e.size)).add j)=cs'[j]?:=by
      intro i hi;have hg:=hget i hi;have:elems[i]?=some elems[i]:=getElem?_eq_getElem oM;rw[this,Option.bind_eq_some_iff] at hg;obtain⟨cs',hc,ht⟩:=hg;obtain⟨_,hl,hcell⟩:=World.cells?_some hc;rw[e2] at hl hcell;obtain⟨y,hy1,hy2⟩:=IH e te cs' _ h1 hl ht;exact⟨y,hy1,cs',hy2,hl,hcell⟩
     obtain⟨es,hes,hq⟩:=zHj len hcells;have hz : ∀ y∈es,y.cells.length=e.size:=fun y hy=>by
      obtain⟨i,hi⟩:=getElem?_of_mem hy;exact e.is_size y (hq i y hi).1
     have hcellk : ∀ k,k<len*e.size → ∃ (i j:Nat) (y:T) (cs':List Value) (u:Value),k=i*e.size+j∧j<e.size∧es[i]?=some y∧qKi w y.cells cs'∧cs'[j]?=some u∧w.cell? (a.add k)=some u:=by
      intro k hk;have hi:k/e.size<len:=(Nat.div_lt_iff_lt_mul oM).2 hk;have hj:k%e.size<e.size:=Nat.mod_lt _ oM;have hy:es[k/e.size]?=some es[k/e.size]:=getElem?_eq_getElem oM;obtain⟨_,cs',hr,hl,hc⟩:=hq _ _ hy;have hu:cs'[k%e.size]?=some cs'[k%e.size]:=getElem?_eq_getElem oM;have ek:k=k/e.size*e.size+k%e.size:=by rw[Nat.mul_comm];exact (Nat.div_add_mod k e.size).symm
      refine⟨_,_,_,cs',_,ek,hj,hy,hr,hu,?_⟩;rw[←hu,←hc _ hj,Addr.add_add,←ek]
     refine⟨.sl es,⟨es,oM,fun y hy=>?_,rfl⟩,.one1 rfl ?_⟩
     ·obtain⟨i,hi⟩:=getElem?_of_mem hy;exact (hq i y hi).1
     ·have hnl:((List.range (len*e.size)).map fun k=>(w.cell? (a.add k)).getD default).length=len*e.size:=sM;have hnews : ∀ k u,((List.range (len*e.size)).map fun k=>(w.cell? (a.add k)).getD default)[k]?=some u→k<len*e.size∧w.cell? (a.add k)=some u:=by
       intro k u hu;have hk:k<len*e.size:=by
        rcases Nat.lt_or_ge k (len*e.size) with h | h
        ·exact h
        ·rw[getElem?_eq_none oM] at hu;cases hu
       obtain⟨_,_,_,_,u',_,_,_,_,_,hc⟩:=hcellk k hk;rw[getElem?_map,getElem?_range hk,Option.map_some,hc,Option.getD_some,Option.some.injEq] at hu;subst hu;exact⟨hk,hc⟩
      have h0:es≠[]→a.block<w.heap.size∧a.spot=none:=by
       intro hne;have hlp:0<len:=by
        rw[←hes];exact length_pos_iff.2 hne
       obtain⟨_,_,_,_,u',_,_,_,_,_,hc⟩:=hcellk 0 (Nat.mul_pos hlp oM);have e9:a.add 0=a:=by simp[Addr.add]
       rw[e9] at hc;exact qXp hc
      have key:=Rep.sl (F:=fun b=>b<w.heap.size) (w:=w) es a cap e.size _ (fun hne=>(h0 hne).2) oM (by rw[hes];exact hnl) (fun u hu=>by
       obtain⟨k,hk⟩:=getElem?_of_mem hu;obtain⟨hk1,hk2⟩:=hnews k u hk;obtain⟨_,_,_,cs',u',_,_,_,hr,hcu,hc⟩:=hcellk k hk1;rw[hk2] at hc;cases hc;exact hr.one u (mem_of_getElem? hcu)) (fun hne=>(h0 hne).1) (fun k u hk=>(hnews k u hk).2) hz
       (fun i y j c u hy hc hu=>by
        obtain⟨hk1,hk2⟩:=hnews _ u hu;obtain⟨i',j',y',cs',u',e1,hj',hy',hr,hcu,hc'⟩:=hcellk _ hk1;rw[hk2] at hc';cases hc';have hj:j<e.size:=by rw[←hz y (mem_of_getElem? hy)];exact (List.getElem?_eq_some_iff.1 hc).1
        have ei:i=i'∧j=j':=by
         have h5:=congrArg (· / e.size) e1;have h6:=congrArg (· % e.size) e1;simp only[Nat.mul_comm _ e.size,Nat.mul_add_div (show 0<e.size by omega),Nat.mul_add_mod,Nat.div_eq_of_lt hj,Nat.div_eq_of_lt hj',Nat.mod_eq_of_lt hj,Nat.mod_eq_of_lt hj'] at h5 h6;exact⟨oM,h6⟩
        obtain⟨rfl,rfl⟩:=ei;rw[hy] at hy';cases hy';exact hr.rep j c u hc hcu)
      rw[hes] at key;exact key
   ·cases hty
  | st fs=>
   simp only[Ty.ok,Bool.and_eq_true] at hty;obtain⟨h0,hty⟩:=hty;have e0:=Nat.eq_of_beq_eq_true h0;split at hty
   ·rename_i gs hu;obtain⟨xs,m,hm,_,hl,hxl,hget⟩:=DataW.trod_struct hu h;cases hm;obtain⟨ds,hd1,hd2⟩:=qYa n IH (cs:=cs) fs gs.toList 0 hty oM (fun g hg=>by
     obtain⟨i,hi⟩:=getElem?_of_mem hg;have hi':gs[i]?=some g:=by simpa using hi
     have hlt:i<xs.length:=by rw[hxl];exact (Array.getElem?_eq_some_iff.1 hi').1
     exact⟨xs[i],by rw[hget i g hi'];exact getElem?_eq_getElem hlt⟩)
    rw[drop_zero] at hd2;exact⟨.agg ds,⟨ds,hd1,rfl⟩,hd2⟩
   ·rename_i m te hu;simp only[Bool.and_eq_true] at hty;have e5:=Nat.eq_of_beq_eq_true hty.1;obtain⟨xs,m',hm,_,hl,hxl,hget⟩:=DataW.trod_array hu h;cases hm;obtain⟨ds,hd1,hd2⟩:=zB8 n IH (cs:=cs) fs 0 hty.2 oM (fun j hj=>by
     have hlt:j<xs.length:=oM;rw[Nat.zero_add];exact⟨xs[j],by rw[hget j oM];exact getElem?_eq_getElem hlt⟩)
    rw[Nat.zero_mul,drop_zero] at hd2;exact⟨.agg ds,⟨ds,hd1,rfl⟩,hd2⟩
   ·cases hty
theorem zPq {ty:Ty}{t:TypeId}{v:Value}{d:DataW H}{ps:List MemPlace}{b0:Nat}(hty:ty.ok P t=true)(hval:Value.okWide P w .any b0 t v)(h:DataW.Trod enc P w base sp held t v d ps) :
  ∃ y:T,ty.is y∧Rep (fun b=>b<w.heap.size) w y v:=by
 obtain⟨n,hn⟩:=h;have scalar : ∀ c,v=c→c.cells = #[c]→ty.size=1→(∀ y:T,ty.is y→y.cells=[y]) → ∃ y:T,ty.is y∧Rep (fun b=>b<w.heap.size) w y v:=by
  intro c hv hc hs hy;subst hv;rw[hc] at hn;obtain⟨y,h1,h2⟩:=zB9 n ty t _ _ hty (by rw[hs];rfl) hn;rw[hy y h1] at h2;exact⟨y,h1,h2.rep 0 y v rfl rfl⟩
 cases ty with
 | int k=>
  obtain⟨m,hv⟩:=okWide_int (jDx hty) hval;exact scalar _ hv rfl rfl (fun y hy=>by obtain⟨_,_,rfl⟩:=hy;rfl)
 | bool=>
  simp only[Ty.ok] at hty;split at hty
  ·rename_i hu;obtain⟨m,hv⟩:=okWide_bool hu hval;exact scalar _ hv rfl rfl (fun y hy=>by obtain⟨_,rfl⟩:=hy;rfl)
  ·cases hty
 | str=>
  simp only[Ty.ok] at hty;split at hty
  ·rename_i hu;obtain⟨m,hv⟩:=okWide_string hu hval;exact scalar _ hv rfl rfl (fun y hy=>by obtain⟨_,_,rfl⟩:=hy;rfl)
  ·cases hty
 | sl e=>
  have hty':=hty;simp only[Ty.ok] at hty';split at hty'
  ·rename_i te hu;obtain⟨a,l,c,hv⟩:=okWide_slice hu hval;exact scalar _ hv rfl rfl (fun y hy=>by obtain⟨_,_,_,rfl⟩:=hy;rfl)
  ·cases hty'
 | st fs=>
  have hagg : ∃ cs,v = .agg cs∧cs.size=P.cellsOf t:=by
   have hty':=hty;simp only[Ty.ok,Bool.and_eq_true] at hty';obtain⟨_,h2⟩:=hty';unfold Value.okWide at hval;split at h2
   ·rename_i hu;rw[hu] at hval;obtain⟨cs,h3,h4,_⟩:=hval;exact⟨cs,h3,h4⟩
   ·rename_i hu;rw[hu] at hval;obtain⟨cs,h3,h4,_⟩:=hval;exact⟨cs,h3,h4⟩
   ·cases h2
  obtain⟨cs,rfl,hsz⟩:=hagg;have hsz2:cs.size=Ty.sizeL fs:=by
   simp only[Ty.ok,Bool.and_eq_true] at hty;rw[hsz];exact Nat.eq_of_beq_eq_true hty.1
  obtain⟨y,h1,h2⟩:=zB9 n (.st fs) t _ _ hty (by show cs.toList.length=Ty.sizeL fs;simpa using hsz2) hn;obtain⟨ds,h3,rfl⟩:=h1;refine⟨.agg ds,⟨ds,h3,rfl⟩,.agg ds cs ?_ ?_ ?_⟩
  ·have:=h2.len;simpa [Value.cells,T.cells] using this.symm
  ·intro u hu;exact h2.one u (by simpa [Value.cells] using hu)
  ·intro i c u hc hu;exact h2.rep i c u hc (by simpa [Value.cells] using hu)
theorem zHg : ∀ {tys:List Ty} {ts:List TypeId} {vs:List Value} {ds:List (DataW H)} {ps:List MemPlace} {b0:Nat},qBm (fun (ty:Ty) (t:TypeId)=>ty.ok P t=true) tys ts→
  (∀ (j:Nat) t v,ts[j]?=some t→vs[j]?=some v→Value.okWide P w .any b0 t v)→DataW.TrodAll enc P w base sp held ts vs ds ps→
  ∃ ys:List T,qBm (fun (ty:Ty) (y:T)=>ty.is y) tys ys∧qBm (qW (fun _=>none) (fun b=>b<w.heap.size) w) (ys.map V.t) vs
 | [],ts,vs,ds,ps,b0,h,hv,hd=>by
  cases h;obtain⟨rfl,_,_⟩:=trodAll_nil hd;exact⟨[],.nil,.nil⟩
 | ty::tys,ts,vs,ds,ps,b0,h,hv,hd=>by
  cases h with
  | cons h1 h2=>
   obtain⟨v,vs',d,ds',p,q,rfl,rfl,rfl,hd1,hd2⟩:=trodAll_cons hd;obtain⟨y,hy1,hy2⟩:=zPq h1 (hv 0 _ v rfl rfl) hd1;obtain⟨ys,h3,h4⟩:=zHg h2 (fun j t v' ht hv'=>hv (j+1) t v' ht hv') hd2;exact⟨y::ys,.cons hy1 h3,.cons (.t hy2) h4⟩
end
end Go.Eng
end
section
set_option maxRecDepth 20000
namespace Go.Eng
open List
open Go.ChangeShapes Go.WideShapes Go.RowKit Go.WideElems
section
variable {H:Type} {enc:TypeId×Value→H} {P:Program}
theorem zKu {W W':World}(hfr : ∀ b,b<W.heap.size→W'.heap[b]?=W.heap[b]?){p:MemPlace}(hp:p.block<W.heap.size):W.sameAt W' p:=by
 cases p with
 | cell b off=>exact World.cell?_of_block (hfr b hp)
 | map b=>exact hfr b hp
theorem zFz (hl:laidOutB P=true){W W':World}(hfr : ∀ b,b<W.heap.size→W'.heap[b]?=W.heap[b]?){sp:Nat→Bool} :
  ∀ {ts:List TypeId} {vs:List Value} {ds:List (DataW H)} {ps:List MemPlace},(∀ t∈ts,P.readableRec t=true∧t<P.types.size)→(∀ p∈ps,p.block<W.heap.size∧sp p.block=true)→
   DataW.TrodAll enc P W 0 (fun _=>true) true ts vs ds ps→DataW.TrodAll enc P W' 0 sp true ts vs ds ps
 | [],vs,ds,ps,_,_,h=>by
  obtain⟨rfl,rfl,rfl⟩:=trodAll_nil h;exact trodAll_mk0
 | t::ts,vs,ds,ps,ht,hp,h=>by
  obtain⟨v,vs',d,ds',p,q,rfl,rfl,rfl,h1,h2⟩:=trodAll_cons h;obtain⟨hr,hrow⟩:=ht t (.head _);exact⟨p,q,Trod_stays hl hr hrow h1 (fun x hx=>zKu hfr (hp x (mem_append_left _ hx)).1) (fun x hx=>(hp x (mem_append_left _ hx)).2),
   zFz hl hfr (fun t' ht'=>ht t' (.tail _ ht')) (fun x hx=>hp x (mem_append_right _ hx)) h2,rfl⟩
theorem zZc {fn:Func}{s:ChangeSpec}{tb:TypeId}{apart fresh handsOn again:Bool}{W W':World}{args:Array Value}{ds gs:List (DataW H)}{before:List MemPlace}
  (hl:laidOutB P=true) (hts : ∀ t∈fn.params.toList,P.readableRec t=true∧t<P.types.size) (hrt:fn.resultTypes = #[tb]) (hb:P.underlying tb=some .bool) (hsv:s.vars=[])
  (hfn:(s.fn H (ds++gs)).results=[.lit (.bool true)]∧(s.fn H (ds++gs)).args=ds∧(s.fn H (ds++gs)).vars=[])
  (hW:DataW.Whole enc P fn.params.toList s.vars apart W args.toList ds gs before)
  (hos:W'.os=W.os) (hout:W'.output=W.output) (hfr : ∀ b,b<W.heap.size→W'.heap[b]?=W.heap[b]?) :
  s.post enc P fn apart fresh handsOn again W args (.bool true) W':=by
 have hlt : ∀ p∈before,p.block<W.heap.size:=fun p hp=>hW.lt p hp
 have hW':=hW;obtain⟨p,q,hA,hV,rfl,hz,hn⟩:=hW';rw[hsv] at hV;obtain⟨rfl,rfl⟩:=trodVars_none hV;have hres : ∀ (b:Nat) (sp:Nat→Bool) (hd:Bool),DataW.TrodAll enc P W' b sp hd fn.resultTypes.toList ((Value.bool true).resultList fn.resultTypes.size) (s.fn H (ds++[])).results []:=by
  intro b sp hd;rw[hrt,hfn.1];exact trodAll_mk1 (shut_bool hb true)
 have hargs : ∀ sp:Nat→Bool,(∀ x∈p++[],sp x.block=true)→DataW.TrodAll enc P W' 0 sp true fn.params.toList args.toList (s.fn H (ds++[])).args p:=by
  intro sp hsp;rw[hfn.2.1];exact zFz hl hfr hts (fun x hx=>⟨hlt x (by simpa using hx),hsp x (by simpa using hx)⟩) hA
 have hvars : ∀ sp:Nat→Bool,DataW.TrodVars enc P W' sp s.vars (s.fn H (ds++[])).vars []:=by
  intro sp;rw[hsv,hfn.2.2];rfl
 refine⟨ds,[],_,[],p,[],hW,hres _ _ _,hargs _ (fun x hx=>by simpa using hlt x hx),hvars _,⟨hos,hout,fun i hi=>?_⟩,fun _=>?_⟩
 ·have e:=hfr i hi;revert e;generalize W'.heap[i]?=o';intro e;subst e;split
  ·rename_i h1 h2;rw[h1] at h2;cases h2;exact⟨rfl,rfl,rfl,fun _ _=>rfl⟩
  ·rename_i h1 h2;rw[h1] at h2;cases h2;exact .inr ⟨rfl,rfl⟩
  ·rfl
 ·refine⟨ok_one hrt rfl (okWide_bool_mk hb _),_,_,([]++p)++[],⟨[]++p,[],trodAll_append (hargs _ (fun _ _=>rfl)) (hres _ _ _),hvars _,rfl,?_,?_⟩,?_⟩
  ·intro b off hx;have hx':MemPlace.cell b off∈p++[]:=by simpa using hx
   have e:W'.frozen? ⟨b,off,none⟩=W.frozen? ⟨b,off,none⟩:=by
    unfold World.frozen?;rw[hfr b (hlt _ hx')]
   rw[e];exact hz b off hx'
  ·intro ha;have:=hn ha;simpa using this
  ·intro x hx _;simpa using hx
theorem qRy {w:World} : ∀ {laid:List (String×DataW Unit)} {ps:List MemPlace},DataW.LaidVars P w laid ps → ∀ x∈laid,∃ g t cs fuel p,P.globalNamed x.1=some g∧(P.globals[g]?).map (·.type)=some t∧w.var? P x.1=some cs∧
   DataW.trod (fun _=>()) P w 0 (fun _=>true) false fuel t cs.toList=some (x.2,p)
 | [],_,_,x,hx=>by cases hx
 | y::r,ps,h,x,hx=>by
  obtain⟨g,t,cs,fuel,p,q,h1,h2,h3,h4,h5,_⟩:=h;rcases mem_cons.1 hx with rfl | hx
  ·exact⟨g,t,cs,fuel,p,h1,h2,h3,h4⟩
  ·exact qRy h5 x hx
theorem zUz {w:World}{nm:String}{g t e n:Nat}{k:IntKind}{ns:List Int}{cs:Array Value}{fuel:Nat}{p:List MemPlace}{F:Nat→Prop}(hg:P.globalNamed nm=some g)(hv:w.var? P nm=some cs)
  (ht:P.underlying t=some (.array n e)) (he:P.underlying e=some (.int k)) (hc:P.cellsOf e=1) (hct:P.cellsOf t=n) (hn:0<ns.length)
  (h:DataW.trod (fun _=>()) P w 0 (fun _=>true) false fuel t cs.toList=some (.agg (ns.map fun m=> .lit (.int k m)),p)) (hF:g<w.heap.size→F g) :
  qW (fun _=>none) F w (.ro (ns.map (T.int k))) (.pointer (some ⟨g,0,none⟩)):=by
 obtain⟨xs,m,_,hx,hl,hxl,hget⟩:=DataW.trod_array ht h;simp only[Prod.mk.injEq,DataW.agg.injEq] at hx;have hlen:ns.length=n:=by
  have:=congrArg List.length hx.1;simp only[length_map] at this;omega
 have hcl:cs.toList.length=n:=by rw[hl,hct]
 have hcell : ∀ i,i<n→cs.toList[i]?=some (.int k (ns.getD i 0)):=by
  intro i hi;have h1:=hget i hi;have h2:xs[i]?=some xs[i]:=getElem?_eq_getElem oM;rw[h2,hc,Nat.mul_one] at h1;obtain⟨z,hz1,hz2,_⟩:=DataW.trod_int he h1;have h3:cs.toList[i]?=some (.int k z):=by
   have h4:=congrArg (fun l=>l[0]?) hz1;simp only[getElem?_take,getElem?_drop,Nat.add_zero,getElem?_cons_zero] at h4;simpa using h4
  have h5:=congrArg (fun l=>l[i]?) hx.1;simp only[getElem?_map,h2,oms,hz2] at h5;have h6:ns[i]?=some ns[i]:=getElem?_eq_getElem oM;rw[h6] at h5;simp only[oms,Option.some.injEq,DataW.lit.injEq,Lit.int.injEq,true_and] at h5;rw[h3,getD_eq_getElem?_getD,h6,h5];rfl
 have hw : ∀ j,w.cell? ((⟨g,0,none⟩:Addr).add j)=cs.toList[j]?:=by
  intro j;have e:(⟨g,0,none⟩:Addr).add j=⟨g,j,none⟩:=by
   unfold Addr.add;split
   ·rename_i h0;rw[h0]
   ·simp
  rw[e,World.var?_cell hg hv j,Array.getElem?_toList]
 refine .ro (ns.map (T.int k)) ⟨g,0,none⟩ cs.toList rfl (by rw[hcl,length_map,hlen]) ?_ (hF ?_) (fun j u hu=>(hw j).trans hu) ?_
 ·intro u hu;obtain⟨i,hi⟩:=getElem?_of_mem hu;rw[hcell i (by rw[←hcl];exact (List.getElem?_eq_some_iff.1 hi).1)] at hi;cases hi;rfl
 ·have h0:=hw 0;rw[hcell 0 oM] at h0;have:=(qXp h0).1;rw[qDc] at this;exact this
 ·intro j c u hcj hu;rw[getElem?_map,Option.map_eq_some_iff] at hcj;obtain⟨z,hz,rfl⟩:=hcj;rw[hcell j (by rw[←hlen];exact (List.getElem?_eq_some_iff.1 hz).1)] at hu;cases hu;rw[getD_eq_getElem?_getD,hz];exact .int k z
theorem zTk {w:World}{nm:String}{g t e n:Nat}{k:IntKind}{ns:List Int}{cs:Array Value}{fuel:Nat}{p:List MemPlace}(hg:P.globalNamed nm=some g)(hv:w.var? P nm=some cs)
  (ht:P.underlying t=some (.array n e)) (hct:P.cellsOf t=n)
  (h:DataW.trod (fun _=>()) P w 0 (fun _=>true) false fuel t cs.toList=some (.agg (ns.map fun m=> .lit (.int k m)),p)):GSz w g (ns.map (T.int k)).length:=by
 obtain⟨xs,m,_,hx,hl,hxl,hget⟩:=DataW.trod_array ht h;simp only[Prod.mk.injEq,DataW.agg.injEq] at hx;have hlen:ns.length=n:=by
  have:=congrArg List.length hx.1;simp only[length_map] at this;omega
 have hcl:cs.toList.length=n:=by rw[hl,hct]
 unfold World.var? at hv;rw[hg,Option.bind_some] at hv;split at hv
 ·rename_i c e z hc;cases hv;exact⟨_,e,z,hc,by rw[length_map,hlen,←hcl];simp⟩
 ·cases hv
theorem qN5 {w:World}{base:Nat}{sp:Nat→Bool}{held:Bool} : ∀ {ts:List TypeId} {vs:List Value} {ds:List (DataW H)} {ps:List MemPlace},DataW.TrodAll enc P w base sp held ts vs ds ps→ds.length=ts.length
 | [],_,_,_,h=>by obtain⟨rfl,rfl,rfl⟩:=trodAll_nil h;rfl
 | _::_,_,_,_,h=>by
  obtain⟨_,_,_,_,_,_,rfl,rfl,rfl,_,h2⟩:=trodAll_cons h;simp[qN5 h2]
end
theorem zPn {H:Type}{enc:TypeId×Value→H}{C:Checked}{os:Os}{f:FuncId}{fn:Func}{s:ChangeSpec}{laid:List (String×DataW Unit)}{tys:List Ty}{G:Nat→Option (List T)}{tb:TypeId}{apart fresh handsOn again:Bool}
  (own:ownKnob C.prog.godebug=none) (started:os.Started) (noInit:C.prog.inits.idxOf? f=none) (hfn:C.prog.funcs[f]?=some fn)
  (witness : ∃ (w:World) (tape:Tape) (i:Input),w.os=os∧(w.forCall tape i).Shaped C.prog∧i.vars=[]∧Input.okWide C.prog (w.forCall tape i) .any w.heap.size f i∧
   ((s.pre enc C.prog fn [] apart (w.forCall tape i).memory i.args∧laidMetH C.prog laid (w.forCall tape i).memory)∧sizedMet enc C.prog fn (OpenSpec.ofChange s) apart (w.forCall tape i).memory i.args)∧({}:Assume).holds C.prog (lone (Frame.enter C.prog f i.args .normal) [] (w.forCall tape i)))
  (hl:laidOutB C.prog=true) (hts:fn.params.toList.all (fun t=>C.prog.readableRec t&&Nat.blt t C.prog.types.size)=true) (hrt:fn.resultTypes = #[tb]) (hb:C.prog.underlying tb=some .bool) (hsv:s.vars=[])
  (hspec : ∀ ds:List (DataW H),ds.length=tys.length→(s.fn H ds).results=[.lit (.bool true)]∧(s.fn H ds).args=ds∧(s.fn H ds).vars=[])
  (htys:qBm (fun (ty:Ty) (t:TypeId)=>ty.ok C.prog t=true) tys fn.params.toList)
  (henv : ∀ W,laidMetH C.prog laid W→zRj G (fun b=>b<W.heap.size) W)
  (hlaw : ∀ ys,qBm (fun (ty:Ty) (y:T)=>ty.is y) tys ys→zMa C.prog G f (ys.map V.t) [] (.t (.bool true)) []) :
  ReturnsInHanded {} C os f .any (fun w args=>(s.pre enc C.prog fn [] apart w args∧laidMetH C.prog laid w)∧sizedMet enc C.prog fn (OpenSpec.ofChange s) apart w args) (s.post enc C.prog fn apart fresh handsOn again):=by
 have hts' : ∀ t∈fn.params.toList,C.prog.readableRec t=true∧t<C.prog.types.size:=by
  intro t ht;have:=all_eq_true.1 hts t ht;rw[Bool.and_eq_true] at this;exact⟨this.1,by simpa [Nat.blt_eq] using this.2⟩
 refine returnsInHanded_of_change_and (C:=C) (X:=fun w _=>laidMetH C.prog laid w) (fun _ _ _ hh h=>laidMetH.of_heap hh h) own started noInit hfn witness ?_;intro W base args ds gs before hval hW _ _ hL _;have hW':=hW;obtain⟨p,q,hA,hV,rfl,_,_⟩:=hW';rw[hsv] at hV;obtain⟨rfl,rfl⟩:=trodVars_none hV;obtain⟨ys,hys,hreps⟩:=zHg htys (fun j t v ht hv=>hval j t v (by simpa using ht) (by simpa using hv)) hA;have hlen:ds.length=tys.length:=by rw[qN5 hA,htys.length]
 have hcall:=hlaw ys hys W (fun _=>none) (fun b=>b<W.heap.size) args (henv W hL)
  ⟨fun k o h=>by simp at h,fun _ _=>rfl,fun _ _ _ _ _ h=>by simp at h,fun _ _ _ h=>by simp at h⟩ hreps
 refine hcall.mono fun e W' ⟨x,β',F',he,hp⟩=>?_
 subst he;have hx:x = .bool true:=by
  have:=hp.res;cases this with
  | t h=>cases h;rfl
 subst hx;exact⟨_,rfl,zZc hl hts' hrt hb hsv (by rw[append_nil];exact hspec ds hlen) hW hp.os hp.output (fun b hb=>hp.frame b hb (fun _ _ h=>by simp at h))⟩
end Go.Eng
end
section
set_option maxRecDepth 20000
namespace Go.Eng
open List
open Go.ChangeShapes Go.WideShapes Go.RowKit Go.WideElems
theorem zB3 {α β:Type}{f:α→β}{m:Nat} : ∀ {rows:List (List α)} {l:List β},l.length=rows.length*m→(∀ r∈rows,r.length=m)→(∀ i j,i<rows.length→j<m→l[i*m+j]?=((rows[i]?).bind (·[j]?)).map f)→l=rows.flatten.map f
 | [],l,hl,_,_=>by
  have:l.length=0:=by simpa using hl
  rw[length_eq_zero_iff.1 this];rfl
 | r::rs,l,hl,hr,h=>by
  have hlr:=hr r (.head _);have hl':l.length=m+rs.length*m:=by rw[hl,length_cons,Nat.succ_mul,Nat.add_comm]
  have e1:l.take m=r.map f:=by
   refine ext_getElem? fun j=>?_
   by_cases hj:j<m
   ·have:=h 0 j sM hj;simp only[Nat.zero_mul,Nat.zero_add,getElem?_cons_zero,Option.bind_some] at this;rw[getElem?_take_of_lt hj,this,getElem?_map]
   ·rw[getElem?_eq_none (by rw[length_take];omega),getElem?_eq_none (by rw[length_map];omega)]
  have e2:l.drop m=rs.flatten.map f:=by
   refine zB3 (m:=m) (by rw[length_drop];omega) (fun x hx=>hr x (.tail _ hx)) fun i j hi hj=>?_
   have:=h (i+1) j soM hj;rw[getElem?_drop,←Nat.add_assoc,Nat.add_comm m,←Nat.succ_mul,this,getElem?_cons_succ]
  rw[flatten_cons,map_append,←e1,←e2,take_append_drop]
variable {P:Program}
theorem zOp {w:World}{t e n m:Nat}{k:IntKind}{rows:List (List Int)}{cs:List Value}{fuel:Nat}{p:List MemPlace}{fs:Array Field}
  (ht:P.underlying t=some (.array n e)) (he:P.underlying e=some (.struct fs)) (hc:P.cellsOf e=m) (hfs:fs.size=m) (hm:0<m)
  (hf : ∀ j<m,∃ f,fs[j]?=some f∧f.offset=j∧P.cellsOf f.type=1∧P.underlying f.type=some (.int k)) (hct:P.cellsOf t=n*m) (hr : ∀ r∈rows,r.length=m)
  (h:DataW.trod (fun _=>()) P w 0 (fun _=>true) false fuel t cs=some (.agg (rows.map fun r=> .agg (r.map fun x=> .lit (.int k x))),p)):rows.length=n∧cs=rows.flatten.map (Value.int k):=by
 obtain⟨xs,q,_,hx,hl,hxl,hget⟩:=DataW.trod_array ht h;simp only[Prod.mk.injEq,DataW.agg.injEq] at hx;have hlen:rows.length=n:=by
  have:=congrArg List.length hx.1;simp only[length_map] at this;omega
 refine⟨hlen,zB3 (m:=m) (by rw[hl,hct,hlen]) hr fun i j hi hj=>?_⟩;have h1:=hget i oM;have h2:xs[i]?=some xs[i]:=getElem?_eq_getElem oM;rw[h2,hc] at h1;obtain⟨ys,q',_,hy,hyl,hysz,hyg⟩:=DataW.trod_struct he h1;obtain⟨f,f1,f2,f3,f4⟩:=hf j hj;have g1:=hyg j f f1;have g2:ys[j]?=some ys[j]:=getElem?_eq_getElem oM;rw[g2,f2,f3] at g1;obtain⟨z,hz1,hz2,_⟩:=DataW.trod_int f4 g1;have h3:cs[i*m+j]?=some (.int k z):=by
  have h4:=congrArg (fun l=>l[0]?) hz1;simp only[getElem?_take,getElem?_drop,getElem?_cons_zero] at h4;have h5:0<1:=oM;simp only[h5,if_true,Nat.add_zero,hj] at h4;exact h4
 have hri:rows[i]?=some rows[i]:=getElem?_eq_getElem hi;have h5:=congrArg (fun l=>l[i]?) hx.1;simp only[getElem?_map,h2,hri,oms] at h5;have hy1:=congrArg (·.1) hy;simp only at hy1;rw[hy1] at h5;simp only[Option.some.injEq,DataW.agg.injEq] at h5;have h6:=congrArg (fun l=>l[j]?) h5;simp only[getElem?_map,g2,oms] at h6;have hrl:=hr rows[i] (getElem_mem hi);have hrj:(rows[i])[j]?=some ((rows[i])[j]'(oM)):=getElem?_eq_getElem oM;rw[hrj] at h6;simp only[oms,Option.some.injEq,hz2,DataW.lit.injEq,Lit.int.injEq,true_and] at h6;rw[h3,hri,Option.bind_some,hrj,Option.map_some,h6]
theorem zPv {w:World}{nm:String}{g t e n m:Nat}{k:IntKind}{rows:List (List Int)}{cs:Array Value}{fuel:Nat}{p:List MemPlace}{fs:Array Field}{F:Nat→Prop}(hg:P.globalNamed nm=some g)(hv:w.var? P nm=some cs)
  (ht:P.underlying t=some (.array n e)) (he:P.underlying e=some (.struct fs)) (hc:P.cellsOf e=m) (hfs:fs.size=m) (hm:0<m)
  (hf : ∀ j<m,∃ f,fs[j]?=some f∧f.offset=j∧P.cellsOf f.type=1∧P.underlying f.type=some (.int k)) (hct:P.cellsOf t=n*m) (hr : ∀ r∈rows,r.length=m) (hn:0<rows.flatten.length)
  (h:DataW.trod (fun _=>()) P w 0 (fun _=>true) false fuel t cs.toList=some (.agg (rows.map fun r=> .agg (r.map fun x=> .lit (.int k x))),p)) (hF:g<w.heap.size→F g) :
  qW (fun _=>none) F w (.ro (rows.flatten.map (T.int k))) (.pointer (some ⟨g,0,none⟩)):=by
 obtain⟨_,hcs⟩:=zOp ht he hc hfs hm hf hct hr h;have hw : ∀ j,w.cell? ((⟨g,0,none⟩:Addr).add j)=cs.toList[j]?:=by
  intro j;have e:(⟨g,0,none⟩:Addr).add j=⟨g,j,none⟩:=by
   unfold Addr.add;split
   ·rename_i h0;rw[h0]
   ·simp
  rw[e,World.var?_cell hg hv j,Array.getElem?_toList]
 refine .ro (rows.flatten.map (T.int k)) ⟨g,0,none⟩ cs.toList rfl (by rw[hcs,length_map,length_map]) ?_ (hF ?_) (fun j u hu=>(hw j).trans hu) ?_
 ·intro u hu;rw[hcs,mem_map] at hu;obtain⟨z,_,rfl⟩:=hu;rfl
 ·have h0:=hw 0;rw[hcs,getElem?_map,getElem?_eq_getElem hn,Option.map_some] at h0;have:=(qXp h0).1;rw[qDc] at this;exact this
 ·intro j c u hcj hu;rw[getElem?_map,Option.map_eq_some_iff] at hcj;obtain⟨z,hz,rfl⟩:=hcj;rw[hcs,getElem?_map,hz,Option.map_some] at hu;cases hu;exact .int k z
theorem zPi {w:World}{nm:String}{g t e n m:Nat}{k:IntKind}{rows:List (List Int)}{cs:Array Value}{fuel:Nat}{p:List MemPlace}{fs:Array Field}(hg:P.globalNamed nm=some g)(hv:w.var? P nm=some cs)
  (ht:P.underlying t=some (.array n e)) (he:P.underlying e=some (.struct fs)) (hc:P.cellsOf e=m) (hfs:fs.size=m) (hm:0<m)
  (hf : ∀ j<m,∃ f,fs[j]?=some f∧f.offset=j∧P.cellsOf f.type=1∧P.underlying f.type=some (.int k)) (hct:P.cellsOf t=n*m) (hr : ∀ r∈rows,r.length=m)
  (h:DataW.trod (fun _=>()) P w 0 (fun _=>true) false fuel t cs.toList=some (.agg (rows.map fun r=> .agg (r.map fun x=> .lit (.int k x))),p)):GSz w g (rows.flatten.map (T.int k)).length:=by
 obtain⟨_,hcs⟩:=zOp ht he hc hfs hm hf hct hr h;unfold World.var? at hv;rw[hg,Option.bind_some] at hv;split at hv
 ·rename_i c e z hc;cases hv;refine⟨_,e,z,hc,?_⟩;have:=congrArg List.length hcs;rw[length_map] at this;rw[length_map,←this];simp
 ·cases hv
end Go.Eng
end
