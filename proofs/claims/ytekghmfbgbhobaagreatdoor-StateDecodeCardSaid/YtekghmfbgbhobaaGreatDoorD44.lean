/- A part of an abstract machine, its walks, their tie. -/
import Derived.Test.YtekghmfbgbhobaaGreatDoorRows
import Derived.KernelRfl
import Derived.WideKeyArgs
import Derived.Handed
import Derived.OpenShut
import Derived.RowKit
import Derived.ProofKit
import Derived.LaidMore
import Derived.MakeChecks
import Derived.Stop.Joined
import Derived.Test.YtekghmfbgbhobaaGreatDoorTie
import Derived.Test.YtekghmfbgbhobaaGreatDoorCards
import Derived.SevenTiedAt
import Derived.Test.YtekghmfbgbhobaaGreatDoorD39
import Derived.Test.YtekghmfbgbhobaaGreatDoorD28
import Derived.Test.YtekghmfbgbhobaaGreatDoorD40
import Derived.Test.YtekghmfbgbhobaaGreatDoorD41
import Derived.Test.YtekghmfbgbhobaaGreatDoorD42
import Derived.Test.YtekghmfbgbhobaaGreatDoorD43
import Derived.Test.YtekghmfbgbhobaaGreatDoorD20
import Derived.Test.YtekghmfbgbhobaaGreatDoorD9
import Derived.Test.YtekghmfbgbhobaaGreatDoorD18
import Derived.Test.YtekghmfbgbhobaaGreatDoorD29
import Derived.Test.YtekghmfbgbhobaaGreatDoorD34
import Derived.Test.YtekghmfbgbhobaaGreatDoorD35
import Derived.Test.YtekghmfbgbhobaaGreatDoorD36
import Derived.Test.YtekghmfbgbhobaaGreatDoorD37
import Derived.Test.YtekghmfbgbhobaaGreatDoorD38
set_option linter.all false
section
set_option maxRecDepth 100000
namespace Go.Eng
open Go.Proofs Go.Proofs.YtekghmfbgbhobaaGreatDoor
def gl0:Gl:=fun g=>if g=1 then some (zDi.map jE) else none
abbrev TO (t:Tab):Prop:=qG9 Tryz.prog gl0 t
structure TT where
 t:Tab
 h:TO t
def T0:TT:=⟨[],qG9.nil⟩
noncomputable section
def aE {n:Nat}{E:ECt}(T:TT)(h : ∃ g:EF E,FOk Tryz.prog gl0 n (E.fs g)):TT:=⟨(n,E.fs h.choose)::T.t,.cons h.choose_spec T.h⟩
def aF {n:Nat}{f:FnS}(T:TT)(h:FOk Tryz.prog gl0 n f):TT:=⟨(n,f)::T.t,.cons h T.h⟩
abbrev Cl (n:Nat)(fn:Func)(rs:List (Nat×Option (Nat×Bool))):Prop:=Tryz.prog.funcs[n]?=some fn∧(fn.name == "runtime.NumGoroutine")=false∧fn.body=some (fn.body.getD .skip)∧Tryz.prog.follows .mixedOrders=true∧qQx Tryz.prog fn.results.toList=some rs
def xE (n:Nat)(T:TT)(E:ECt){fn:Func}{h:List (Nat×List Nat)}{rs:List (Nat×Option (Nat×Bool))}(c:AF fn h)(w : ∀ x,E.pre x→c.1.wp T.t gl0 (qE 0 (E.aS x)) (qE 0 (E.ins x)) (qX rs (E.ins x).length (E.K x)))(k:Cl n fn rs:=by exact⟨by kernel_rfl,by kernel_rfl,by kernel_rfl,by kernel_rfl,by kernel_rfl⟩)(z:c.1.strict=true:=by kernel_rfl)(u : ∀ x,(E.aS x).length≤fn.ntmps:=by exact fun _=>Nat.le_of_ble_eq_true (by kernel_rfl))(v : ∀ x,(E.ins x).length≤100:=by exact fun _=>Nat.le_of_ble_eq_true (by kernel_rfl)):TT:=aE (n:=n) T (jQg _ _ _ _ T.h E w k.1 k.2.1 k.2.2.1 c.2 k.2.2.2.1 k.2.2.2.2 z u v)
def xG (n:Nat)(T:TT)(E:ECt){fn:Func}{h:List (Nat×List Nat)}{rs:List (Nat×Option (Nat×Bool))}(c:AF fn h)(w : ∀ x,E.pre x→c.1.wp T.t gl0 (qE 0 (E.aS x)) (qE 0 (E.ins x)) (xU [] rs (E.ins x).length (E.K x)))(k:Cl n fn rs:=by exact⟨by kernel_rfl,by kernel_rfl,by kernel_rfl,by kernel_rfl,by kernel_rfl⟩)(z:c.1.strict=true:=by kernel_rfl)(u : ∀ x,(E.aS x).length≤fn.ntmps:=by exact fun _=>Nat.le_of_ble_eq_true (by kernel_rfl))(v : ∀ x,(E.ins x).length≤100:=by exact fun _=>Nat.le_of_ble_eq_true (by kernel_rfl)):TT:=aE (n:=n) T (jQh [] _ _ _ _ T.h E w k.1 k.2.1 k.2.2.1 c.2 k.2.2.2.1 k.2.2.2.2 z u v)
def xW (n:Nat)(T:TT)(E:Ct){fn:Func}{h:List (Nat×List Nat)}{rs:List (Nat×Option (Nat×Bool))}(c:AF fn h)(w : ∀ x,E.pre x→c.1.wp T.t gl0 (qE 0 (E.aS x)) (qE 0 (E.ins x)) (qX rs (E.ins x).length (fun r' o'=>r'=E.r x∧o'=E.outs x)))(k:Cl n fn rs:=by exact⟨by kernel_rfl,by kernel_rfl,by kernel_rfl,by kernel_rfl,by kernel_rfl⟩)(u : ∀ x,(E.aS x).length≤fn.ntmps:=by exact fun _=>Nat.le_of_ble_eq_true (by kernel_rfl))(v : ∀ x,(E.ins x).length≤100:=by exact fun _=>Nat.le_of_ble_eq_true (by kernel_rfl)):TT:=aF (n:=n) T (jXj k.1 k.2.1 k.2.2.1 c.2 k.2.2.2.1 T.h k.2.2.2.2 E u v w)
def xF (fz:List Nat)(n:Nat)(T:TT)(E:Ct){fn:Func}{h:List (Nat×List Nat)}{rs:List (Nat×Option (Nat×Bool))}(c:AF fn h)(w : ∀ x,E.pre x→c.1.wp T.t gl0 (qE 0 (E.aS x)) (qE 0 (E.ins x)) (xU fz rs (E.ins x).length (fun r' o'=>r'=E.r x∧o'=E.outs x)))(k:Cl n fn rs:=by exact⟨by kernel_rfl,by kernel_rfl,by kernel_rfl,by kernel_rfl,by kernel_rfl⟩)(u : ∀ x,(E.aS x).length≤fn.ntmps:=by exact fun _=>Nat.le_of_ble_eq_true (by kernel_rfl))(v : ∀ x,(E.ins x).length≤100:=by exact fun _=>Nat.le_of_ble_eq_true (by kernel_rfl)):TT:=aF (n:=n) T (jXh fz k.1 k.2.1 k.2.2.1 c.2 k.2.2.2.1 T.h k.2.2.2.2 E u v w)
def T1:=xW 70 T0 qVs qGe fun _ _=>zC0 T0.t _
def T2:=xF [] 80 T1 qR7 qMw fun x _=>zN4 T1.t _ x
def T3:=xF [] 128 T2 qQb qHs fun x hx=>zGe T2.t _ x hx
def T4:=xW 178 T3 qIo qGa fun x hx=>zCz T3.t _ x.1 x.2 hx.1 hx.2
def T5:=xW 179 T4 qSa qAd fun x hx=>qPw T4.t _ x.1 x.2 hx
def T6:=xW 129 T5 (qA7 5 qD6) wV fun x hx=>qP1 T5.t _ rfl rfl x hx
def T7:=xF [] 130 T6 qB2 qDe fun x hx=>qXm T6.t _ x hx
def T8:=xW 131 T7 (qA7 8 kV) xA fun x hx=>qMj T7.t _ rfl rfl rfl x.2 x.1 hx.1 hx.2
def T9:=xF [] 100 T8 qGz xX fun x hx=>zGd T8.t _ rfl rfl rfl rfl x.1 hx.1 x.2 hx.2
def T10:=xF [] 101 T9 zAt qJx fun x hx=>zJe T9.t _ x.1 x.2 hx
def T11:=xF [] 81 T10 qTe qR0 fun x hx=>zTn T10.t _ rfl rfl x.1 x.2 hx.1 hx.2
def T12:=xW 41 T11 qB1 qDw fun x hx=>zGf T11.t _ rfl rfl x.1 x.2.1 x.2.2.1 x.2.2.2 hx.1 hx.2.1 hx.2.2.1 hx.2.2.2
def T13:=xW 27 T12 qSb qBi fun x hx=>zJw T12.t _ rfl rfl x.1 x.2 hx
def T14:=xE 14 T13 qDm qIk fun s hp=>zGb T13.t _ s
def T15:=xW 76 T14 xP qAm fun x _=>zCy T14.t _ x
def T16:=xW 177 T15 qL5 qDv fun x hx=>zGc T15.t _ x hx
def T17:=xW 126 T16 qL5 qMv fun x hx=>zN1 T16.t _ rfl x hx
def T18:TT:=aF T17 (show FOk Tryz.prog gl0 127 zDu.fs from jJq (fn:=Tryz.f127) (ps := #[3]) (t:=22) (e:=5) (by kernel_rfl) (by kernel_rfl) (by kernel_rfl) (by kernel_rfl) (by kernel_rfl) (by kernel_rfl))
def T19:=xF [] 96 T18 qQc qEd fun x hx=>qY5 T18.t _ rfl rfl x.1 x.2 hx
def T20:=xF [] 75 T19 wR qCn fun x hx=>qUi T19.t _ rfl x.2 x.1 hx
def T21:=xF [] 36 T20 wS jT fun x hx=>qUk T20.t _ rfl rfl x
def T22:=xF [] 77 T21 jP vF fun x hx=>qS9 T21.t _ x hx
def T23:=xW 37 T22 qBj yP fun x hx=>qP2 T22.t _ rfl rfl rfl x hx
def T24:=xE 15 T23 qDp jU fun ⟨s,m⟩ hp=>qXk T23.t _ rfl rfl s m hp
def T25:=xE 9 T24 qKs qGd fun _ hp=>zB1 T24.t _ rfl rfl rfl
def T26:=xF [] 29 T25 qM6 qJw fun x hx=>zJd T25.t _ x hx
def T27:=xF [] 82 T26 qR7 qKb fun x _=>zJp T26.t _ x
def T28:=xW 132 T27 qUp qCl fun _ _=>qUf T27.t _
def T29:=xF [] 133 T28 qQb qMx fun x hx=>zN6 T28.t _ x hx
def T30:=xW 134 T29 qIo qJ8 fun x hx=>zJo T29.t _ x.1 x.2 hx.1 hx.2
def T31:=xW 135 T30 zAw qJ7 fun x hx=>zJn T30.t _ x.1 x.2 hx
def T32:=xF [] 136 T31 qB2 qH4 fun x hx=>zGi T31.t _ x hx
def T33:=xF [] 102 T32 (qJm 32 yK) qGm fun x hx=>zC3 T32.t _ rfl rfl rfl rfl rfl x hx
def T34:=xF [] 83 T33 qTe qMy fun x hx=>zN7 T33.t _ rfl x.1 x.2 hx.1 hx.2
def T35:=xW 43 T34 qB1 qC1 fun x hx=>zC4 T34.t _ rfl rfl x.1 x.2.1 x.2.2.1 x.2.2.2 hx.1 hx.2.1 hx.2.2.1 hx.2.2.2
def T36:=xW 71 T35 qVs qJz fun _ _=>zJf T35.t _
def T37:=xW 28 T36 qSb qBf fun x hx=>zJg T36.t _ rfl rfl x.1 x.2 hx
def T38:=xE 11 T37 qDm qH0 fun s hp=>zFl T37.t _ s
def T39:=xW 98 T38 xP qC4 fun x _=>zJk T38.t _ x
def T40:=xF [] 97 T39 wR qFy fun x hx=>zGr T39.t _ x hx
def T41:=xF [] 78 T40 qE7 qEx fun x hx=>qZe T40.t _ rfl rfl x.1 hx x.2
def T42:=xF [] 38 T41 wS wZ fun x hx=>zJ1 T41.t _ rfl x
def T43:=xF [] 99 T42 qAg qJ3 fun x hx=>zJh T42.t _ x hx
def T44:=xF [] 79 T43 jP qBh fun x hx=>zGq T43.t _ rfl x hx
def T45:=xW 39 T44 qBj kR fun x hx=>qZg T44.t _ rfl rfl x hx
def T46:=xE 16 T45 qDp jQ fun ⟨s,m⟩ hp=>qW9 T45.t _ rfl rfl s m hp
def T47:=xE 73 T46 qLp qFu fun s hp=>zIs T46.t _ rfl rfl s hp
def T48:=xE 93 T47 qPa qDz fun ⟨s,n⟩ hp=>zFm T47.t _ s n hp
def T49:=xW 17 T48 qQa qEe fun x hx=>zN3 T48.t _ x.1 x.2 hx.1 hx.2
def T50:=xW 113 T49 vT qHt fun x hx=>zN2 T49.t _ x.1 x.2 hx.1 hx.2
def T51:=xF [] 114 T50 qTd wK fun x _=>qY7 T50.t _ x.1 x.2
def T52:=xF [] 246 T51 qZo qIh fun _ _=>zGo T51.t _
def T53:=xE 272 T52 qO4 qEz fun x hp=>qY2 T52.t _ x
def T54:=xE 273 T53 qOj qIi fun ⟨a,b⟩ hp=>zF9 T53.t _ a b hp
def T55:=xE 274 T54 qNc qAv fun l hp=>qXj T54.t _ l hp
def T56:=xE 249 T55 qIp qIf fun a hp=>zF7 T55.t _ rfl rfl rfl a hp
def T57:=xF [] 42 T56 yT qKd fun x hx=>zJr T56.t _ x.1 x.2.1 x.2.2 hx.1 hx.2
def T58:=xF [] 191 T57 qAw qH2 fun x hx=>zGg T57.t _ x.1 hx.1 x.2 hx.2
def T59:=xG 275 T58 qNr qIg fun ⟨d,a⟩ hp=>zF8 T58.t _ rfl rfl d a hp
def T60:=xE 250 T59 qG0 qGx fun ⟨d,a⟩ hp=>zCw T59.t _ rfl rfl rfl d a hp
def T61:=xE 219 T60 qNl qGw fun l hp=>zCv T60.t _ rfl rfl l hp
def T62:=xE 118 T61 qBa xB fun ⟨s,n,k⟩ hp=>qMh T61.t _ s n k hp
def T63:=xE 182 T62 qI4 xY fun ⟨s,h⟩ hp=>zFr T62.t _ s h hp
def T64:=xE 145 T63 qCr qD0 fun ⟨s,h⟩ hp=>zFp T63.t _ rfl s h hp
def T65:=xE 168 T64 qLc yX fun ⟨s,n,b⟩ hp=>qW4 T64.t _ rfl rfl rfl s n b hp
def T66:=xE 115 T65 qDq jA fun ⟨s,n,b⟩ hp=>qW5 T65.t _ rfl rfl s n b hp
def T67:=xE 116 T66 qDn qGc fun ⟨s,n,k⟩ hp=>zB0 T66.t _ s n k hp
def T68:=xE 142 T67 qAi qH1 fun ⟨s,h⟩ hp=>zFo T67.t _ s h hp
def T69:=xE 220 T68 qLn qAz fun k hp=>qRj T68.t _ k
def T70:=xE 221 T69 qI0 qGf fun p hp=>zB2 T69.t _ rfl p hp
def T71:=xE 229 T70 qK7 qDi fun ⟨s,h⟩ hp=>qXi T70.t _ rfl s h hp
def T72:=xE 262 T71 qLj qIb fun ⟨s,l,c⟩ hp=>zF3 T71.t _ rfl s l c hp
def T73:=xF [] 231 T72 qA8 qJ4 fun x hx=>zJi T72.t _ rfl rfl x.1 x.2 hx.1 hx.2
def T74:=xE 261 T73 qD7 qIc fun ⟨l,c,a,b,x⟩ hp=>zF4 T73.t _ rfl l c a b x hp
def T75:=xE 279 T74 qK9 qId fun ⟨l,e⟩ hp=>zF5 T74.t _ rfl l e hp
def T76:=xE 259 T75 qOm qAr fun ⟨s,l⟩ hp=>zCr T75.t _ rfl rfl rfl s l hp
def T77:=xE 227 T76 qIv qGt fun ⟨s,h⟩ hp=>zCu T76.t _ rfl rfl s h hp
def T78:=xE 257 T77 qK0 xI fun n hp=>zI7 T77.t _ n
def T79:=xE 278 T78 qK4 qKg fun ⟨h,i,x,y⟩ hp=>zI8 T78.t _ rfl h i x y hp
def T80:=xE 258 T79 qLl qR1 fun ⟨h,l⟩ hp=>zTj T79.t _ rfl h l hp
def T81:=xE 226 T80 qOz qFx fun l hp=>zI6 T80.t _ rfl rfl rfl l hp
def T82:=xE 172 T81 qLa qAs fun ⟨s,h⟩ hp=>zCs T81.t _ rfl rfl s h hp
def T83:=xE 222 T82 qLm qBr fun ⟨s,k,h⟩ hp=>qX9 T82.t _ rfl rfl s k h hp
def T84:=xE 169 T83 qIw qDx fun ⟨s,p,au,da⟩ hp=>zFf T83.t _ rfl rfl rfl rfl s p au da hp
def T85:=xF [] 44 T84 qDj qKc fun x hx=>zJq T84.t _ rfl x.1 x.2 hx.1 hx.2
def T86:=xG 171 T85 qCt qEg fun p hp=>qX8 T85.t _ rfl p hp
def T87:=xE 223 T86 qCs qHv fun p hp=>zFe T86.t _ rfl rfl p hp
def T88:=xE 225 T87 qK5 qJy fun ⟨s,nm⟩ hp=>zIu T87.t _ rfl s nm hp
def T89:=xG 255 T88 qLi qGr fun ⟨k,no,b⟩ hp=>zCp T88.t _ rfl k no b hp
def T90:=xF [] 256 T89 qM4 qM0 fun x hx=>zN9 T89.t _ rfl rfl rfl x.1 x.2.1 x.2.2.1 x.2.2.2 hx
def T91:=xG 224 T90 qO1 qKf fun ⟨k,no,ad,p⟩ hp=>zI3 T90.t _ rfl rfl rfl k no ad p hp
def T92:=xG 170 T91 qLe qDf fun ⟨s,p,z⟩ hp=>qW6 T91.t _ rfl rfl rfl rfl rfl s p z hp
def T93:=xE 117 T92 qFd qBe fun ⟨s,h,n,b⟩ hp=>zIt T92.t _ rfl rfl rfl rfl rfl rfl s h n b hp
def T94:=xE 123 T93 qB3 vH fun ⟨s,n⟩ hp=>qRh T93.t _ s n hp
def T95:=xE 119 T94 qE9 qCj fun ⟨s,n,m,b⟩ hp=>qT6 T94.t _ rfl rfl rfl rfl rfl rfl s n m b hp
def T96:=xE 120 T95 qFc qAn fun ⟨s,n⟩ hp=>zBz T95.t _ rfl rfl s n hp
def T97:=xE 174 T96 qKq qCk fun ⟨d,rf⟩ hp=>qT8 T96.t _ rfl d rf hp
def T98:=xE 260 T97 qKy qGs fun m hp=>zCq T97.t _ rfl m hp
def T99:=xE 228 T98 qOr qC5 fun ⟨s,l,m⟩ hp=>zI4 T98.t _ rfl rfl rfl s l m hp
def jQ3:=xE 230 T99 qOv qBg fun ⟨i,l⟩ hp=>zI5 T99.t _ rfl rfl rfl i l hp
def jQ4:=xE 173 jQ3 qI1 jZ fun ⟨s,h,l,m⟩ hp=>zI9 jQ3.t _ rfl rfl rfl rfl s h l m hp
def jQ5:=xE 121 jQ4 qE8 qBo fun ⟨s,n,b⟩ hp=>qX5 jQ4.t _ rfl rfl rfl rfl rfl rfl rfl rfl s n b hp
def jQ6:=xE 122 jQ5 qFb qGb fun ⟨s,n,b⟩ hp=>zBy jQ5.t _ rfl rfl s n b hp
def jQ7:=xE 144 jQ6 kD qGk fun ⟨s,h⟩ hp=>zB8 jQ6.t _ s h hp
def jQ8:=xE 124 jQ7 qFf qO fun ⟨s,k,n,b⟩ hp=>qX6 jQ7.t _ rfl rfl rfl rfl s k n b hp
def jQ9:=xE 146 jQ8 qLo kL fun ⟨s,h⟩ hp=>zB9 jQ8.t _ rfl rfl s h hp
def jRa:=xE 263 jQ9 qNy qBq fun x hp=>qSu jQ9.t _ rfl x
def jRb:=xE 233 jRa qK3 qBp fun x hp=>qSt jRa.t _ rfl rfl x hp
def jRc:=xE 234 jRb qNt kU fun h hp=>qL1 jRb.t _ rfl h
def jRd:=xE 192 jRc qIx qBu fun ⟨s,h⟩ hp=>zFn jRc.t _ rfl rfl rfl rfl rfl s h hp
def jRe:=xE 153 jRd qK8 qGn fun ⟨s,q⟩ hp=>zCd jRd.t _ rfl s q hp
def jRf:=xE 175 jRe qOk qGp fun ⟨s,q⟩ hp=>zCk jRe.t _ rfl s q hp
def jRg:=xE 152 jRf qKu qEp fun ⟨l,q⟩ hp=>qYn jRf.t _ rfl rfl rfl l q hp
def jRh:=xE 151 jRg qKx qJ9 fun ⟨v,d,m,c⟩ hp=>zI0 jRg.t _ rfl rfl v d m c hp
def jRi:=xE 125 jRh qFa zK fun ⟨s,q,m,b⟩ hp=>qT1 jRh.t _ rfl rfl rfl rfl rfl rfl rfl s q m b hp
def jRj:=xE 95 jRi qFg qH fun ⟨s,k,n,m,b⟩ hp=>qX4 jRi.t _ rfl rfl rfl rfl rfl rfl rfl rfl rfl rfl rfl rfl rfl rfl s k n m b hp
def jRk:=xE 180 jRj qI3 qEt fun _ hp=>qYv jRj.t _
def jRl:=xE 138 jRk qO3 kN fun k hp=>zCj jRk.t _ rfl k
def jRm:=xE 139 jRl qNs qH8 fun ⟨a,b⟩ hp=>zFy jRl.t _ a b
def jRn:=xE 140 jRm qOi qEs fun h hp=>qYu jRm.t _ h
def jRo:=xE 181 jRn qNq qH9 fun q hp=>zFz jRn.t _ rfl rfl q hp
def jRp:=xE 141 jRo qIu qIa fun q hp=>zF0 jRo.t _ rfl q hp
def jRq:=xE 107 jRp qIr vD fun q hp=>zCi jRp.t _ rfl rfl rfl rfl q hp
def jRr:=xE 108 jRq kW qEu fun ⟨s,e⟩ hp=>qYz jRq.t _ s e
def jRs:=xE 143 jRr qNn qEo fun ⟨s,h⟩ hp=>qYj jRr.t _ rfl rfl s h hp
def jRt:=xE 109 jRs qM8 qZ fun ⟨s,q⟩ hp=>qXe jRs.t _ rfl rfl rfl s q hp
def jRu:=xE 184 jRt qLg qGo fun c hp=>zCe jRt.t _ c
def jRv:=xE 183 jRu qLb qH5 fun ⟨r,a,b⟩ hp=>zFs jRu.t _ r a b
def jRw:=xE 185 jRv qOw xD fun ⟨s,h⟩ hp=>qYk jRv.t _ rfl rfl s h hp
def jRx:=xW 20 jRw xO qFw fun x hx=>zJj jRw.t _ x.1 x.2 hx.1 hx.2
def jRy:=xE 147 jRx qNd xZ fun ⟨s,lo,q,x⟩ hp=>qT9 jRx.t _ rfl rfl rfl rfl rfl s lo q x hp
def jRz:=xE 186 jRy qOc qHz fun ⟨l,now⟩ hp=>zFk jRy.t _ l now
def jR0:=xE 187 jRz qLd vY fun ⟨s,h⟩ hp=>qSw jRz.t _ rfl rfl s h hp
def jR1:=xE 232 jR0 qK6 vV fun ⟨l,now⟩ hp=>qW8 jR0.t _ l now hp
def jR2:=xE 188 jR1 qN8 qEl fun ⟨l,now⟩ hp=>qYe jR1.t _ rfl l now hp
def jR3:=xE 148 jR2 qOa qBw fun ⟨s,h⟩ hp=>qYp jR2.t _ rfl rfl rfl s h hp
def jR4:=xE 189 jR3 qOd qGi fun ⟨l,now⟩ hp=>zB6 jR3.t _ l now hp
def jR5:=xE 190 jR4 qN9 qHy fun ⟨l,now⟩ hp=>zFj jR4.t _ rfl l now hp
def jR6:=xE 149 jR5 qPe kM fun ⟨s,h,ok⟩ hp=>zCf jR5.t _ rfl rfl rfl s h ok hp
def jR7:=xE 150 jR6 qOt jM fun ⟨s,q⟩ hp=>qSy jR6.t _ rfl rfl rfl rfl s q hp
def jR8:=xE 110 jR7 qNe zX fun ⟨s,lo,q⟩ hp=>zCc jR7.t _ rfl rfl rfl rfl rfl rfl rfl rfl rfl rfl s lo q hp
def jR9:=xE 154 jR8 qB4 qC0 fun ⟨s,t,e⟩ hp=>zCn jR8.t _ rfl s t e
def jSa:=xE 12 jR9 qI2 vE fun ⟨s,m⟩ hp=>qT7 jR9.t _ rfl s m
def jSb:=xE 155 jSa qNg qCz fun s hp=>zCm jSa.t _ s
def jSc:=xW 74 jSb yE kP fun x hx=>qZf jSb.t _ x hx
def jSd:=xF [] 193 jSc qZp wD fun x hx=>zGn jSc.t _ rfl rfl x.1 x.2.1 x.2.2.1 x.2.2.2 hx
def jSe:=xW 235 jSd xN qIe fun x _=>zGm jSd.t _ x.1 x.2
def jSf:=xW 280 jSe qUq qJ6 fun x hx=>zJm jSe.t _ x.1 x.2 hx
def jSg:=xF [] 264 jSf (qJm 20 zBq) qJ5 fun x hx=>zJl jSf.t _ rfl rfl rfl rfl x hx
def jSh:=xF [] 236 jSg qGz qH3 fun x hx=>zN5 jSg.t _ rfl rfl x.1 hx.1 x.2 hx.2
def jSi:=xW 194 jSh qF1 jD fun x hx=>zC9 jSh.t _ rfl rfl rfl rfl rfl rfl x hx
def jSj:=xW 195 jSi qVr qEw fun x hx=>qY9 jSi.t _ rfl rfl x.1 x.2.1 x.2.2 hx.1 hx.2
def jSk:=xW 196 jSj zPd qD4 fun x hx=>zGl jSj.t _ rfl rfl x.1 x.2.1 x.2.2.1 x.2.2.2.1 x.2.2.2.2 hx.1 hx.2.1 hx.2.2
def jSl:=xW 197 jSk qHd jG fun x hx=>zDc jSk.t _ rfl rfl rfl rfl rfl x hx
def jSm:=xE 156 jSl qOh jJ fun ⟨s,lo,q⟩ hp=>qXf jSl.t _ rfl rfl rfl rfl rfl rfl s lo q hp
def jSn:=xE 237 jSm qLk qCm fun q hp=>qUa jSm.t _ q hp
def jSo:=xE 238 jSn qA9 qEr fun ⟨s,e⟩ hp=>qYt jSn.t _ s e
def jSp:=xE 239 jSo qK1 qH6 fun s hp=>zFv jSo.t _ s hp
def jSq:=xE 240 jSp qIz qKa fun ⟨s,k,x⟩ hp=>zI1 jSp.t _ s k x hp
def jSr:=xE 198 jSq qOu kH fun ⟨s,q⟩ hp=>qXc jSq.t _ rfl rfl rfl rfl rfl rfl rfl rfl rfl s q hp
def jSs:=xE 241 jSr qFe qEq fun ⟨s,q⟩ hp=>qYs jSr.t _ rfl s q hp
def jSt:=xE 19 jSs qDo qEn fun ⟨s,n⟩ hp=>qYi jSs.t _ rfl rfl s n hp
def jSu:=xE 199 jSt qNj xH fun ⟨s,q⟩ hp=>qYq jSt.t _ rfl rfl rfl rfl rfl rfl rfl s q hp
def jSv:=xF [] 56 jSu qDl qMz fun x hx=>zN8 jSu.t _ x hx
def jSw:=xW 89 jSv xM yO fun x hx=>zGp jSv.t _ x hx
def jSx:=xW 57 jSw qCq vL fun x hx=>qRs jSw.t _ rfl x.1 hx.1 x.2 hx.2
def jSy:=xW 59 jSx qAx jW fun x hx=>qRq jSx.t _ rfl x.1 hx.1 x.2 hx.2
def jSz:=xW 91 jSy qR8 qA1 fun x hx=>qRr jSy.t _ x hx
def jS0:=xW 62 jSz qDk vZ fun x hx=>qS1 jSz.t _ rfl x hx
def jS1:=xE 208 jS0 qLf qEf fun b hp=>qX7 jS0.t _ rfl rfl rfl rfl rfl b hp
def jS2:=xW 137 jS1 qKo wA fun x hx=>qS2 jS1.t _ rfl x.1 hx.1 x.2 hx.2
def jS3:=xE 265 jS2 qOp qKe fun ⟨k,ad,b⟩ hp=>zI2 jS2.t _ rfl rfl rfl rfl rfl rfl rfl k ad b hp
def jS4:=xE 242 jS3 qOo qHw fun ⟨s,p,b⟩ hp=>zFg jS3.t _ rfl rfl rfl rfl rfl rfl rfl rfl rfl s p b hp
def jS5:=xE 200 jS4 qOe wW fun ⟨s,q⟩ hp=>zFt jS4.t _ rfl rfl rfl rfl rfl rfl rfl s q hp
def jS6:=xE 166 jS5 qB5 qJ2 fun ⟨s,k,x⟩ hp=>zIz jS5.t _ s k x hp
def jS7:=xE 167 jS6 qKw qCy fun ⟨s,h⟩ hp=>zCa jS6.t _ rfl rfl s h hp
def jS8:=xE 201 jS7 qNp qAq fun ⟨s,q⟩ hp=>zCg jS7.t _ rfl rfl rfl rfl s q hp
def jS9:=xE 202 jS8 qPc qBx fun ⟨s,q⟩ hp=>qYr jS8.t _ rfl rfl rfl s q hp
def jTa:=xE 266 jS9 qN6 qH7 fun ⟨s,x⟩ hp=>zFw jS9.t _ rfl s x hp
def jTb:=xE 243 jTa qLh qD2 fun ⟨s,x,b⟩ hp=>zFx jTa.t _ rfl rfl s x b hp
def jTc:=xE 203 jTb qO2 wY fun ⟨s,q⟩ hp=>zFu jTb.t _ rfl rfl rfl s q hp
def jTd:=xF [] 244 jTc qM5 qGu fun x hx=>zC7 jTc.t _ rfl rfl rfl x.1 x.2.1 x.2.2.1 x.2.2.2 hx
def jTe:=xE 267 jTd qOg qGj fun _ hp=>zB7 jTd.t _
def jTf:=xE 245 jTe qM7 qBs fun a hp=>qYf jTe.t _ rfl rfl rfl a hp
def jTg:=xE 204 jTf qOx vC fun ⟨s,q⟩ hp=>zCh jTf.t _ rfl rfl rfl rfl rfl rfl s q hp
def jTh:=xE 157 jTg qOl jR fun ⟨s,q⟩ hp=>qXg jTg.t _ rfl rfl rfl rfl rfl rfl rfl s q hp
def jTi:=xE 205 jTh qOn qBv fun ⟨s,k⟩ hp=>zFq jTh.t _ rfl rfl rfl s k hp
def jTj:=xE 248 jTi qIy vJ fun ⟨s,h⟩ hp=>qRl jTi.t _ rfl s h hp
def jTk:=xE 268 jTj qPf jV fun a hp=>qRm jTj.t _ rfl rfl a hp
def jTl:=xE 269 jTk qOy zH fun ⟨s,x,a⟩ hp=>qSx jTk.t _ rfl rfl s x a hp
def jTm:=xE 213 jTl qIs qJ1 fun ⟨l,n⟩ hp=>zIy jTl.t _ l n hp
def jTn:=xE 283 jTm qO7 qIj fun b hp=>zGa jTm.t _ b hp
def jTo:=xE 282 jTn qOf qFz fun ⟨a,b⟩ hp=>zJa jTn.t _ rfl a b hp
def jTp:=xE 281 jTo qNh qEy fun ⟨o,a,b⟩ hp=>qY1 jTo.t _ rfl o a b hp
def jTq:=xE 270 jTp qNw qGl fun ⟨s,a⟩ hp=>zCb jTp.t _ rfl rfl rfl rfl s a hp
def jTr:=xE 271 jTq qNi qDg fun ⟨o,a,b⟩ hp=>qXb jTq.t _ o a b
def jTs:=xE 247 jTr qKr zG fun ⟨s,h,a⟩ hp=>qYl jTr.t _ rfl rfl rfl rfl rfl rfl rfl rfl s h a hp
def jTt:=xE 206 jTs qNa jO fun ⟨s,q⟩ hp=>qYw jTs.t _ rfl rfl rfl rfl rfl s q hp
def jTu:=xE 207 jTt qO0 yI fun ⟨s,h,nm,rf,n⟩ hp=>qYm jTt.t _ rfl rfl rfl rfl s h nm rf n hp
def jTv:=xE 276 jTu qOq wO fun ⟨l,m,sg⟩ hp=>qY0 jTu.t _ rfl rfl rfl l m sg hp
def jTw:=xE 277 jTv qKv jS fun ⟨x,i,p⟩ hp=>zF6 jTv.t _ rfl rfl x i p hp
def jTx:=xE 251 jTw qPd kO fun ⟨p,m,sg⟩ hp=>zCt jTw.t _ rfl rfl rfl p m sg hp
def jTy:=xE 209 jTx qM9 vW fun ⟨s,h,k,rf,sg⟩ hp=>qXa jTx.t _ rfl rfl rfl rfl rfl rfl rfl s h k rf sg hp
def jTz:=xE 158 jTy qO5 zP fun ⟨s,q⟩ hp=>qUb jTy.t _ rfl rfl rfl rfl rfl rfl rfl rfl rfl s q hp
def jT0:=xE 252 jTz qO9 qGg fun ⟨k,z⟩ hp=>zB4 jTz.t _ k z
def jT1:=xE 210 jT0 qN0 qFv fun ⟨n,k,r,z,au,po⟩ hp=>zIv jT0.t _ rfl n k r z au po hp
def jT2:=xE 159 jT1 qNk wM fun ⟨s,q⟩ hp=>qYy jT1.t _ rfl rfl rfl s q hp
def jT3:=xE 211 jT2 qPh qDh fun ⟨l,n⟩ hp=>qXh jT2.t _ l n hp
def jT4:=xE 160 jT3 qPb qAa fun ⟨s,q⟩ hp=>qUc jT3.t _ rfl rfl rfl s q hp
def jT5:=xE 161 jT4 qIq qBy fun ⟨s,q⟩ hp=>qYx jT4.t _ rfl s q hp
def jT6:=xE 162 jT5 qNf qGq fun s hp=>zCl jT5.t _ rfl rfl s hp
def jT7:=xE 163 jT6 qN7 qGh fun ⟨l,now⟩ hp=>zB5 jT6.t _ l now
def jT8:=xE 164 jT7 qOb qEk fun ⟨l,a,b,c⟩ hp=>qYd jT7.t _ l a b c hp
def jT9:=xE 212 jT8 qPg qD3 fun ⟨l,n⟩ hp=>zF2 jT8.t _ rfl l n hp
def jUa:=xE 253 jT9 qK2 qEj fun ⟨o,n,z⟩ hp=>qYc jT9.t _ o n z hp
def jUb:=xE 214 jUa qN2 qDy fun ⟨x,o,n⟩ hp=>zFh jUa.t _ rfl rfl x o n hp
def jUc:=xE 215 jUb qN5 qCx fun ⟨x,o,d⟩ hp=>zB3 jUb.t _ rfl rfl x o d hp
def jUd:=xE 254 jUc qN4 qEi fun x hp=>qYb jUc.t _ rfl rfl x hp
def jUe:=xE 216 jUd qNz vX fun ⟨x,m⟩ hp=>qSv jUd.t _ rfl rfl x m hp
def jUf:=xE 217 jUe qN3 kG fun ⟨x,b⟩ hp=>qW7 jUe.t _ rfl x b hp
def jUg:=xE 218 jUf qNx qEh fun ⟨x,b⟩ hp=>qYa jUf.t _ rfl rfl x b hp
def jUh:=xE 165 jUg qO6 zE fun ⟨s,q⟩ hp=>zCo jUg.t _ rfl rfl rfl rfl rfl rfl rfl rfl rfl s q hp
def jUi:=xE 111 jUh qKt zV fun ⟨s,lo,q⟩ hp=>zF1 jUh.t _ rfl rfl rfl rfl rfl rfl rfl rfl rfl rfl rfl rfl rfl rfl rfl s lo q hp
def jUj:=xE 112 jUi qNo vK fun ⟨s,q⟩ hp=>qYo jUi.t _ rfl rfl rfl rfl s q hp
def jUk:=xE 94 jUj qNm qW fun ⟨s,lo,q⟩ hp=>qXd jUj.t _ rfl rfl rfl rfl rfl rfl s lo q hp
def jUl:=xE 72 jUk qO8 qC3 fun ⟨s,k,n,m,b⟩ hp=>zIr jUk.t _ rfl rfl rfl rfl s k n m b hp
def jUm:=xE 30 jUl qOs qJv fun ⟨s,cs,b,n⟩ hp=>zIq jUl.t _ rfl rfl s cs b n hp
def jUn:=xE 10 jUm qKz qHu fun ⟨a,cs,b⟩ hp=>zFd jUm.t _ rfl rfl rfl rfl rfl a cs b hp
def jUo:=xE 66 jUn qNb qIl fun ⟨l,i⟩ hp=>zNw jUn.t _ l i hp
def jUp:=xF [] 40 jUo yT qKk fun x hx=>zJy jUo.t _ x.1 x.2.1 x.2.2 hx.1 hx.2
def jUq:=xF [] 65 jUp qDj qKj fun x hx=>zJx jUp.t _ rfl x.1 x.2 hx.1 hx.2
def jUr:=xF [] 67 jUq zAu qCp fun x hx=>qUj jUq.t _ rfl x.1 x.2 hx
def jUs:=xE 68 jUr qG2 qKi fun b hp=>zJb jUr.t _ b
def jUt:=xW 92 jUs xL yQ fun x hx=>qP3 jUs.t _ x hx
def jUu:=xF [] 69 jUt qR5 kA fun x hx=>qRu jUt.t _ rfl rfl x.1 x.2 hx
def jUv:=xG 26 jUu qB6 qE0 fun s hp=>qY4 jUu.t _ rfl rfl rfl rfl rfl rfl s hp
def jUw:=xF [8208] 47 jUv qDl qM1 fun x hx=>zOb jUv.t _ x hx
def jUx:=xW 103 jUw qR6 qA4 fun x hx=>zJz jUw.t _ x.1 hx x.2
def jUy:=xW 104 jUx kC yR fun x hx=>zGs jUx.t _ x hx
def jUz:=xW 84 jUy qCq vM fun x hx=>qRx jUy.t _ rfl rfl x.1 hx.1 x.2 hx.2
def jU0:=xW 85 jUz qR9 qB0 fun x hx=>qS7 jUz.t _ x hx
def jU1:=xE 49 jU0 qIt yA fun ⟨s,e,k,m⟩ hp=>qMi jU0.t _ rfl rfl s e k m hp
def jU2:=xE 48 jU1 qNu qBz fun ⟨s,e,k⟩ hp=>qSz jU1.t _ rfl s e k hp
def jU3:=xW 86 jU2 qAx jX fun x hx=>qRv jU2.t _ rfl rfl x.1 hx.1 x.2 hx.2
def jU4:=xE 51 jU3 qG1 kB fun ⟨s,e⟩ hp=>qRn jU3.t _ rfl rfl s e hp
def jU5:=xE 50 jU4 qSc qCo fun ⟨s,e,n⟩ hp=>qUd jU4.t _ rfl s e n hp
def jU6:=xE 52 jU5 qNv qA2 fun ⟨s,e⟩ hp=>qRo jU5.t _ rfl s e hp
def jU7:=xW 105 jU6 qKo wF fun x hx=>qS8 jU6.t _ rfl rfl x.1 hx.1 x.2 hx.2
def jU8:=xW 88 jU7 qR8 qA3 fun x hx=>qRw jU7.t _ x hx
def jU9:=xW 55 jU8 qDk wE fun x hx=>qS6 jU8.t _ rfl x hx
def jVa:=xW 87 jU9 qR4 zZ fun x hx=>qRt jU9.t _ rfl rfl rfl rfl rfl rfl rfl x hx
def jVb:=xE 53 jVa qSd wJ fun ⟨s,e⟩ hp=>qPv jVa.t _ rfl rfl s e hp
def jVc:=xE 54 jVb qSe qAe fun ⟨s,e⟩ hp=>qPu jVb.t _ rfl rfl rfl s e hp
def jVd:=xE 23 jVc qAh xJ fun b hp=>qY3 jVc.t _ rfl rfl rfl rfl rfl rfl rfl rfl rfl b hp
def jVe:=xE 45 jVd qG2 qJ0 fun b hp=>zIw jVd.t _ b
def jVf:=xF [] 46 jVe qR5 qGv fun x hx=>zC8 jVe.t _ rfl rfl x.1 x.2 hx
def jVg:=xG 22 jVf qB6 qEm fun s hp=>qYh jVf.t _ rfl rfl rfl rfl s hp
def jVh:=xW 63 jVg qL4 qD1 fun x hx=>zGh jVg.t _ rfl x.1 x.2 hx.1 hx.2
def jVi:=xW 31 jVh zKl qKh fun x hx=>zJu jVh.t _ rfl rfl x.1 x.2 hx
def jVj:=xE 64 jVi qN1 qHx fun ⟨a,b⟩ hp=>zFi jVi.t _ rfl a b hp
def jNd:=xE 25 jVj qFh qA0 fun ⟨a,b⟩ hp=>qRk jVj.t _ rfl rfl rfl rfl a b hp
def jVk:=xW 58 jNd qVt qAp fun x hx=>zC2 jNd.t _ rfl x.1 x.2 hx
def jVl:=xW 106 jVk zAv wC fun x hx=>zJt jVk.t _ rfl rfl rfl rfl x hx
def jVm:=xW 90 jVl qR4 kQ fun x hx=>zC6 jVl.t _ rfl rfl rfl x hx
def jVn:=xW 60 jVm zKn qAo fun x hx=>zC1 jVm.t _ rfl rfl x hx
def jVo:=xW 61 jVn zKm qBt fun x hx=>qS0 jVn.t _ rfl rfl rfl x hx
def jVp:=xE 24 jVo qAh xC fun b hp=>qYg jVo.t _ rfl rfl rfl rfl rfl rfl rfl b hp
end
end Go.Eng
end
section
set_option maxRecDepth 20000
namespace Go.Eng
open Go.ChangeShapes Go.WideShapes Go.RowKit
inductive Ty where
 | int (k:IntKind)
 | bool
 | str
 | sl (e:Ty)
 | st (fs:List Ty)
mutual
def Ty.size:Ty→Nat
 | .st fs=>Ty.sizeL fs
 | _=>1
def Ty.sizeL:List Ty→Nat
 | []=>0
 | f::r=>f.size+Ty.sizeL r
end
def isK (P:Program)(t:TypeId)(k:IntKind):Bool:=match P.underlying t with
 | some (.int k')=>decide (k'=k)
 | _=>false
theorem zZs {P:Program}{t:TypeId}{k:IntKind}(h:isK P t k=true):P.underlying t=some (.int k):=by
 unfold isK at h;split at h
 ·rename_i h1;rw[h1,of_decide_eq_true h]
 ·cases h
mutual
def Ty.ok (P:Program):Ty→TypeId→Bool
 | .int k,t=>isK P t k
 | .bool,t=>match P.underlying t with | some .bool=>true | _=>false
 | .str,t=>match P.underlying t with | some .string=>true | _=>false
 | .sl e,t=>match P.underlying t with | some (.slice te)=>e.ok P te&&Nat.beq (P.cellsOf te) e.size&&Nat.ble 1 e.size | _=>false
 | .st fs,t=>Nat.beq (P.cellsOf t) (Ty.sizeL fs)&&match P.underlying t with
  | some (.struct gs)=>Ty.okF P fs gs.toList 0
  | some (.array n te)=>Nat.beq fs.length n&&Ty.okA P fs te
  | _=>false
def Ty.okF (P:Program):List Ty→List Field→Nat→Bool
 | [],[],_=>true
 | f::r,g::gs,off=>Nat.beq g.offset off&&Nat.beq (P.cellsOf g.type) f.size&&f.ok P g.type&&Ty.okF P r gs (off+f.size)
 | _,_,_=>false
def Ty.okA (P:Program):List Ty→TypeId→Bool
 | [],_=>true
 | f::r,te=>f.ok P te&&Nat.beq (P.cellsOf te) f.size&&Ty.okA P r te
end
mutual
def Ty.is:Ty→T→Prop
 | .int k,x => ∃ n,(Lit.int k n).wf=true∧x = .int k n
 | .bool,x => ∃ b,x = .bool b
 | .str,x => ∃ s:ByteArray,s.size≤maxLen∧x = .str s
 | .sl e,x => ∃ es:List T,es.length≤maxLen∧(∀ y∈es,e.is y)∧x = .sl es
 | .st fs,x => ∃ cs,Ty.isL fs cs∧x = .agg cs
def Ty.isL:List Ty→List T→Prop
 | [],cs=>cs=[]
 | f::r,cs => ∃ x rest,f.is x∧Ty.isL r rest∧cs=x.cells++rest
end
mutual
theorem Ty.is_size : ∀ (ty:Ty) (x:T),ty.is x→x.cells.length=ty.size
 | .int k,x,h=>by obtain⟨n,_,rfl⟩:=h;rfl
 | .bool,x,h=>by obtain⟨n,rfl⟩:=h;rfl
 | .str,x,h=>by obtain⟨n,_,rfl⟩:=h;rfl
 | .sl e,x,h=>by obtain⟨es,_,_,rfl⟩:=h;rfl
 | .st fs,x,h=>by
  obtain⟨cs,h1,rfl⟩:=h;show cs.length=Ty.sizeL fs;exact Ty.isL_size fs cs h1
theorem Ty.isL_size : ∀ (fs:List Ty) (cs:List T),Ty.isL fs cs→cs.length=Ty.sizeL fs
 | [],cs,h=>by cases h;rfl
 | f::r,cs,h=>by
  obtain⟨x,rest,h1,h2,rfl⟩:=h;rw[List.length_append,Ty.is_size f x h1,Ty.isL_size r rest h2,Ty.sizeL]
end
theorem zEu {α:Type}{Q:Nat→α→Prop} : ∀ (n:Nat),(∀ i,i<n → ∃ y,Q i y) → ∃ l:List α,l.length=n ∧ ∀ i y,l[i]?=some y→Q i y
 | 0,_=>⟨[],rfl,sM⟩
 | n+1,h=>by
  obtain⟨l,hl,hq⟩:=zEu n (fun i hi=>h i oM);obtain⟨y,hy⟩:=h n oM;refine⟨l++[y],by simp[hl],fun i z hz=>?_⟩;rw[List.getElem?_append] at hz;split at hz
  ·exact hq i z hz
  ·have h1:i-l.length=0:=by
    rcases Nat.eq_zero_or_pos (i-l.length) with h | h
    ·exact h
    ·rw[List.getElem?_eq_none soM] at hz;cases hz
   rw[h1] at hz;simp only[List.getElem?_cons_zero,Option.some.injEq] at hz;subst hz;have:i=n:=oM;subst this;exact hy
theorem zDs {w:World}{a:Addr}{u:Value}(h:w.cell? a=some u):a.block<w.heap.size∧a.spot=none:=by
 unfold World.cell? at h;split at h
 ·rename_i hb;refine⟨(Array.getElem?_eq_some_iff.1 hb).1,?_⟩;split at h
  ·cases h
  ·rename_i hs;simpa using hs
 ·cases h
section
variable {H:Type} {enc:TypeId×Value→H} {P:Program} {w:World} {base:Nat} {sp:Nat→Bool} {held:Bool}
structure qJu (w:World) (ds:List T) (cs:List Value):Prop where
 len:ds.length=cs.length
 one : ∀ u∈cs,u.oneCell'=true
 rep : ∀ (i:Nat) (c:T) (u:Value),ds[i]?=some c→cs[i]?=some u→Rep (fun b=>b<w.heap.size) w c u
theorem qJu.one1 {x:T}{c:Value}(hc:c.oneCell'=true)(h:Rep (fun b=>b<w.heap.size) w x c):qJu w [x] [c]:=
 ⟨rfl,by simpa using hc,fun i d u hd hu=>by
  cases i with
  | zero=>simp only[List.getElem?_cons_zero,Option.some.injEq] at hd hu;subst hd;subst hu;exact h
  | succ i=>simp at hd⟩
theorem qJu.app {ds es:List T}{cs vs:List Value}(h:qJu w ds cs)(h2:qJu w es vs):qJu w (ds++es) (cs++vs):=by
 refine⟨by rw[List.length_append,List.length_append,h.len,h2.len],fun u hu=>?_,fun i c u hc hu=>?_⟩
 ·rcases List.mem_append.1 hu with h3 | h3
  ·exact h.one u h3
  ·exact h2.one u h3
 ·rw[List.getElem?_append] at hc hu;rw[h.len] at hc;split at hc
  ·rename_i hl;rw[if_pos hl] at hu;exact h.rep i c u hc hu
  ·rename_i hl;rw[if_neg hl] at hu;exact h2.rep _ c u hc hu
theorem qJu.nil:qJu w [] []:=⟨rfl,sM,fun i c u hc=>by simp at hc⟩
theorem qWb (n:Nat)(IH : ∀ (ty:Ty) (t:TypeId) (cs:List Value) (x:DataW H×List MemPlace),ty.ok P t=true→cs.length=ty.size→DataW.trod enc P w base sp held n t cs=some x → ∃ y:T,ty.is y∧qJu w y.cells cs){cs:List Value} :
  ∀ (fs:List Ty) (gs:List Field) (off:Nat),Ty.okF P fs gs off=true→off+Ty.sizeL fs=cs.length→(∀ g∈gs,∃ x,DataW.trod enc P w base sp held n g.type ((cs.drop g.offset).take (P.cellsOf g.type))=some x)→
   ∃ ds,Ty.isL fs ds∧qJu w ds (cs.drop off)
 | [],[],off,_,hl,_=>⟨[],rfl,by
   have:cs.drop off=[]:=List.drop_eq_nil_of_le (by simp only[Ty.sizeL] at hl;omega);rw[this];exact qJu.nil⟩
 | [],_::_,_,h,_,_=>by simp[Ty.okF] at h
 | _::_,[],_,h,_,_=>by simp[Ty.okF] at h
 | f::r,g::gs,off,h,hl,hg=>by
  simp only[Ty.okF,Bool.and_eq_true] at h;obtain⟨⟨⟨h1,h2⟩,h3⟩,h4⟩:=h;have e1:=Nat.eq_of_beq_eq_true h1;have e2:=Nat.eq_of_beq_eq_true h2;simp only[Ty.sizeL] at hl;obtain⟨ds,hd1,hd2⟩:=qWb n IH r gs (off+f.size) h4 oM (fun g' hg'=>hg g' (.tail _ hg'));obtain⟨x,hx⟩:=hg g (.head _);rw[e1,e2] at hx;obtain⟨y,hy1,hy2⟩:=IH f g.type _ x h3 soM hx;refine⟨y.cells++ds,⟨y,ds,hy1,hd1,rfl⟩,?_⟩;have e3:cs.drop off=(cs.drop off).take f.size++cs.drop (off+f.size):=by
   rw[←List.drop_drop,List.take_append_drop]
  rw[e3];exact hy2.app hd2
theorem qZv (n:Nat)(IH : ∀ (ty:Ty) (t:TypeId) (cs:List Value) (x:DataW H×List MemPlace),ty.ok P t=true→cs.length=ty.size→DataW.trod enc P w base sp held n t cs=some x → ∃ y:T,ty.is y∧qJu w y.cells cs){cs:List Value}{te:TypeId} :
  ∀ (fs:List Ty) (i:Nat),Ty.okA P fs te=true→i*P.cellsOf te+Ty.sizeL fs=cs.length→(∀ j,j<fs.length → ∃ x,DataW.trod enc P w base sp held n te ((cs.drop ((i+j)*P.cellsOf te)).take (P.cellsOf te))=some x)→
   ∃ ds,Ty.isL fs ds∧qJu w ds (cs.drop (i*P.cellsOf te))
 | [],i,_,hl,_=>⟨[],rfl,by
   have:cs.drop (i*P.cellsOf te)=[]:=List.drop_eq_nil_of_le (by simp only[Ty.sizeL] at hl;omega);rw[this];exact qJu.nil⟩
 | f::r,i,h,hl,hg=>by
  simp only[Ty.okA,Bool.and_eq_true] at h;obtain⟨⟨h3,h2⟩,h4⟩:=h;have e2:=Nat.eq_of_beq_eq_true h2;simp only[Ty.sizeL] at hl;have e4:(i+1)*P.cellsOf te=i*P.cellsOf te+f.size:=by rw[Nat.add_mul,Nat.one_mul,e2]
  obtain⟨ds,hd1,hd2⟩:=qZv n IH (cs:=cs) r (i+1) h4 (by rw[e4];omega) (fun j hj=>by
   have:=hg (j+1) soM;rw[show i+1+j=i+(j+1) by omega];exact this)
  obtain⟨x,hx⟩:=hg 0 sM;rw[Nat.add_zero,e2,←e2] at hx;obtain⟨y,hy1,hy2⟩:=IH f te _ x h3 (by rw[e2] at hl ⊢;rw[List.length_take,List.length_drop];omega) hx;refine⟨y.cells++ds,⟨y,ds,hy1,hd1,rfl⟩,?_⟩;have e3:cs.drop (i*P.cellsOf te)=(cs.drop (i*P.cellsOf te)).take (P.cellsOf te)++cs.drop ((i+1)*P.cellsOf te):=by
   rw[e4,←e2,←List.drop_drop,List.take_append_drop]
  rw[e3];exact hy2.app hd2
theorem qZw : ∀ (n:Nat) (ty:Ty) (t:TypeId) (cs:List Value) (x:DataW H×List MemPlace),ty.ok P t=true→cs.length=ty.size→DataW.trod enc P w base sp held n t cs=some x → ∃ y:T,ty.is y∧qJu w y.cells cs:=by
 intro n
 induction n with
 | zero=>intro ty t cs x _ _ h;simp[DataW.trod] at h
 | succ n IH=>
  intro ty t cs x hty hlen h;cases ty with
  | int k=>
   obtain⟨m,rfl,_,hw⟩:=DataW.trod_int (zZs hty) h;exact⟨.int k m,⟨m,hw,rfl⟩,.one1 rfl (.int k m)⟩
  | bool=>
   simp only[Ty.ok] at hty;split at hty
   ·rename_i hu;obtain⟨b,rfl,_⟩:=DataW.trod_bool hu h;exact⟨.bool b,⟨b,rfl⟩,.one1 rfl (.bool b)⟩
   ·cases hty
  | str=>
   simp only[Ty.ok] at hty;split at hty
   ·rename_i hu;obtain⟨s,rfl,_,hs⟩:=DataW.trod_string hu h;exact⟨.str s,⟨s,hs,rfl⟩,.one1 rfl (.str s)⟩
   ·cases hty
  | sl e=>
   simp only[Ty.ok] at hty;split at hty
   ·rename_i te hu;simp only[Bool.and_eq_true] at hty;obtain⟨⟨h1,h2⟩,h3⟩:=hty;have e2:=Nat.eq_of_beq_eq_true h2;have e3:=Nat.le_of_ble_eq_true h3;rcases DataW.trod_slice hu h with⟨rfl,_⟩ | ⟨a,len,cap,elems,rest,m,hm,rfl,_,_,hlc,hcm,hel,hget,_,_⟩
    ·exact⟨.sl [],⟨[],sM,sM,rfl⟩,.one1 rfl .nil⟩
    ·cases hm;have hcells : ∀ i,i<len → ∃ y:T,e.is y ∧ ∃ cs',qJu w y.cells cs'∧cs'.length=e.size ∧ ∀ j,j<e.size→w.cell? ((a.add (i*e.size)).add j)=cs'[j]?:=by
      intro i hi;have hg:=hget i hi;have:elems[i]?=some elems[i]:=List.getElem?_eq_getElem oM;rw[this,Option.bind_eq_some_iff] at hg;obtain⟨cs',hc,ht⟩:=hg;obtain⟨_,hl,hcell⟩:=World.cells?_some hc;rw[e2] at hl hcell;obtain⟨y,hy1,hy2⟩:=IH e te cs' _ h1 hl ht;exact⟨y,hy1,cs',hy2,hl,hcell⟩
     obtain⟨es,hes,hq⟩:=zEu len hcells;have hz : ∀ y∈es,y.cells.length=e.size:=fun y hy=>by
      obtain⟨i,hi⟩:=List.getElem?_of_mem hy;exact e.is_size y (hq i y hi).1
     have hcellk : ∀ k,k<len*e.size → ∃ (i j:Nat) (y:T) (cs':List Value) (u:Value),k=i*e.size+j∧j<e.size∧es[i]?=some y∧qJu w y.cells cs'∧cs'[j]?=some u∧w.cell? (a.add k)=some u:=by
      intro k hk;have hi:k/e.size<len:=(Nat.div_lt_iff_lt_mul oM).2 hk;have hj:k%e.size<e.size:=Nat.mod_lt _ oM;have hy:es[k/e.size]?=some es[k/e.size]:=List.getElem?_eq_getElem oM;obtain⟨_,cs',hr,hl,hc⟩:=hq _ _ hy;have hu:cs'[k%e.size]?=some cs'[k%e.size]:=List.getElem?_eq_getElem oM;have ek:k=k/e.size*e.size+k%e.size:=by rw[Nat.mul_comm];exact (Nat.div_add_mod k e.size).symm
      refine⟨_,_,_,cs',_,ek,hj,hy,hr,hu,?_⟩;rw[←hu,←hc _ hj,Addr.add_add,←ek]
     refine⟨.sl es,⟨es,oM,fun y hy=>?_,rfl⟩,.one1 rfl ?_⟩
     ·obtain⟨i,hi⟩:=List.getElem?_of_mem hy;exact (hq i y hi).1
     ·have hnl:((List.range (len*e.size)).map fun k=>(w.cell? (a.add k)).getD default).length=len*e.size:=sM;have hnews : ∀ k u,((List.range (len*e.size)).map fun k=>(w.cell? (a.add k)).getD default)[k]?=some u→k<len*e.size∧w.cell? (a.add k)=some u:=by
       intro k u hu;have hk:k<len*e.size:=by
        rcases Nat.lt_or_ge k (len*e.size) with h | h
        ·exact h
        ·rw[List.getElem?_eq_none oM] at hu;cases hu
       obtain⟨_,_,_,_,u',_,_,_,_,_,hc⟩:=hcellk k hk;rw[List.getElem?_map,List.getElem?_range hk,Option.map_some,hc,Option.getD_some,Option.some.injEq] at hu;subst hu;exact⟨hk,hc⟩
      have h0:es≠[]→a.block<w.heap.size∧a.spot=none:=by
       intro hne;have hlp:0<len:=by
        rw[←hes];exact List.length_pos_iff.2 hne
       obtain⟨_,_,_,_,u',_,_,_,_,_,hc⟩:=hcellk 0 (Nat.mul_pos hlp oM);have e9:a.add 0=a:=by simp[Addr.add]
       rw[e9] at hc;exact zDs hc
      have key:=Rep.sl (F:=fun b=>b<w.heap.size) (w:=w) es a cap e.size _ (fun hne=>(h0 hne).2) oM (by rw[hes];exact hnl) (fun u hu=>by
       obtain⟨k,hk⟩:=List.getElem?_of_mem hu;obtain⟨hk1,hk2⟩:=hnews k u hk;obtain⟨_,_,_,cs',u',_,_,_,hr,hcu,hc⟩:=hcellk k hk1;rw[hk2] at hc;cases hc;exact hr.one u (List.mem_of_getElem? hcu)) (fun hne=>(h0 hne).1) (fun k u hk=>(hnews k u hk).2) hz
       (fun i y j c u hy hc hu=>by
        obtain⟨hk1,hk2⟩:=hnews _ u hu;obtain⟨i',j',y',cs',u',e1,hj',hy',hr,hcu,hc'⟩:=hcellk _ hk1;rw[hk2] at hc';cases hc';have hj:j<e.size:=by rw[←hz y (List.mem_of_getElem? hy)];exact (List.getElem?_eq_some_iff.1 hc).1
        have ei:i=i'∧j=j':=by
         have h5:=congrArg (· / e.size) e1;have h6:=congrArg (· % e.size) e1;simp only[Nat.mul_comm _ e.size,Nat.mul_add_div (show 0<e.size by omega),Nat.mul_add_mod,Nat.div_eq_of_lt hj,Nat.div_eq_of_lt hj',Nat.mod_eq_of_lt hj,Nat.mod_eq_of_lt hj'] at h5 h6;exact⟨oM,h6⟩
        obtain⟨rfl,rfl⟩:=ei;rw[hy] at hy';cases hy';exact hr.rep j c u hc hcu)
      rw[hes] at key;exact key
   ·cases hty
  | st fs=>
   simp only[Ty.ok,Bool.and_eq_true] at hty;obtain⟨h0,hty⟩:=hty;have e0:=Nat.eq_of_beq_eq_true h0;split at hty
   ·rename_i gs hu;obtain⟨xs,m,hm,_,hl,hxl,hget⟩:=DataW.trod_struct hu h;cases hm;obtain⟨ds,hd1,hd2⟩:=qWb n IH (cs:=cs) fs gs.toList 0 hty oM (fun g hg=>by
     obtain⟨i,hi⟩:=List.getElem?_of_mem hg;have hi':gs[i]?=some g:=by simpa using hi
     have hlt:i<xs.length:=by rw[hxl];exact (Array.getElem?_eq_some_iff.1 hi').1
     exact⟨xs[i],by rw[hget i g hi'];exact List.getElem?_eq_getElem hlt⟩)
    rw[List.drop_zero] at hd2;exact⟨.agg ds,⟨ds,hd1,rfl⟩,hd2⟩
   ·rename_i m te hu;simp only[Bool.and_eq_true] at hty;have e5:=Nat.eq_of_beq_eq_true hty.1;obtain⟨xs,m',hm,_,hl,hxl,hget⟩:=DataW.trod_array hu h;cases hm;obtain⟨ds,hd1,hd2⟩:=qZv n IH (cs:=cs) fs 0 hty.2 oM (fun j hj=>by
     have hlt:j<xs.length:=oM;rw[Nat.zero_add];exact⟨xs[j],by rw[hget j oM];exact List.getElem?_eq_getElem hlt⟩)
    rw[Nat.zero_mul,List.drop_zero] at hd2;exact⟨.agg ds,⟨ds,hd1,rfl⟩,hd2⟩
   ·cases hty
theorem zMv {ty:Ty}{t:TypeId}{v:Value}{d:DataW H}{ps:List MemPlace}{b0:Nat}(hty:ty.ok P t=true)(hval:Value.okWide P w .any b0 t v)(h:DataW.Trod enc P w base sp held t v d ps) :
  ∃ y:T,ty.is y∧Rep (fun b=>b<w.heap.size) w y v:=by
 obtain⟨n,hn⟩:=h;have scalar : ∀ c,v=c→c.cells = #[c]→ty.size=1→(∀ y:T,ty.is y→y.cells=[y]) → ∃ y:T,ty.is y∧Rep (fun b=>b<w.heap.size) w y v:=by
  intro c hv hc hs hy;subst hv;rw[hc] at hn;obtain⟨y,h1,h2⟩:=qZw n ty t _ _ hty (by rw[hs];rfl) hn;rw[hy y h1] at h2;exact⟨y,h1,h2.rep 0 y v rfl rfl⟩
 cases ty with
 | int k=>
  obtain⟨m,hv⟩:=okWide_int (zZs hty) hval;exact scalar _ hv rfl rfl (fun y hy=>by obtain⟨_,_,rfl⟩:=hy;rfl)
 | bool=>
  simp only[Ty.ok] at hty;split at hty
  ·rename_i hu;obtain⟨m,hv⟩:=okWide_bool hu hval;exact scalar _ hv rfl rfl (fun y hy=>by obtain⟨_,rfl⟩:=hy;rfl)
  ·cases hty
 | str=>
  simp only[Ty.ok] at hty;split at hty
  ·rename_i hu;obtain⟨m,hv⟩:=okWide_string hu hval;exact scalar _ hv rfl rfl (fun y hy=>by obtain⟨_,_,rfl⟩:=hy;rfl)
  ·cases hty
 | sl e=>
  have hty':=hty;simp only[Ty.ok] at hty';split at hty'
  ·rename_i te hu;obtain⟨a,l,c,hv⟩:=okWide_slice hu hval;exact scalar _ hv rfl rfl (fun y hy=>by obtain⟨_,_,_,rfl⟩:=hy;rfl)
  ·cases hty'
 | st fs=>
  have hagg : ∃ cs,v = .agg cs∧cs.size=P.cellsOf t:=by
   have hty':=hty;simp only[Ty.ok,Bool.and_eq_true] at hty';obtain⟨_,h2⟩:=hty';unfold Value.okWide at hval;split at h2
   ·rename_i hu;rw[hu] at hval;obtain⟨cs,h3,h4,_⟩:=hval;exact⟨cs,h3,h4⟩
   ·rename_i hu;rw[hu] at hval;obtain⟨cs,h3,h4,_⟩:=hval;exact⟨cs,h3,h4⟩
   ·cases h2
  obtain⟨cs,rfl,hsz⟩:=hagg;have hsz2:cs.size=Ty.sizeL fs:=by
   simp only[Ty.ok,Bool.and_eq_true] at hty;rw[hsz];exact Nat.eq_of_beq_eq_true hty.1
  obtain⟨y,h1,h2⟩:=qZw n (.st fs) t _ _ hty (by show cs.toList.length=Ty.sizeL fs;simpa using hsz2) hn;obtain⟨ds,h3,rfl⟩:=h1;refine⟨.agg ds,⟨ds,h3,rfl⟩,.agg ds cs ?_ ?_ ?_⟩
  ·have:=h2.len;simpa [Value.cells,T.cells] using this.symm
  ·intro u hu;exact h2.one u (by simpa [Value.cells] using hu)
  ·intro i c u hc hu;exact h2.rep i c u hc (by simpa [Value.cells] using hu)
theorem zEr : ∀ {tys:List Ty} {ts:List TypeId} {vs:List Value} {ds:List (DataW H)} {ps:List MemPlace} {b0:Nat},qBn (fun (ty:Ty) (t:TypeId)=>ty.ok P t=true) tys ts→
  (∀ (j:Nat) t v,ts[j]?=some t→vs[j]?=some v→Value.okWide P w .any b0 t v)→DataW.TrodAll enc P w base sp held ts vs ds ps→
  ∃ ys:List T,qBn (fun (ty:Ty) (y:T)=>ty.is y) tys ys∧qBn (qY (fun _=>none) (fun b=>b<w.heap.size) w) (ys.map V.t) vs
 | [],ts,vs,ds,ps,b0,h,hv,hd=>by
  cases h;obtain⟨rfl,_,_⟩:=trodAll_nil hd;exact⟨[],.nil,.nil⟩
 | ty::tys,ts,vs,ds,ps,b0,h,hv,hd=>by
  cases h with
  | cons h1 h2=>
   obtain⟨v,vs',d,ds',p,q,rfl,rfl,rfl,hd1,hd2⟩:=trodAll_cons hd;obtain⟨y,hy1,hy2⟩:=zMv h1 (hv 0 _ v rfl rfl) hd1;obtain⟨ys,h3,h4⟩:=zEr h2 (fun j t v' ht hv'=>hv (j+1) t v' ht hv') hd2;exact⟨y::ys,.cons hy1 h3,.cons (.t hy2) h4⟩
end
end Go.Eng
end
section
set_option maxRecDepth 20000
namespace Go.Eng
open Go.ChangeShapes Go.WideShapes Go.RowKit Go.WideElems
section
variable {H:Type} {enc:TypeId×Value→H} {P:Program}
theorem zIb {W W':World}(hfr : ∀ b,b<W.heap.size→W'.heap[b]?=W.heap[b]?){p:MemPlace}(hp:p.block<W.heap.size):W.sameAt W' p:=by
 cases p with
 | cell b off=>exact World.cell?_of_block (hfr b hp)
 | map b=>exact hfr b hp
theorem zDm (hl:laidOutB P=true){W W':World}(hfr : ∀ b,b<W.heap.size→W'.heap[b]?=W.heap[b]?){sp:Nat→Bool} :
  ∀ {ts:List TypeId} {vs:List Value} {ds:List (DataW H)} {ps:List MemPlace},(∀ t∈ts,P.readableRec t=true∧t<P.types.size)→(∀ p∈ps,p.block<W.heap.size∧sp p.block=true)→
   DataW.TrodAll enc P W 0 (fun _=>true) true ts vs ds ps→DataW.TrodAll enc P W' 0 sp true ts vs ds ps
 | [],vs,ds,ps,_,_,h=>by
  obtain⟨rfl,rfl,rfl⟩:=trodAll_nil h;exact trodAll_mk0
 | t::ts,vs,ds,ps,ht,hp,h=>by
  obtain⟨v,vs',d,ds',p,q,rfl,rfl,rfl,h1,h2⟩:=trodAll_cons h;obtain⟨hr,hrow⟩:=ht t (.head _);exact⟨p,q,Trod_stays hl hr hrow h1 (fun x hx=>zIb hfr (hp x (List.mem_append_left _ hx)).1) (fun x hx=>(hp x (List.mem_append_left _ hx)).2),
   zDm hl hfr (fun t' ht'=>ht t' (.tail _ ht')) (fun x hx=>hp x (List.mem_append_right _ hx)) h2,rfl⟩
theorem zVo {fn:Func}{s:ChangeSpec}{tb:TypeId}{apart fresh handsOn again:Bool}{W W':World}{args:Array Value}{ds gs:List (DataW H)}{before:List MemPlace}
  (hl:laidOutB P=true) (hts : ∀ t∈fn.params.toList,P.readableRec t=true∧t<P.types.size) (hrt:fn.resultTypes = #[tb]) (hb:P.underlying tb=some .bool) (hsv:s.vars=[])
  (hfn:(s.fn H (ds++gs)).results=[.lit (.bool true)]∧(s.fn H (ds++gs)).args=ds∧(s.fn H (ds++gs)).vars=[])
  (hW:DataW.Whole enc P fn.params.toList s.vars apart W args.toList ds gs before)
  (hos:W'.os=W.os) (hout:W'.output=W.output) (hfr : ∀ b,b<W.heap.size→W'.heap[b]?=W.heap[b]?) :
  s.post enc P fn apart fresh handsOn again W args (.bool true) W':=by
 have hlt : ∀ p∈before,p.block<W.heap.size:=fun p hp=>hW.lt p hp
 have hW':=hW;obtain⟨p,q,hA,hV,rfl,hz,hn⟩:=hW';rw[hsv] at hV;obtain⟨rfl,rfl⟩:=trodVars_none hV;have hres : ∀ (b:Nat) (sp:Nat→Bool) (hd:Bool),DataW.TrodAll enc P W' b sp hd fn.resultTypes.toList ((Value.bool true).resultList fn.resultTypes.size) (s.fn H (ds++[])).results []:=by
  intro b sp hd;rw[hrt,hfn.1];exact trodAll_mk1 (shut_bool hb true)
 have hargs : ∀ sp:Nat→Bool,(∀ x∈p++[],sp x.block=true)→DataW.TrodAll enc P W' 0 sp true fn.params.toList args.toList (s.fn H (ds++[])).args p:=by
  intro sp hsp;rw[hfn.2.1];exact zDm hl hfr hts (fun x hx=>⟨hlt x (by simpa using hx),hsp x (by simpa using hx)⟩) hA
 have hvars : ∀ sp:Nat→Bool,DataW.TrodVars enc P W' sp s.vars (s.fn H (ds++[])).vars []:=by
  intro sp;rw[hsv,hfn.2.2];rfl
 refine⟨ds,[],_,[],p,[],hW,hres _ _ _,hargs _ (fun x hx=>by simpa using hlt x hx),hvars _,⟨hos,hout,fun i hi=>?_⟩,fun _=>?_⟩
 ·have e:=hfr i hi;revert e;generalize W'.heap[i]?=o';intro e;subst e;split
  ·rename_i h1 h2;rw[h1] at h2;cases h2;exact⟨rfl,rfl,rfl,fun _ _=>rfl⟩
  ·rename_i h1 h2;rw[h1] at h2;cases h2;exact .inr ⟨rfl,rfl⟩
  ·rfl
 ·refine⟨ok_one hrt rfl (okWide_bool_mk hb _),_,_,([]++p)++[],⟨[]++p,[],trodAll_append (hargs _ (fun _ _=>rfl)) (hres _ _ _),hvars _,rfl,?_,?_⟩,?_⟩
  ·intro b off hx;have hx':MemPlace.cell b off∈p++[]:=by simpa using hx
   have e:W'.frozen? ⟨b,off,none⟩=W.frozen? ⟨b,off,none⟩:=by
    unfold World.frozen?;rw[hfr b (hlt _ hx')]
   rw[e];exact hz b off hx'
  ·intro ha;have:=hn ha;simpa using this
  ·intro x hx _;simpa using hx
theorem zEe {w:World} : ∀ {laid:List (String×DataW Unit)} {ps:List MemPlace},DataW.LaidVars P w laid ps → ∀ x∈laid,∃ g t cs fuel p,P.globalNamed x.1=some g∧(P.globals[g]?).map (·.type)=some t∧w.var? P x.1=some cs∧
   DataW.trod (fun _=>()) P w 0 (fun _=>true) false fuel t cs.toList=some (x.2,p)
 | [],_,_,x,hx=>by cases hx
 | y::r,ps,h,x,hx=>by
  obtain⟨g,t,cs,fuel,p,q,h1,h2,h3,h4,h5,_⟩:=h;rcases List.mem_cons.1 hx with rfl | hx
  ·exact⟨g,t,cs,fuel,p,h1,h2,h3,h4⟩
  ·exact zEe h5 x hx
theorem jEp {w:World}{nm:String}{g t e n:Nat}{k:IntKind}{ns:List Int}{cs:Array Value}{fuel:Nat}{p:List MemPlace}{F:Nat→Prop}(hg:P.globalNamed nm=some g)(hv:w.var? P nm=some cs)
  (ht:P.underlying t=some (.array n e)) (he:P.underlying e=some (.int k)) (hc:P.cellsOf e=1) (hct:P.cellsOf t=n) (hn:0<ns.length)
  (h:DataW.trod (fun _=>()) P w 0 (fun _=>true) false fuel t cs.toList=some (.agg (ns.map fun m=> .lit (.int k m)),p)) (hF:g<w.heap.size→F g) :
  qY (fun _=>none) F w (.ro (ns.map (T.int k))) (.pointer (some ⟨g,0,none⟩)):=by
 obtain⟨xs,m,_,hx,hl,hxl,hget⟩:=DataW.trod_array ht h;simp only[Prod.mk.injEq,DataW.agg.injEq] at hx;have hlen:ns.length=n:=by
  have:=congrArg List.length hx.1;simp only[List.length_map] at this;omega
 have hcl:cs.toList.length=n:=by rw[hl,hct]
 have hcell : ∀ i,i<n→cs.toList[i]?=some (.int k (ns.getD i 0)):=by
  intro i hi;have h1:=hget i hi;have h2:xs[i]?=some xs[i]:=List.getElem?_eq_getElem oM;rw[h2,hc,Nat.mul_one] at h1;obtain⟨z,hz1,hz2,_⟩:=DataW.trod_int he h1;have h3:cs.toList[i]?=some (.int k z):=by
   have h4:=congrArg (fun l=>l[0]?) hz1;simp only[List.getElem?_take,List.getElem?_drop,Nat.add_zero,List.getElem?_cons_zero] at h4;simpa using h4
  have h5:=congrArg (fun l=>l[i]?) hx.1;simp only[List.getElem?_map,h2,oms,hz2] at h5;have h6:ns[i]?=some ns[i]:=List.getElem?_eq_getElem oM;rw[h6] at h5;simp only[oms,Option.some.injEq,DataW.lit.injEq,Lit.int.injEq,true_and] at h5;rw[h3,List.getD_eq_getElem?_getD,h6,h5];rfl
 have hw : ∀ j,w.cell? ((⟨g,0,none⟩:Addr).add j)=cs.toList[j]?:=by
  intro j;have e:(⟨g,0,none⟩:Addr).add j=⟨g,j,none⟩:=by
   unfold Addr.add;split
   ·rename_i h0;rw[h0]
   ·simp
  rw[e,World.var?_cell hg hv j,Array.getElem?_toList]
 refine .ro (ns.map (T.int k)) ⟨g,0,none⟩ cs.toList rfl (by rw[hcl,List.length_map,hlen]) ?_ (hF ?_) (fun j u hu=>(hw j).trans hu) ?_
 ·intro u hu;obtain⟨i,hi⟩:=List.getElem?_of_mem hu;rw[hcell i (by rw[←hcl];exact (List.getElem?_eq_some_iff.1 hi).1)] at hi;cases hi;rfl
 ·have h0:=hw 0;rw[hcell 0 oM] at h0;have:=(zDs h0).1;rw[qE2] at this;exact this
 ·intro j c u hcj hu;rw[List.getElem?_map,Option.map_eq_some_iff] at hcj;obtain⟨z,hz,rfl⟩:=hcj;rw[hcell j (by rw[←hlen];exact (List.getElem?_eq_some_iff.1 hz).1)] at hu;cases hu;rw[List.getD_eq_getElem?_getD,hz];exact .int k z
theorem jCj {w:World}{nm:String}{g t e n:Nat}{k:IntKind}{ns:List Int}{cs:Array Value}{fuel:Nat}{p:List MemPlace}(hg:P.globalNamed nm=some g)(hv:w.var? P nm=some cs)
  (ht:P.underlying t=some (.array n e)) (hct:P.cellsOf t=n)
  (h:DataW.trod (fun _=>()) P w 0 (fun _=>true) false fuel t cs.toList=some (.agg (ns.map fun m=> .lit (.int k m)),p)):GSz w g (ns.map (T.int k)).length:=by
 obtain⟨xs,m,_,hx,hl,hxl,hget⟩:=DataW.trod_array ht h;simp only[Prod.mk.injEq,DataW.agg.injEq] at hx;have hlen:ns.length=n:=by
  have:=congrArg List.length hx.1;simp only[List.length_map] at this;omega
 have hcl:cs.toList.length=n:=by rw[hl,hct]
 unfold World.var? at hv;rw[hg,Option.bind_some] at hv;split at hv
 ·rename_i c e z hc;cases hv;exact⟨_,e,z,hc,by rw[List.length_map,hlen,←hcl];simp⟩
 ·cases hv
theorem qMu {w:World}{base:Nat}{sp:Nat→Bool}{held:Bool} : ∀ {ts:List TypeId} {vs:List Value} {ds:List (DataW H)} {ps:List MemPlace},DataW.TrodAll enc P w base sp held ts vs ds ps→ds.length=ts.length
 | [],_,_,_,h=>by obtain⟨rfl,rfl,rfl⟩:=trodAll_nil h;rfl
 | _::_,_,_,_,h=>by
  obtain⟨_,_,_,_,_,_,rfl,rfl,rfl,_,h2⟩:=trodAll_cons h;simp[qMu h2]
end
theorem qZr {H:Type}{enc:TypeId×Value→H}{C:Checked}{os:Os}{f:FuncId}{fn:Func}{s:ChangeSpec}{laid:List (String×DataW Unit)}{tys:List Ty}{G:Nat→Option (List T)}{tb:TypeId}{apart fresh handsOn again:Bool}
  (own:ownKnob C.prog.godebug=none) (started:os.Started) (noInit:C.prog.inits.idxOf? f=none) (hfn:C.prog.funcs[f]?=some fn)
  (witness : ∃ (w:World) (tape:Tape) (i:Input),w.os=os∧(w.forCall tape i).Shaped C.prog∧i.vars=[]∧Input.okWide C.prog (w.forCall tape i) .any w.heap.size f i∧
   ((s.pre enc C.prog fn [] apart (w.forCall tape i).memory i.args∧laidMetH C.prog laid (w.forCall tape i).memory)∧sizedMet enc C.prog fn (OpenSpec.ofChange s) apart (w.forCall tape i).memory i.args)∧({}:Assume).holds C.prog (lone (Frame.enter C.prog f i.args .normal) [] (w.forCall tape i)))
  (hl:laidOutB C.prog=true) (hts:fn.params.toList.all (fun t=>C.prog.readableRec t&&Nat.blt t C.prog.types.size)=true) (hrt:fn.resultTypes = #[tb]) (hb:C.prog.underlying tb=some .bool) (hsv:s.vars=[])
  (hspec : ∀ ds:List (DataW H),ds.length=tys.length→(s.fn H ds).results=[.lit (.bool true)]∧(s.fn H ds).args=ds∧(s.fn H ds).vars=[])
  (htys:qBn (fun (ty:Ty) (t:TypeId)=>ty.ok C.prog t=true) tys fn.params.toList)
  (henv : ∀ W,laidMetH C.prog laid W→zOi G (fun b=>b<W.heap.size) W)
  (hlaw : ∀ ys,qBn (fun (ty:Ty) (y:T)=>ty.is y) tys ys→zG1 C.prog G f (ys.map V.t) [] (.t (.bool true)) []) :
  ReturnsInHanded {} C os f .any (fun w args=>(s.pre enc C.prog fn [] apart w args∧laidMetH C.prog laid w)∧sizedMet enc C.prog fn (OpenSpec.ofChange s) apart w args) (s.post enc C.prog fn apart fresh handsOn again):=by
 have hts' : ∀ t∈fn.params.toList,C.prog.readableRec t=true∧t<C.prog.types.size:=by
  intro t ht;have:=List.all_eq_true.1 hts t ht;rw[Bool.and_eq_true] at this;exact⟨this.1,by simpa [Nat.blt_eq] using this.2⟩
 refine returnsInHanded_of_change_and (C:=C) (X:=fun w _=>laidMetH C.prog laid w) (fun _ _ _ hh h=>laidMetH.of_heap hh h) own started noInit hfn witness ?_;intro W base args ds gs before hval hW _ _ hL _;have hW':=hW;obtain⟨p,q,hA,hV,rfl,_,_⟩:=hW';rw[hsv] at hV;obtain⟨rfl,rfl⟩:=trodVars_none hV;obtain⟨ys,hys,hreps⟩:=zEr htys (fun j t v ht hv=>hval j t v (by simpa using ht) (by simpa using hv)) hA;have hlen:ds.length=tys.length:=by rw[qMu hA,htys.length]
 have hcall:=hlaw ys hys W (fun _=>none) (fun b=>b<W.heap.size) args (henv W hL)
  ⟨fun k o h=>by simp at h,fun _ _=>rfl,fun _ _ _ _ _ h=>by simp at h,fun _ _ _ h=>by simp at h⟩ hreps
 refine hcall.mono fun e W' ⟨x,β',F',he,hp⟩=>?_
 subst he;have hx:x = .bool true:=by
  have:=hp.res;cases this with
  | t h=>cases h;rfl
 subst hx;exact⟨_,rfl,zVo hl hts' hrt hb hsv (by rw[List.append_nil];exact hspec ds hlen) hW hp.os hp.output (fun b hb=>hp.frame b hb (fun _ _ h=>by simp at h))⟩
end Go.Eng
end
section
set_option maxRecDepth 100000
namespace Go.Proofs.YtekghmfbgbhobaaGreatDoor
open Go.Eng Go.ChangeShapes Go.WideShapes Go.ChangeAt Go.WideElems Go.RowKit
def qL0 {H:Type}:List (String×DataW H):=[("sealwright/digest.round256",Rows.laid_sealwright_digest_round256)]
theorem jK0:ownKnob Tryz.prog.godebug=none:=by kernel_rfl
theorem zE3:laidOutB Tryz.prog=true:=by kernel_rfl
theorem jXc:Tryz.prog.globalNamed "sealwright/digest.round256" = some 1:=by kernel_rfl
theorem jEs:(Rows.laid_sealwright_digest_round256:DataW Unit) = .agg ((zDi.map fun x=>(x.toNat:Int)).map fun m=> .lit (.int .u32 m)):=by rfl
theorem jXd (W:World){ps:List MemPlace}(hv:DataW.LaidVars Tryz.prog W qL0 ps):qY (fun _=>none) (fun b=>b<W.heap.size) W (.ro (zDi.map jE)) (.pointer (some ⟨1,0,none⟩))∧GSz W 1 (zDi.map jE).length:=by
 obtain⟨g,t,cs,fuel,p,h1,h2,h3,h4⟩:=zEe hv _ (.head _);obtain rfl:=Option.some.inj (jXc.symm.trans h1);obtain rfl:=Option.some.inj ((show (Tryz.prog.globals[1]?).map (·.type)=some 170 by kernel_rfl).symm.trans h2);have h4':DataW.trod (fun _=>()) Tryz.prog W 0 (fun _=>true) false fuel 170 cs.toList=some (.agg ((zDi.map fun x=>(x.toNat:Int)).map fun m=> .lit (.int .u32 m)),p):=by rw[←jEs];exact h4
 have e:(zDi.map fun x=>(x.toNat:Int)).map (T.int .u32)=zDi.map jE:=by rw[List.map_map];rfl
 rw[←e];exact⟨jEp (F:=fun b=>b<W.heap.size) h1 h3 Tryz.underlying170 Tryz.underlying161 (by kernel_rfl) (by kernel_rfl) (by decide) h4' (fun h=>h),jCj h1 h3 Tryz.underlying170 (by kernel_rfl) h4'⟩
theorem jKw (W:World){ps:List MemPlace}(hv:DataW.LaidVars Tryz.prog W qL0 ps)(g:Nat)(cs:List T)(hg:gl0 g=some cs):qY (fun _=>none) (fun b=>b<W.heap.size) W (.ro cs) (.pointer (some ⟨g,0,none⟩))∧GSz W g cs.length:=by
 unfold gl0 at hg;split at hg
 ·rename_i h0;subst h0;cases hg;exact jXd W hv
 ·cases hg
theorem jKy (W:World)(h:laidMetH Tryz.prog qL0 W):zOi gl0 (fun b=>b<W.heap.size) W:=by
 rw[MakeChecks.laidMetH_plain _ _ _ (by kernel_rfl)] at h;obtain⟨ps,hv,_⟩:=h;exact⟨fun _ h=>h,fun g cs hg=>(jKw W hv g cs hg).1,fun g cs hg=>(jKw W hv g cs hg).2⟩
abbrev jP1:TypeId:=4
theorem jAn:Tryz.prog.underlying jP1=some .bool:=Tryz.underlying4
theorem zLl (os:Os)(args:Array Value):((World.doorLaid Tryz.prog 400 os).forCall (fun _ _=>0) ⟨#[],args,[]⟩).Shaped Tryz.prog:=World.shaped_of_RefB (by kernel_rfl) (by kernel_rfl)
theorem zKr (os:Os)(args:Array Value):laidMetH Tryz.prog qL0 ((World.doorLaid Tryz.prog 400 os).forCall (fun _ _=>0) ⟨#[],args,[]⟩).memory:=
 laidMetH_of_parts3 (fuel:=8) (laidMet_of_run' 8 (by kernel_rfl) (by kernel_rfl)) (by kernel_rfl) (by kernel_rfl)
end Go.Proofs.YtekghmfbgbhobaaGreatDoor
end
section
set_option maxRecDepth 20000
namespace Go.Eng
theorem qTk {y:T}(h:(Ty.int .i64).is y) : ∃ n:Int,(-9223372036854775808≤n∧n<9223372036854775808)∧y = .int .i64 n:=by
 obtain⟨n,hw,rfl⟩:=h;refine⟨n,?_,rfl⟩;simp only[Lit.wf,Bool.and_eq_true,decide_eq_true_eq] at hw;obtain⟨h1,h2⟩:=hw;have e1:IntKind.i64.min = -9223372036854775808:=by decide
 have e2:IntKind.i64.max=9223372036854775807:=by decide
 rw[e1] at h1;rw[e2] at h2;omega
theorem jIo {y:T}(h:(Ty.int .u8).is y) : ∃ b:UInt8,y=qA b:=by
 obtain⟨n,hw,rfl⟩:=h;simp only[Lit.wf,Bool.and_eq_true,decide_eq_true_eq] at hw;obtain⟨h1,h2⟩:=hw;have e1:IntKind.u8.min=0:=by decide
 have e2:IntKind.u8.max=255:=by decide
 rw[e1] at h1;rw[e2] at h2;refine⟨UInt8.ofNat n.toNat,?_⟩;unfold qA;congr 1;rw[UInt8.toNat_ofNat'];omega
theorem zQq {y:T}(h:Ty.bool.is y) : ∃ b:Bool,y = .bool b:=h
theorem zQy {α:Type}{f:α→T}{es:List T}(h : ∀ y∈es,∃ a,y=f a) : ∃ l:List α,es=l.map f:=by
 induction es with
 | nil=>exact⟨[],rfl⟩
 | cons y r ih=>
  obtain⟨a,rfl⟩:=h y (.head _);obtain⟨l,rfl⟩:=ih (fun z hz=>h z (.tail _ hz));exact⟨a::l,rfl⟩
theorem mx:maxLen=9223372036854775807:=by decide
theorem qI7 {y:T}(h:(Ty.sl (.int .u8)).is y) : ∃ bs:List UInt8,bs.length≤9223372036854775807∧y = .sl (bs.map qA):=by
 obtain⟨es,hl,he,rfl⟩:=h;obtain⟨bs,rfl⟩:=zQy (f:=qA) (fun y hy=>jIo (he y hy));rw[List.length_map,mx] at hl;exact⟨bs,hl,rfl⟩
theorem jCs {y:T}(h:(Ty.sl (.sl (.int .u8))).is y) : ∃ l:List (List UInt8),l.length≤9223372036854775807∧(∀ d∈l,d.length<9223372036854775808)∧y = .sl (l.map bsT):=by
 obtain⟨es,hl,he,rfl⟩:=h;obtain⟨l,hl2⟩:=zQy (f:=bsT) (es:=es) (fun y hy=>by
  obtain⟨bs,_,h2⟩:=qI7 (he y hy);exact⟨bs,h2⟩)
 subst hl2;rw[List.length_map,mx] at hl;refine⟨l,hl,fun d hd=>?_,rfl⟩;obtain⟨bs,hb,h2⟩:=qI7 (he (bsT d) (List.mem_map_of_mem hd));have h3:d.map qA=bs.map qA:=by
  have:T.sl (d.map qA)=T.sl (bs.map qA):=h2;exact T.sl.inj this
 have h4:=congrArg List.length h3;simp only[List.length_map] at h4;omega
theorem jOj {y:T}(h:(Ty.st [.int .i64,.int .i64]).is y) : ∃ a b:Int,(-9223372036854775808≤a∧a<9223372036854775808)∧(-9223372036854775808≤b∧b<9223372036854775808)∧y = .agg [.int .i64 a,.int .i64 b]:=by
 obtain⟨cs,hc,rfl⟩:=h;obtain⟨x,r,hx,hr,rfl⟩:=hc;obtain⟨x2,r2,hx2,hr2,rfl⟩:=hr;cases hr2;obtain⟨a,ha,rfl⟩:=qTk hx;obtain⟨b,hb,rfl⟩:=qTk hx2;exact⟨a,b,ha,hb,rfl⟩
theorem zVj {y:T}(h:(Ty.sl (.sl (.int .u8))).is y) : ∃ l:List (List UInt8),l.length≤9223372036854775807∧(∀ d∈l,d.length≤9223372036854775807)∧y = .sl (l.map bsT):=by
 obtain⟨l,h1,h2,h3⟩:=jCs h;exact⟨l,h1,fun d hd=>by have:=h2 d hd;omega,h3⟩
theorem jWf {y:T}(h:(Ty.st [.int .i64,.int .i64,.sl (.sl (.int .u8)),.sl (.int .u8)]).is y) : ∃ (a b:Int) (l:List (List UInt8)) (d:List UInt8),(l.length≤9223372036854775807∧(∀ d∈l,d.length≤9223372036854775807)∧d.length≤9223372036854775807)∧y = .agg [.int .i64 a,.int .i64 b,.sl (l.map bsT),.sl (d.map qA)]:=by
 obtain⟨cs,hc,rfl⟩:=h;obtain⟨x,r,hx,hr,rfl⟩:=hc;obtain⟨x2,r2,hx2,hr2,rfl⟩:=hr;obtain⟨x3,r3,hx3,hr3,rfl⟩:=hr2;obtain⟨x4,r4,hx4,hr4,rfl⟩:=hr3;cases hr4;obtain⟨a,_,rfl⟩:=qTk hx;obtain⟨b,_,rfl⟩:=qTk hx2;obtain⟨l,h1,h2,rfl⟩:=zVj hx3;obtain⟨d,h3,rfl⟩:=qI7 hx4;exact⟨a,b,l,d,⟨h1,h2,h3⟩,rfl⟩
end Go.Eng
end
