/- A part of an abstract machine, its walks, their tie. -/
import Derived.Test.YtekghmfbgbhobaaGreatDoorRows
import Derived.KernelRfl
import Derived.Test.YtekghmfbgbhobaaGreatDoorS46
import Derived.Test.YtekghmfbgbhobaaGreatDoorS35
import Derived.Test.YtekghmfbgbhobaaGreatDoorS47
import Derived.Test.YtekghmfbgbhobaaGreatDoorS26
import Derived.Test.YtekghmfbgbhobaaGreatDoorS12
import Derived.WideKeyArgs
import Derived.Handed
import Derived.OpenShut
import Derived.RowKit
import Derived.ProofKit
import Derived.LaidMore
set_option linter.all false
section
set_option maxRecDepth 100000
namespace Go.Eng
open Go.Proofs Go.Proofs.YtekghmfbgbhobaaGreatDoor
def gl0:Gl:=fun g=>if g=1 then some (qZ7.map zW) else none
abbrev TO (t:Tab):Prop:=qFk Tryz.prog gl0 t
structure TT where
 t:Tab
 h:TO t
def T0:TT:=⟨[],qFk.nil⟩
noncomputable section
def aE {n:Nat}{E:ECt}(T:TT)(h : ∃ g:EF E,FOk Tryz.prog gl0 n (E.fs g)):TT:=⟨(n,E.fs h.choose)::T.t,.cons h.choose_spec T.h⟩
def aF {n:Nat}{f:FnS}(T:TT)(h:FOk Tryz.prog gl0 n f):TT:=⟨(n,f)::T.t,.cons h T.h⟩
abbrev Cl (n:Nat)(fn:Func)(rs:List (Nat×Option (Nat×Bool))):Prop:=Tryz.prog.funcs[n]?=some fn∧(fn.name == "runtime.NumGoroutine")=false∧fn.body=some (fn.body.getD .skip)∧Tryz.prog.follows .mixedOrders=true∧qO0 Tryz.prog fn.results.toList=some rs
def xE (n:Nat)(T:TT)(E:ECt){fn:Func}{h:List (Nat×List Nat)}{rs:List (Nat×Option (Nat×Bool))}(c:AF fn h)(w : ∀ x,E.pre x→c.1.wp T.t gl0 (qD 0 (E.aS x)) (qD 0 (E.ins x)) (qY rs (E.ins x).length (E.K x)))(k:Cl n fn rs:=by exact⟨by kernel_rfl,by kernel_rfl,by kernel_rfl,by kernel_rfl,by kernel_rfl⟩)(z:c.1.strict=true:=by kernel_rfl)(u : ∀ x,(E.aS x).length≤fn.ntmps:=by exact fun _=>Nat.le_of_ble_eq_true (by kernel_rfl))(v : ∀ x,(E.ins x).length≤100:=by exact fun _=>Nat.le_of_ble_eq_true (by kernel_rfl)):TT:=aE (n:=n) T (jK3 _ _ _ _ T.h E w k.1 k.2.1 k.2.2.1 c.2 k.2.2.2.1 k.2.2.2.2 z u v)
def xG (n:Nat)(T:TT)(E:ECt){fn:Func}{h:List (Nat×List Nat)}{rs:List (Nat×Option (Nat×Bool))}(c:AF fn h)(w : ∀ x,E.pre x→c.1.wp T.t gl0 (qD 0 (E.aS x)) (qD 0 (E.ins x)) (xU [] rs (E.ins x).length (E.K x)))(k:Cl n fn rs:=by exact⟨by kernel_rfl,by kernel_rfl,by kernel_rfl,by kernel_rfl,by kernel_rfl⟩)(z:c.1.strict=true:=by kernel_rfl)(u : ∀ x,(E.aS x).length≤fn.ntmps:=by exact fun _=>Nat.le_of_ble_eq_true (by kernel_rfl))(v : ∀ x,(E.ins x).length≤100:=by exact fun _=>Nat.le_of_ble_eq_true (by kernel_rfl)):TT:=aE (n:=n) T (jK4 [] _ _ _ _ T.h E w k.1 k.2.1 k.2.2.1 c.2 k.2.2.2.1 k.2.2.2.2 z u v)
def xW (n:Nat)(T:TT)(E:Ct){fn:Func}{h:List (Nat×List Nat)}{rs:List (Nat×Option (Nat×Bool))}(c:AF fn h)(w : ∀ x,E.pre x→c.1.wp T.t gl0 (qD 0 (E.aS x)) (qD 0 (E.ins x)) (qY rs (E.ins x).length (fun r' o'=>r'=E.r x∧o'=E.outs x)))(k:Cl n fn rs:=by exact⟨by kernel_rfl,by kernel_rfl,by kernel_rfl,by kernel_rfl,by kernel_rfl⟩)(u : ∀ x,(E.aS x).length≤fn.ntmps:=by exact fun _=>Nat.le_of_ble_eq_true (by kernel_rfl))(v : ∀ x,(E.ins x).length≤100:=by exact fun _=>Nat.le_of_ble_eq_true (by kernel_rfl)):TT:=aF (n:=n) T (jRc k.1 k.2.1 k.2.2.1 c.2 k.2.2.2.1 T.h k.2.2.2.2 E u v w)
def xF (fz:List Nat)(n:Nat)(T:TT)(E:Ct){fn:Func}{h:List (Nat×List Nat)}{rs:List (Nat×Option (Nat×Bool))}(c:AF fn h)(w : ∀ x,E.pre x→c.1.wp T.t gl0 (qD 0 (E.aS x)) (qD 0 (E.ins x)) (xU fz rs (E.ins x).length (fun r' o'=>r'=E.r x∧o'=E.outs x)))(k:Cl n fn rs:=by exact⟨by kernel_rfl,by kernel_rfl,by kernel_rfl,by kernel_rfl,by kernel_rfl⟩)(u : ∀ x,(E.aS x).length≤fn.ntmps:=by exact fun _=>Nat.le_of_ble_eq_true (by kernel_rfl))(v : ∀ x,(E.ins x).length≤100:=by exact fun _=>Nat.le_of_ble_eq_true (by kernel_rfl)):TT:=aF (n:=n) T (jRa fz k.1 k.2.1 k.2.2.1 c.2 k.2.2.2.1 T.h k.2.2.2.2 E u v w)
def T1:=xW 70 T0 qS4 qEq fun _ _=>qZu T0.t _
def T2:=xF [] 80 T1 qPz qK8 fun x _=>zJv T1.t _ x
def T3:=xF [] 128 T2 qOi qF3 fun x hx=>zC4 T2.t _ x hx
def T4:=xW 178 T3 qG5 qEm fun x hx=>qZt T3.t _ x.1 x.2 hx.1 hx.2
def T5:=xW 179 T4 qP1 kO fun x hx=>qN8 T4.t _ x.1 x.2 hx
def T6:=xW 129 T5 (xO 5 qCm) vV fun x hx=>qOb T5.t _ rfl rfl x hx
def T7:=xF [] 130 T6 qAs qBz fun x hx=>qUt T6.t _ x hx
def T8:=xW 131 T7 (xO 8 wQ) wV fun x hx=>qKu T7.t _ rfl rfl rfl x.2 x.1 hx.1 hx.2
def T9:=xF [] 100 T8 qE9 kI fun x hx=>zC3 T8.t _ rfl rfl rfl rfl x.1 hx.1 x.2 hx.2
def T10:=xF [] 101 T9 qXv qIa fun x hx=>zFt T9.t _ x.1 x.2 hx
def T11:=xF [] 81 T10 qQv qPw fun x hx=>zO4 T10.t _ rfl rfl x.1 x.2 hx.1 hx.2
def T12:=xW 41 T11 qAd qCc fun x hx=>zC5 T11.t _ rfl rfl x.1 x.2.1 x.2.2.1 x.2.2.2 hx.1 hx.2.1 hx.2.2.1 hx.2.2.2
def T13:=xW 27 T12 qP2 qAc fun x hx=>zGa T12.t _ rfl rfl x.1 x.2 hx
def T14:=xE 14 T13 kF qGz fun s hp=>zC1 T13.t _ s
def T15:=xW 76 T14 xQ kX fun x _=>qZs T14.t _ x
def T16:=xW 177 T15 qKe qCb fun x hx=>zC2 T15.t _ x hx
def T17:=xW 126 T16 qKe qK7 fun x hx=>zJs T16.t _ rfl x hx
def T18:TT:=aF T17 (show FOk Tryz.prog gl0 127 zAk.fs from jEd (fn:=Tryz.f127) (ps := #[3]) (t:=22) (e:=5) (by kernel_rfl) (by kernel_rfl) (by kernel_rfl) (by kernel_rfl) (by kernel_rfl) (by kernel_rfl))
def T19:=xF [] 96 T18 qOj qCw fun x hx=>qWb T18.t _ rfl rfl x.1 x.2 hx
def T20:=xF [] 75 T19 vS qA9 fun x hx=>qRw T19.t _ rfl x.2 x.1 hx
def T21:=xF [] 36 T20 xD jM fun x hx=>qRx T20.t _ rfl rfl x
def T22:=xF [] 77 T21 jI yQ fun x hx=>qQr T21.t _ x hx
def T23:=xW 37 T22 qAe yF fun x hx=>qOc T22.t _ rfl rfl rfl x hx
def T24:=xE 15 T23 xT jN fun ⟨s,m⟩ hp=>qUr T23.t _ rfl rfl s m hp
def T25:=xE 9 T24 qFa qEp fun _ hp=>qYv T24.t _ rfl rfl rfl
def T26:=xF [] 29 T25 qLj qH9 fun x hx=>zFs T25.t _ x hx
def T27:=xF [] 82 T26 qPz qIn fun x _=>zF4 T26.t _ x
def T28:=xW 132 T27 qR3 qA7 fun _ _=>qRt T27.t _
def T29:=xF [] 133 T28 qOi qK9 fun x hx=>zJx T28.t _ x hx
def T30:=xW 134 T29 qG5 qIk fun x hx=>zF3 T29.t _ x.1 x.2 hx.1 hx.2
def T31:=xW 135 T30 qXw qIj fun x hx=>zF2 T30.t _ x.1 x.2 hx
def T32:=xF [] 136 T31 qAs qGj fun x hx=>zC8 T31.t _ x hx
def T33:=xF [] 102 T32 (qHx 32 jY) qEy fun x hx=>qZv T32.t _ rfl rfl rfl rfl rfl x hx
def T34:=xF [] 83 T33 qQv qLa fun x hx=>zJy T33.t _ rfl x.1 x.2 hx.1 hx.2
def T35:=xW 43 T34 qAd qBn fun x hx=>qZw T34.t _ rfl rfl x.1 x.2.1 x.2.2.1 x.2.2.2 hx.1 hx.2.1 hx.2.2.1 hx.2.2.2
def T36:=xW 71 T35 qS4 qIc fun _ _=>zFu T35.t _
def T37:=xW 28 T36 qP2 xZ fun x hx=>zFv T36.t _ rfl rfl x.1 x.2 hx
def T38:=xE 11 T37 kF qGd fun s hp=>zB9 T37.t _ s
def T39:=xW 98 T38 xQ qBp fun x _=>zFz T38.t _ x
def T40:=xF [] 97 T39 vS qEb fun x hx=>zDh T39.t _ x hx
def T41:=xF [] 78 T40 qDn qDe fun x hx=>qWk T40.t _ rfl rfl x.1 hx x.2
def T42:=xF [] 38 T41 xD vZ fun x hx=>zGc T41.t _ rfl x
def T43:=xF [] 99 T42 kR qIf fun x hx=>zFw T42.t _ x hx
def T44:=xF [] 79 T43 jI qAb fun x hx=>zDg T43.t _ rfl x hx
def T45:=xW 39 T44 qAe wM fun x hx=>qWm T44.t _ rfl rfl x hx
def T46:=xE 16 T45 xT jJ fun ⟨s,m⟩ hp=>qUg T45.t _ rfl rfl s m hp
def T47:=xE 73 T46 qJw qD7 fun s hp=>zFa T46.t _ rfl rfl s hp
def T48:=xE 93 T47 qNp qCf fun ⟨s,n⟩ hp=>zCa T47.t _ s n hp
def T49:=xW 17 T48 qKy qCx fun x hx=>zJu T48.t _ x.1 x.2 hx.1 hx.2
def T50:=xW 113 T49 vB qF4 fun x hx=>zJt T49.t _ x.1 x.2 hx.1 hx.2
def T51:=xF [] 114 T50 qQu vP fun x _=>qWd T50.t _ x.1 x.2
def T52:=xF [] 246 T51 qWv qGw fun _ _=>zDe T51.t _
def T53:=xE 272 T52 qNh qDg fun x hp=>qV9 T52.t _ x
def T54:=xE 273 T53 qMu qGx fun ⟨a,b⟩ hp=>zCz T53.t _ a b hp
def T55:=xE 274 T54 qLo xH fun l hp=>qUq T54.t _ l hp
def T56:=xE 249 T55 qG6 qGu fun a hp=>zCx T55.t _ rfl rfl rfl a hp
def T57:=xF [] 42 T56 vN qIp fun x hx=>zF6 T56.t _ x.1 x.2.1 x.2.2 hx.1 hx.2
def T58:=xF [] 191 T57 xI qGh fun x hx=>zC6 T57.t _ x.1 hx.1 x.2 hx.2
def T59:=xG 275 T58 qL3 qGv fun ⟨d,a⟩ hp=>zCy T58.t _ rfl rfl d a hp
def T60:=xE 250 T59 qFc qE8 fun ⟨d,a⟩ hp=>qZq T59.t _ rfl rfl rfl d a hp
def T61:=xE 219 T60 qLx qE7 fun l hp=>qZp T60.t _ rfl rfl l hp
def T62:=xE 118 T61 xS wW fun ⟨s,n,k⟩ hp=>qKs T61.t _ s n k hp
def T63:=xE 182 T62 qHj kJ fun ⟨s,h⟩ hp=>zCh T62.t _ s h hp
def T64:=xE 145 T63 qBc qCg fun ⟨s,h⟩ hp=>zCf T63.t _ rfl s h hp
def T65:=xE 168 T64 qJj yI fun ⟨s,n,b⟩ hp=>qUb T64.t _ rfl rfl rfl s n b hp
def T66:=xE 115 T65 qB5 zS fun ⟨s,n,b⟩ hp=>qUc T65.t _ rfl rfl s n b hp
def T67:=xE 116 T66 qB4 qEo fun ⟨s,n,k⟩ hp=>qYu T66.t _ s n k hp
def T68:=xE 142 T67 kT qGf fun ⟨s,h⟩ hp=>zCd T67.t _ s h hp
def T69:=xE 220 T68 qJu xK fun k hp=>qPm T68.t _ k
def T70:=xE 221 T69 qHg qEr fun p hp=>qYw T69.t _ rfl p hp
def T71:=xE 229 T70 qJe qB3 fun ⟨s,h⟩ hp=>qUp T70.t _ rfl s h hp
def T72:=xE 262 T71 qJq qGq fun ⟨s,l,c⟩ hp=>zCt T71.t _ rfl s l c hp
def T73:=xF [] 231 T72 xP qIg fun x hx=>zFx T72.t _ rfl rfl x.1 x.2 hx.1 hx.2
def T74:=xE 261 T73 qCn qGr fun ⟨l,c,a,b,x⟩ hp=>zCu T73.t _ rfl l c a b x hp
def T75:=xE 279 T74 qJg qGs fun ⟨l,e⟩ hp=>zCv T74.t _ rfl l e hp
def T76:=xE 259 T75 qMx xA fun ⟨s,l⟩ hp=>qZl T75.t _ rfl rfl rfl s l hp
def T77:=xE 227 T76 qHb qE5 fun ⟨s,h⟩ hp=>qZo T76.t _ rfl rfl s h hp
def T78:=xE 257 T77 qI7 wZ fun n hp=>zFn T77.t _ n
def T79:=xE 278 T78 qJb qIs fun ⟨h,i,x,y⟩ hp=>zFo T78.t _ rfl h i x y hp
def T80:=xE 258 T79 qJs qPx fun ⟨h,l⟩ hp=>zO0 T79.t _ rfl h l hp
def T81:=xE 226 T80 qNb qEa fun l hp=>zFm T80.t _ rfl rfl rfl l hp
def T82:=xE 172 T81 qJh xB fun ⟨s,h⟩ hp=>qZm T81.t _ rfl rfl s h hp
def T83:=xE 222 T82 qJt qAl fun ⟨s,k,h⟩ hp=>qVi T82.t _ rfl rfl s k h hp
def T84:=xE 169 T83 qHc qCd fun ⟨s,p,au,da⟩ hp=>zB2 T83.t _ rfl rfl rfl rfl s p au da hp
def T85:=xF [] 44 T84 qG3 qIo fun x hx=>zF5 T84.t _ rfl x.1 x.2 hx.1 hx.2
def T86:=xG 171 T85 qBe qCz fun p hp=>qVh T85.t _ rfl p hp
def T87:=xE 223 T86 qBd qF6 fun p hp=>zB0 T86.t _ rfl rfl p hp
def T88:=xE 225 T87 qJc qIb fun ⟨s,nm⟩ hp=>zFc T87.t _ rfl s nm hp
def T89:=xG 255 T88 qJp qE3 fun ⟨k,no,b⟩ hp=>qZj T88.t _ rfl k no b hp
def T90:=xF [] 256 T89 qLf qLc fun x hx=>zJ0 T89.t _ rfl rfl rfl x.1 x.2.1 x.2.2.1 x.2.2.2 hx
def T91:=xG 224 T90 qNe qIr fun ⟨k,no,ad,p⟩ hp=>zFj T90.t _ rfl rfl rfl k no ad p hp
def T92:=xG 170 T91 qJl qB0 fun ⟨s,p,z⟩ hp=>qUd T91.t _ rfl rfl rfl rfl rfl s p z hp
def T93:=xE 117 T92 qDt xY fun ⟨s,h,n,b⟩ hp=>zFb T92.t _ rfl rfl rfl rfl rfl rfl s h n b hp
def T94:=xE 123 T93 qAt yT fun ⟨s,n⟩ hp=>qPk T93.t _ s n hp
def T95:=xE 119 T94 qDp qA5 fun ⟨s,n,m,b⟩ hp=>qRk T94.t _ rfl rfl rfl rfl rfl rfl s n m b hp
def T96:=xE 120 T95 qDs kY fun ⟨s,n⟩ hp=>qYt T95.t _ rfl rfl s n hp
def T97:=xE 174 T96 qIz qA6 fun ⟨d,rf⟩ hp=>qRm T96.t _ rfl d rf hp
def T98:=xE 260 T97 qI6 qE4 fun m hp=>qZk T97.t _ rfl m hp
def T99:=xE 228 T98 qM2 qBq fun ⟨s,l,m⟩ hp=>zFk T98.t _ rfl rfl rfl s l m hp
def jLq:=xE 230 T99 qM6 qAa fun ⟨i,l⟩ hp=>zFl T99.t _ rfl rfl rfl i l hp
def jLr:=xE 173 jLq qHh jR fun ⟨s,h,l,m⟩ hp=>zFp jLq.t _ rfl rfl rfl rfl s h l m hp
def jLs:=xE 121 jLr qDo qAi fun ⟨s,n,b⟩ hp=>qVe jLr.t _ rfl rfl rfl rfl rfl rfl rfl rfl s n b hp
def jLt:=xE 122 jLs qDr qEn fun ⟨s,n,b⟩ hp=>qYs jLs.t _ rfl rfl s n b hp
def jLu:=xE 144 jLt wB qEw fun ⟨s,h⟩ hp=>qY2 jLt.t _ s h hp
def jLv:=xE 124 jLu qDv qL fun ⟨s,k,n,b⟩ hp=>qVf jLu.t _ rfl rfl rfl rfl s k n b hp
def jLw:=xE 146 jLv qJv wH fun ⟨s,h⟩ hp=>qY3 jLv.t _ rfl rfl s h hp
def jLx:=xE 263 jLw qL9 qAk fun x hp=>qQh jLw.t _ rfl x
def jLy:=xE 233 jLx qJa qAj fun x hp=>qQg jLx.t _ rfl rfl x hp
def jLz:=xE 234 jLy qL5 wP fun h hp=>qJ9 jLy.t _ rfl h
def jL0:=xE 192 jLz qHd qAn fun ⟨s,h⟩ hp=>zCb jLz.t _ rfl rfl rfl rfl rfl s h hp
def jL1:=xE 153 jL0 qJf qEz fun ⟨s,q⟩ hp=>qY7 jL0.t _ rfl s q hp
def jL2:=xE 175 jL1 qMv qE1 fun ⟨s,q⟩ hp=>qZe jL1.t _ rfl s q hp
def jL3:=xE 152 jL2 qI2 qC7 fun ⟨l,q⟩ hp=>qVu jL2.t _ rfl rfl rfl l q hp
def jL4:=xE 151 jL3 qI5 qIl fun ⟨v,d,m,c⟩ hp=>zFg jL3.t _ rfl rfl v d m c hp
def jL5:=xE 125 jL4 qDq zG fun ⟨s,q,m,b⟩ hp=>qRf jL4.t _ rfl rfl rfl rfl rfl rfl rfl s q m b hp
def jL6:=xE 95 jL5 qDw qG fun ⟨s,k,n,m,b⟩ hp=>qVd jL5.t _ rfl rfl rfl rfl rfl rfl rfl rfl rfl rfl rfl rfl rfl rfl s k n m b hp
def jL7:=xE 180 jL6 qHi qDb fun _ hp=>qV2 jL6.t _
def jL8:=xE 138 jL7 qNg wJ fun k hp=>qZd jL7.t _ rfl k
def jL9:=xE 139 jL8 qL4 qGn fun ⟨a,b⟩ hp=>zCo jL8.t _ a b
def jMa:=xE 140 jL9 qMt qDa fun h hp=>qV1 jL9.t _ h
def jMb:=xE 181 jMa qL2 qGo fun q hp=>zCp jMa.t _ rfl rfl q hp
def jMc:=xE 141 jMb qHa qGp fun q hp=>zCq jMb.t _ rfl q hp
def jMd:=xE 107 jMc qG8 yN fun q hp=>qZc jMc.t _ rfl rfl rfl rfl q hp
def jMe:=xE 108 jMd wR qDc fun ⟨s,e⟩ hp=>qV6 jMd.t _ s e
def jMf:=xE 143 jMe qLz qC6 fun ⟨s,h⟩ hp=>qVq jMe.t _ rfl rfl s h hp
def jMg:=xE 109 jMf qLl qX fun ⟨s,q⟩ hp=>qUl jMf.t _ rfl rfl rfl s q hp
def jMh:=xE 184 jMg qJn qE0 fun c hp=>qY8 jMg.t _ c
def jMi:=xE 183 jMh qJi qGk fun ⟨r,a,b⟩ hp=>zCi jMh.t _ r a b
def jMj:=xE 185 jMi qM8 wX fun ⟨s,h⟩ hp=>qVr jMi.t _ rfl rfl s h hp
def jMk:=xW 20 jMj wA qD9 fun x hx=>zFy jMj.t _ x.1 x.2 hx.1 hx.2
def jMl:=xE 147 jMk qLp kK fun ⟨s,lo,q,x⟩ hp=>qRn jMk.t _ rfl rfl rfl rfl rfl s lo q x hp
def jMm:=xE 186 jMl qMn qGc fun ⟨l,now⟩ hp=>zB8 jMl.t _ l now
def jMn:=xE 187 jMm qJk vH fun ⟨s,h⟩ hp=>qQj jMm.t _ rfl rfl s h hp
def jMo:=xE 232 jMn qJd vD fun ⟨l,now⟩ hp=>qUf jMn.t _ l now hp
def jMp:=xE 188 jMo qMj qC4 fun ⟨l,now⟩ hp=>qVn jMo.t _ rfl l now hp
def jMq:=xE 148 jMp qMl qAp fun ⟨s,h⟩ hp=>qVw jMp.t _ rfl rfl rfl s h hp
def jMr:=xE 189 jMq qMo qEu fun ⟨l,now⟩ hp=>qY0 jMq.t _ l now hp
def jMs:=xE 190 jMr qMk qGb fun ⟨l,now⟩ hp=>zB7 jMr.t _ rfl l now hp
def jMt:=xE 149 jMs qNt wI fun ⟨s,h,ok⟩ hp=>qY9 jMs.t _ rfl rfl rfl s h ok hp
def jMu:=xE 150 jMt qM4 jF fun ⟨s,q⟩ hp=>qQl jMt.t _ rfl rfl rfl rfl s q hp
def jMv:=xE 110 jMu qLq zQ fun ⟨s,lo,q⟩ hp=>qY6 jMu.t _ rfl rfl rfl rfl rfl rfl rfl rfl rfl rfl s lo q hp
def jMw:=xE 154 jMv qAu qBm fun ⟨s,t,e⟩ hp=>qZh jMv.t _ rfl s t e
def jMx:=xE 12 jMw qBf yP fun ⟨s,m⟩ hp=>qRl jMw.t _ rfl s m
def jMy:=xE 155 jMx qLs qBl fun s hp=>qZg jMx.t _ s
def jMz:=xW 74 jMy jX wL fun x hx=>qWl jMy.t _ x hx
def jM0:=xF [] 193 jMz qWw vK fun x hx=>zDd jMz.t _ rfl rfl x.1 x.2.1 x.2.2.1 x.2.2.2 hx
def jM1:=xW 235 jM0 kC qGt fun x _=>zDc jM0.t _ x.1 x.2
def jM2:=xW 280 jM1 qR4 qIi fun x hx=>zF1 jM1.t _ x.1 x.2 hx
def jM3:=xF [] 264 jM2 (qHx 20 qYn) qIh fun x hx=>zF0 jM2.t _ rfl rfl rfl rfl x hx
def jM4:=xF [] 236 jM3 qE9 qGi fun x hx=>zJw jM3.t _ rfl rfl x.1 hx.1 x.2 hx.2
def jM5:=xW 194 jM4 qEd zV fun x hx=>qZz jM4.t _ rfl rfl rfl rfl rfl rfl x hx
def jM6:=xW 195 jM5 qS2 qDd fun x hx=>qWf jM5.t _ rfl rfl x.1 x.2.1 x.2.2 hx.1 hx.2
def jM7:=xW 196 jM6 zK0 qCk fun x hx=>zDb jM6.t _ rfl rfl x.1 x.2.1 x.2.2.1 x.2.2.2.1 x.2.2.2.2 hx.1 hx.2.1 hx.2.2
def jM8:=xW 197 jM7 qFn zY fun x hx=>qZ2 jM7.t _ rfl rfl rfl rfl rfl x hx
def jM9:=xE 156 jM8 qMs jD fun ⟨s,lo,q⟩ hp=>qUm jM8.t _ rfl rfl rfl rfl rfl rfl s lo q hp
def jNa:=xE 237 jM9 qJr qA8 fun q hp=>qRo jM9.t _ q hp
def jNb:=xE 238 jNa xR qC9 fun ⟨s,e⟩ hp=>qV0 jNa.t _ s e
def jNc:=xE 239 jNb qI8 qGl fun s hp=>zCl jNb.t _ s hp
def jNd:=xE 240 jNc qHf qIm fun ⟨s,k,x⟩ hp=>zFh jNc.t _ s k x hp
def jNe:=xE 198 jNd qM5 wE fun ⟨s,q⟩ hp=>qUj jNd.t _ rfl rfl rfl rfl rfl rfl rfl rfl rfl s q hp
def jNf:=xE 241 jNe qDu qC8 fun ⟨s,q⟩ hp=>qVz jNe.t _ rfl s q hp
def jNg:=xE 19 jNf kS qC5 fun ⟨s,n⟩ hp=>qVp jNf.t _ rfl rfl s n hp
def jNh:=xE 199 jNg qLv wY fun ⟨s,q⟩ hp=>qVx jNg.t _ rfl rfl rfl rfl rfl rfl rfl s q hp
def jNi:=xF [] 56 jNh qLi qLb fun x hx=>zJz jNh.t _ x hx
def jNj:=xW 89 jNi kB yE fun x hx=>zDf jNi.t _ x hx
def jNk:=xW 57 jNj qP0 yW fun x hx=>qPt jNj.t _ rfl x.1 hx.1 x.2 hx.2
def jNl:=xW 59 jNk qG4 jP fun x hx=>qPr jNk.t _ rfl x.1 hx.1 x.2 hx.2
def jNm:=xW 91 jNl qXu xM fun x hx=>qPs jNl.t _ x hx
def jNn:=xW 62 jNm qLh vI fun x hx=>qQm jNm.t _ rfl x hx
def jNo:=xE 208 jNn qJm qCy fun b hp=>qVg jNn.t _ rfl rfl rfl rfl rfl b hp
def jNp:=xW 137 jNo qS5 vJ fun x hx=>qQn jNo.t _ rfl x.1 hx.1 x.2 hx.2
def jNq:=xE 265 jNp qM0 qIq fun ⟨k,ad,b⟩ hp=>zFi jNp.t _ rfl rfl rfl rfl rfl rfl rfl k ad b hp
def jNr:=xE 242 jNq qMz qF8 fun ⟨s,p,b⟩ hp=>zB3 jNq.t _ rfl rfl rfl rfl rfl rfl rfl rfl rfl s p b hp
def jNs:=xE 200 jNr qMp vX fun ⟨s,q⟩ hp=>zCj jNr.t _ rfl rfl rfl rfl rfl rfl rfl s q hp
def jNt:=xE 166 jNs qAv qIe fun ⟨s,k,x⟩ hp=>zFf jNs.t _ s k x hp
def jNu:=xE 167 jNt qI4 qBk fun ⟨s,h⟩ hp=>qY4 jNt.t _ rfl rfl s h hp
def jNv:=xE 201 jNu qL1 kZ fun ⟨s,q⟩ hp=>qZa jNu.t _ rfl rfl rfl rfl s q hp
def jNw:=xE 202 jNv qNr qAq fun ⟨s,q⟩ hp=>qVy jNv.t _ rfl rfl rfl s q hp
def jNx:=xE 266 jNw qMh qGm fun ⟨s,x⟩ hp=>zCm jNw.t _ rfl s x hp
def jNy:=xE 243 jNx qJo qCi fun ⟨s,x,b⟩ hp=>zCn jNx.t _ rfl rfl s x b hp
def jNz:=xE 203 jNy qNf vY fun ⟨s,q⟩ hp=>zCk jNy.t _ rfl rfl rfl s q hp
def jN0:=xF [] 244 jNz qLg qE6 fun x hx=>qZy jNz.t _ rfl rfl rfl x.1 x.2.1 x.2.2.1 x.2.2.2 hx
def jN1:=xE 267 jN0 qMr qEv fun _ hp=>qY1 jN0.t _
def jN2:=xE 245 jN1 qLk qAm fun a hp=>qVo jN1.t _ rfl rfl rfl a hp
def jN3:=xE 204 jN2 qM9 yM fun ⟨s,q⟩ hp=>qZb jN2.t _ rfl rfl rfl rfl rfl rfl s q hp
def jN4:=xE 157 jN3 qMw jK fun ⟨s,q⟩ hp=>qUn jN3.t _ rfl rfl rfl rfl rfl rfl rfl s q hp
def jN5:=xE 205 jN4 qMy qAo fun ⟨s,k⟩ hp=>zCg jN4.t _ rfl rfl rfl s k hp
def jN6:=xE 248 jN5 qHe yU fun ⟨s,h⟩ hp=>qPo jN5.t _ rfl s h hp
def jN7:=xE 268 jN6 qNu jO fun a hp=>qPp jN6.t _ rfl rfl a hp
def jN8:=xE 269 jN7 qNa zD fun ⟨s,x,a⟩ hp=>qQk jN7.t _ rfl rfl s x a hp
def jN9:=xE 213 jN8 qG9 qId fun ⟨l,n⟩ hp=>zFe jN8.t _ l n hp
def jOa:=xE 283 jN9 qNm qGy fun b hp=>zC0 jN9.t _ b hp
def jOb:=xE 282 jOa qMq qEc fun ⟨a,b⟩ hp=>zFq jOa.t _ rfl a b hp
def jOc:=xE 281 jOb qLt qDf fun ⟨o,a,b⟩ hp=>qV8 jOb.t _ rfl o a b hp
def jOd:=xE 270 jOc qL7 qEx fun ⟨s,a⟩ hp=>qY5 jOc.t _ rfl rfl rfl rfl s a hp
def jOe:=xE 271 jOd qLu qB1 fun ⟨o,a,b⟩ hp=>qUi jOd.t _ o a b
def jOf:=xE 247 jOe qI0 zC fun ⟨s,h,a⟩ hp=>qVs jOe.t _ rfl rfl rfl rfl rfl rfl rfl rfl s h a hp
def jOg:=xE 206 jOf qLn jG fun ⟨s,q⟩ hp=>qV3 jOf.t _ rfl rfl rfl rfl rfl s q hp
def jOh:=xE 207 jOg qNd jV fun ⟨s,h,nm,rf,n⟩ hp=>qVt jOg.t _ rfl rfl rfl rfl s h nm rf n hp
def jOi:=xE 276 jOh qM1 vR fun ⟨l,m,sg⟩ hp=>qV7 jOh.t _ rfl rfl rfl l m sg hp
def jOj:=xE 277 jOi qI3 jL fun ⟨x,i,p⟩ hp=>zCw jOi.t _ rfl rfl x i p hp
def jOk:=xE 251 jOj qNs wK fun ⟨p,m,sg⟩ hp=>qZn jOj.t _ rfl rfl rfl p m sg hp
def jOl:=xE 209 jOk qLm vE fun ⟨s,h,k,rf,sg⟩ hp=>qUh jOk.t _ rfl rfl rfl rfl rfl rfl rfl s h k rf sg hp
def jOm:=xE 158 jOl qNk zL fun ⟨s,q⟩ hp=>qRp jOl.t _ rfl rfl rfl rfl rfl rfl rfl rfl rfl s q hp
def jOn:=xE 252 jOm qNo qEs fun ⟨k,z⟩ hp=>qYy jOm.t _ k z
def jOo:=xE 210 jOn qMb qD8 fun ⟨n,k,r,z,au,po⟩ hp=>zFd jOn.t _ rfl n k r z au po hp
def jOp:=xE 159 jOo qLw vQ fun ⟨s,q⟩ hp=>qV5 jOo.t _ rfl rfl rfl s q hp
def jOq:=xE 211 jOp qNw qB2 fun ⟨l,n⟩ hp=>qUo jOp.t _ l n hp
def jOr:=xE 160 jOq qNq kL fun ⟨s,q⟩ hp=>qRq jOq.t _ rfl rfl rfl s q hp
def jOs:=xE 161 jOr qG7 qAr fun ⟨s,q⟩ hp=>qV4 jOr.t _ rfl s q hp
def jOt:=xE 162 jOs qLr qE2 fun s hp=>qZf jOs.t _ rfl rfl s hp
def jOu:=xE 163 jOt qMi qEt fun ⟨l,now⟩ hp=>qYz jOt.t _ l now
def jOv:=xE 164 jOu qMm qC3 fun ⟨l,a,b,c⟩ hp=>qVm jOu.t _ l a b c hp
def jOw:=xE 212 jOv qNv qCj fun ⟨l,n⟩ hp=>zCs jOv.t _ rfl l n hp
def jOx:=xE 253 jOw qI9 qC2 fun ⟨o,n,z⟩ hp=>qVl jOw.t _ o n z hp
def jOy:=xE 214 jOx qMd qCe fun ⟨x,o,n⟩ hp=>zB5 jOx.t _ rfl rfl x o n hp
def jOz:=xE 215 jOy qMg qBj fun ⟨x,o,d⟩ hp=>qYx jOy.t _ rfl rfl x o d hp
def jO0:=xE 254 jOz qMf qC1 fun x hp=>qVk jOz.t _ rfl rfl x hp
def jO1:=xE 216 jO0 qMa vG fun ⟨x,m⟩ hp=>qQi jO0.t _ rfl rfl x m hp
def jO2:=xE 217 jO1 qMe wD fun ⟨x,b⟩ hp=>qUe jO1.t _ rfl x b hp
def jO3:=xE 218 jO2 qL8 qC0 fun ⟨x,b⟩ hp=>qVj jO2.t _ rfl rfl x b hp
def jO4:=xE 165 jO3 qNl zA fun ⟨s,q⟩ hp=>qZi jO3.t _ rfl rfl rfl rfl rfl rfl rfl rfl rfl s q hp
def jO5:=xE 111 jO4 qI1 zP fun ⟨s,lo,q⟩ hp=>zCr jO4.t _ rfl rfl rfl rfl rfl rfl rfl rfl rfl rfl rfl rfl rfl rfl rfl s lo q hp
def jO6:=xE 112 jO5 qL0 yV fun ⟨s,q⟩ hp=>qVv jO5.t _ rfl rfl rfl rfl s q hp
def jO7:=xE 94 jO6 qLy qU fun ⟨s,lo,q⟩ hp=>qUk jO6.t _ rfl rfl rfl rfl rfl rfl s lo q hp
def jO8:=xE 72 jO7 qNn qBo fun ⟨s,k,n,m,b⟩ hp=>zE9 jO7.t _ rfl rfl rfl rfl s k n m b hp
def jO9:=xE 30 jO8 qM3 qH8 fun ⟨s,cs,b,n⟩ hp=>zE8 jO8.t _ rfl rfl s cs b n hp
def jPa:=xE 10 jO9 qFb qF5 fun ⟨a,cs,b⟩ hp=>zBz jO9.t _ rfl rfl rfl rfl rfl a cs b hp
def jPb:=xW 63 jPa qKd qCh fun x hx=>zC7 jPa.t _ rfl x.1 x.2 hx.1 hx.2
def jPc:=xW 31 jPb qS3 qIt fun x hx=>zF8 jPb.t _ rfl rfl x.1 x.2 hx
def jPd:=xE 64 jPc qMc qGa fun ⟨a,b⟩ hp=>zB6 jPc.t _ rfl a b hp
def jPe:=xE 25 jPd qNc xL fun ⟨a,b⟩ hp=>qPn jPd.t _ rfl rfl rfl rfl a b hp
def jPf:=xE 32 jPe qL6 qGg fun ⟨a,b⟩ hp=>zCe jPe.t _ a b hp
def jPg:=xE 33 jPf qNj kQ fun ⟨a,b⟩ hp=>qN7 jPf.t _ rfl a b hp
def jPh:=xE 34 jPg qM7 qF7 fun ⟨p,q⟩ hp=>zB1 jPg.t _ rfl p q hp
def jPi:=xE 35 jPh qNi qF9 fun ⟨a,b⟩ hp=>zB4 jPh.t _ rfl a b hp
def jHy:=xE 13 jPi qHk qGe fun ⟨a,b⟩ hp=>zCc jPi.t _ rfl rfl rfl rfl rfl rfl a b hp
def jHz:=xE 21 jHy qBf yR fun ⟨s,m⟩ hp=>qRr jHy.t _ rfl s m
def jPj:=xF [] 40 jHz vN qIu fun x hx=>zGb jHz.t _ x.1 x.2.1 x.2.2 hx.1 hx.2
def jH0:=xE 18 jPj kS qDh fun ⟨s,n⟩ hp=>qWa jPj.t _ rfl rfl s n hp
end
end Go.Eng
end
section
set_option maxRecDepth 20000
namespace Go.Eng
open Go.ChangeShapes Go.WideShapes Go.RowKit
inductive Ty where
 | int (k:IntKind)
 | bool
 | str
 | sl (e:Ty)
 | st (fs:List Ty)
mutual
def Ty.size:Ty→Nat
 | .st fs=>Ty.sizeL fs
 | _=>1
def Ty.sizeL:List Ty→Nat
 | []=>0
 | f::r=>f.size+Ty.sizeL r
end
def isK (P:Program)(t:TypeId)(k:IntKind):Bool:=match P.underlying t with
 | some (.int k')=>decide (k'=k)
 | _=>false
theorem zUy {P:Program}{t:TypeId}{k:IntKind}(h:isK P t k=true):P.underlying t=some (.int k):=by
 unfold isK at h;split at h
 ·rename_i h1;rw[h1,of_decide_eq_true h]
 ·cases h
mutual
def Ty.ok (P:Program):Ty→TypeId→Bool
 | .int k,t=>isK P t k
 | .bool,t=>match P.underlying t with | some .bool=>true | _=>false
 | .str,t=>match P.underlying t with | some .string=>true | _=>false
 | .sl e,t=>match P.underlying t with | some (.slice te)=>e.ok P te&&Nat.beq (P.cellsOf te) e.size&&Nat.ble 1 e.size | _=>false
 | .st fs,t=>Nat.beq (P.cellsOf t) (Ty.sizeL fs)&&match P.underlying t with
  | some (.struct gs)=>Ty.okF P fs gs.toList 0
  | some (.array n te)=>Nat.beq fs.length n&&Ty.okA P fs te
  | _=>false
def Ty.okF (P:Program):List Ty→List Field→Nat→Bool
 | [],[],_=>true
 | f::r,g::gs,off=>Nat.beq g.offset off&&Nat.beq (P.cellsOf g.type) f.size&&f.ok P g.type&&Ty.okF P r gs (off+f.size)
 | _,_,_=>false
def Ty.okA (P:Program):List Ty→TypeId→Bool
 | [],_=>true
 | f::r,te=>f.ok P te&&Nat.beq (P.cellsOf te) f.size&&Ty.okA P r te
end
mutual
def Ty.is:Ty→T→Prop
 | .int k,x => ∃ n,(Lit.int k n).wf=true∧x = .int k n
 | .bool,x => ∃ b,x = .bool b
 | .str,x => ∃ s:ByteArray,s.size≤maxLen∧x = .str s
 | .sl e,x => ∃ es:List T,es.length≤maxLen∧(∀ y∈es,e.is y)∧x = .sl es
 | .st fs,x => ∃ cs,Ty.isL fs cs∧x = .agg cs
def Ty.isL:List Ty→List T→Prop
 | [],cs=>cs=[]
 | f::r,cs => ∃ x rest,f.is x∧Ty.isL r rest∧cs=x.cells++rest
end
mutual
theorem Ty.is_size : ∀ (ty:Ty) (x:T),ty.is x→x.cells.length=ty.size
 | .int k,x,h=>by obtain⟨n,_,rfl⟩:=h;rfl
 | .bool,x,h=>by obtain⟨n,rfl⟩:=h;rfl
 | .str,x,h=>by obtain⟨n,_,rfl⟩:=h;rfl
 | .sl e,x,h=>by obtain⟨es,_,_,rfl⟩:=h;rfl
 | .st fs,x,h=>by
  obtain⟨cs,h1,rfl⟩:=h;show cs.length=Ty.sizeL fs;exact Ty.isL_size fs cs h1
theorem Ty.isL_size : ∀ (fs:List Ty) (cs:List T),Ty.isL fs cs→cs.length=Ty.sizeL fs
 | [],cs,h=>by cases h;rfl
 | f::r,cs,h=>by
  obtain⟨x,rest,h1,h2,rfl⟩:=h;rw[List.length_append,Ty.is_size f x h1,Ty.isL_size r rest h2,Ty.sizeL]
end
theorem zBf {α:Type}{Q:Nat→α→Prop} : ∀ (n:Nat),(∀ i,i<n → ∃ y,Q i y) → ∃ l:List α,l.length=n ∧ ∀ i y,l[i]?=some y→Q i y
 | 0,_=>⟨[],rfl,sM⟩
 | n+1,h=>by
  obtain⟨l,hl,hq⟩:=zBf n (fun i hi=>h i oM);obtain⟨y,hy⟩:=h n oM;refine⟨l++[y],by simp[hl],fun i z hz=>?_⟩;rw[List.getElem?_append] at hz;split at hz
  ·exact hq i z hz
  ·have h1:i-l.length=0:=by
    rcases Nat.eq_zero_or_pos (i-l.length) with h | h
    ·exact h
    ·rw[List.getElem?_eq_none soM] at hz;cases hz
   rw[h1] at hz;simp only[List.getElem?_cons_zero,Option.some.injEq] at hz;subst hz;have:i=n:=oM;subst this;exact hy
theorem zAi {w:World}{a:Addr}{u:Value}(h:w.cell? a=some u):a.block<w.heap.size∧a.spot=none:=by
 unfold World.cell? at h;split at h
 ·rename_i hb;refine⟨(Array.getElem?_eq_some_iff.1 hb).1,?_⟩;split at h
  ·cases h
  ·rename_i hs;simpa using hs
 ·cases h
section
variable {H:Type} {enc:TypeId×Value→H} {P:Program} {w:World} {base:Nat} {sp:Nat→Bool} {held:Bool}
structure qH7 (w:World) (ds:List T) (cs:List Value):Prop where
 len:ds.length=cs.length
 one : ∀ u∈cs,u.oneCell'=true
 rep : ∀ (i:Nat) (c:T) (u:Value),ds[i]?=some c→cs[i]?=some u→Rep (fun b=>b<w.heap.size) w c u
theorem qH7.one1 {x:T}{c:Value}(hc:c.oneCell'=true)(h:Rep (fun b=>b<w.heap.size) w x c):qH7 w [x] [c]:=
 ⟨rfl,by simpa using hc,fun i d u hd hu=>by
  cases i with
  | zero=>simp only[List.getElem?_cons_zero,Option.some.injEq] at hd hu;subst hd;subst hu;exact h
  | succ i=>simp at hd⟩
theorem qH7.app {ds es:List T}{cs vs:List Value}(h:qH7 w ds cs)(h2:qH7 w es vs):qH7 w (ds++es) (cs++vs):=by
 refine⟨by rw[List.length_append,List.length_append,h.len,h2.len],fun u hu=>?_,fun i c u hc hu=>?_⟩
 ·rcases List.mem_append.1 hu with h3 | h3
  ·exact h.one u h3
  ·exact h2.one u h3
 ·rw[List.getElem?_append] at hc hu;rw[h.len] at hc;split at hc
  ·rename_i hl;rw[if_pos hl] at hu;exact h.rep i c u hc hu
  ·rename_i hl;rw[if_neg hl] at hu;exact h2.rep _ c u hc hu
theorem qH7.nil:qH7 w [] []:=⟨rfl,sM,fun i c u hc=>by simp at hc⟩
theorem qTk (n:Nat)(IH : ∀ (ty:Ty) (t:TypeId) (cs:List Value) (x:DataW H×List MemPlace),ty.ok P t=true→cs.length=ty.size→DataW.trod enc P w base sp held n t cs=some x → ∃ y:T,ty.is y∧qH7 w y.cells cs){cs:List Value} :
  ∀ (fs:List Ty) (gs:List Field) (off:Nat),Ty.okF P fs gs off=true→off+Ty.sizeL fs=cs.length→(∀ g∈gs,∃ x,DataW.trod enc P w base sp held n g.type ((cs.drop g.offset).take (P.cellsOf g.type))=some x)→
   ∃ ds,Ty.isL fs ds∧qH7 w ds (cs.drop off)
 | [],[],off,_,hl,_=>⟨[],rfl,by
   have:cs.drop off=[]:=List.drop_eq_nil_of_le (by simp only[Ty.sizeL] at hl;omega);rw[this];exact qH7.nil⟩
 | [],_::_,_,h,_,_=>by simp[Ty.okF] at h
 | _::_,[],_,h,_,_=>by simp[Ty.okF] at h
 | f::r,g::gs,off,h,hl,hg=>by
  simp only[Ty.okF,Bool.and_eq_true] at h;obtain⟨⟨⟨h1,h2⟩,h3⟩,h4⟩:=h;have e1:=Nat.eq_of_beq_eq_true h1;have e2:=Nat.eq_of_beq_eq_true h2;simp only[Ty.sizeL] at hl;obtain⟨ds,hd1,hd2⟩:=qTk n IH r gs (off+f.size) h4 oM (fun g' hg'=>hg g' (.tail _ hg'));obtain⟨x,hx⟩:=hg g (.head _);rw[e1,e2] at hx;obtain⟨y,hy1,hy2⟩:=IH f g.type _ x h3 soM hx;refine⟨y.cells++ds,⟨y,ds,hy1,hd1,rfl⟩,?_⟩;have e3:cs.drop off=(cs.drop off).take f.size++cs.drop (off+f.size):=by
   rw[←List.drop_drop,List.take_append_drop]
  rw[e3];exact hy2.app hd2
theorem qW0 (n:Nat)(IH : ∀ (ty:Ty) (t:TypeId) (cs:List Value) (x:DataW H×List MemPlace),ty.ok P t=true→cs.length=ty.size→DataW.trod enc P w base sp held n t cs=some x → ∃ y:T,ty.is y∧qH7 w y.cells cs){cs:List Value}{te:TypeId} :
  ∀ (fs:List Ty) (i:Nat),Ty.okA P fs te=true→i*P.cellsOf te+Ty.sizeL fs=cs.length→(∀ j,j<fs.length → ∃ x,DataW.trod enc P w base sp held n te ((cs.drop ((i+j)*P.cellsOf te)).take (P.cellsOf te))=some x)→
   ∃ ds,Ty.isL fs ds∧qH7 w ds (cs.drop (i*P.cellsOf te))
 | [],i,_,hl,_=>⟨[],rfl,by
   have:cs.drop (i*P.cellsOf te)=[]:=List.drop_eq_nil_of_le (by simp only[Ty.sizeL] at hl;omega);rw[this];exact qH7.nil⟩
 | f::r,i,h,hl,hg=>by
  simp only[Ty.okA,Bool.and_eq_true] at h;obtain⟨⟨h3,h2⟩,h4⟩:=h;have e2:=Nat.eq_of_beq_eq_true h2;simp only[Ty.sizeL] at hl;have e4:(i+1)*P.cellsOf te=i*P.cellsOf te+f.size:=by rw[Nat.add_mul,Nat.one_mul,e2]
  obtain⟨ds,hd1,hd2⟩:=qW0 n IH (cs:=cs) r (i+1) h4 (by rw[e4];omega) (fun j hj=>by
   have:=hg (j+1) soM;rw[show i+1+j=i+(j+1) by omega];exact this)
  obtain⟨x,hx⟩:=hg 0 sM;rw[Nat.add_zero,e2,←e2] at hx;obtain⟨y,hy1,hy2⟩:=IH f te _ x h3 (by rw[e2] at hl ⊢;rw[List.length_take,List.length_drop];omega) hx;refine⟨y.cells++ds,⟨y,ds,hy1,hd1,rfl⟩,?_⟩;have e3:cs.drop (i*P.cellsOf te)=(cs.drop (i*P.cellsOf te)).take (P.cellsOf te)++cs.drop ((i+1)*P.cellsOf te):=by
   rw[e4,←e2,←List.drop_drop,List.take_append_drop]
  rw[e3];exact hy2.app hd2
theorem qW1 : ∀ (n:Nat) (ty:Ty) (t:TypeId) (cs:List Value) (x:DataW H×List MemPlace),ty.ok P t=true→cs.length=ty.size→DataW.trod enc P w base sp held n t cs=some x → ∃ y:T,ty.is y∧qH7 w y.cells cs:=by
 intro n
 induction n with
 | zero=>intro ty t cs x _ _ h;simp[DataW.trod] at h
 | succ n IH=>
  intro ty t cs x hty hlen h;cases ty with
  | int k=>
   obtain⟨m,rfl,_,hw⟩:=DataW.trod_int (zUy hty) h;exact⟨.int k m,⟨m,hw,rfl⟩,.one1 rfl (.int k m)⟩
  | bool=>
   simp only[Ty.ok] at hty;split at hty
   ·rename_i hu;obtain⟨b,rfl,_⟩:=DataW.trod_bool hu h;exact⟨.bool b,⟨b,rfl⟩,.one1 rfl (.bool b)⟩
   ·cases hty
  | str=>
   simp only[Ty.ok] at hty;split at hty
   ·rename_i hu;obtain⟨s,rfl,_,hs⟩:=DataW.trod_string hu h;exact⟨.str s,⟨s,hs,rfl⟩,.one1 rfl (.str s)⟩
   ·cases hty
  | sl e=>
   simp only[Ty.ok] at hty;split at hty
   ·rename_i te hu;simp only[Bool.and_eq_true] at hty;obtain⟨⟨h1,h2⟩,h3⟩:=hty;have e2:=Nat.eq_of_beq_eq_true h2;have e3:=Nat.le_of_ble_eq_true h3;rcases DataW.trod_slice hu h with⟨rfl,_⟩ | ⟨a,len,cap,elems,rest,m,hm,rfl,_,_,hlc,hcm,hel,hget,_,_⟩
    ·exact⟨.sl [],⟨[],sM,sM,rfl⟩,.one1 rfl .nil⟩
    ·cases hm;have hcells : ∀ i,i<len → ∃ y:T,e.is y ∧ ∃ cs',qH7 w y.cells cs'∧cs'.length=e.size ∧ ∀ j,j<e.size→w.cell? ((a.add (i*e.size)).add j)=cs'[j]?:=by
      intro i hi;have hg:=hget i hi;have:elems[i]?=some elems[i]:=List.getElem?_eq_getElem oM;rw[this,Option.bind_eq_some_iff] at hg;obtain⟨cs',hc,ht⟩:=hg;obtain⟨_,hl,hcell⟩:=World.cells?_some hc;rw[e2] at hl hcell;obtain⟨y,hy1,hy2⟩:=IH e te cs' _ h1 hl ht;exact⟨y,hy1,cs',hy2,hl,hcell⟩
     obtain⟨es,hes,hq⟩:=zBf len hcells;have hz : ∀ y∈es,y.cells.length=e.size:=fun y hy=>by
      obtain⟨i,hi⟩:=List.getElem?_of_mem hy;exact e.is_size y (hq i y hi).1
     have hcellk : ∀ k,k<len*e.size → ∃ (i j:Nat) (y:T) (cs':List Value) (u:Value),k=i*e.size+j∧j<e.size∧es[i]?=some y∧qH7 w y.cells cs'∧cs'[j]?=some u∧w.cell? (a.add k)=some u:=by
      intro k hk;have hi:k/e.size<len:=(Nat.div_lt_iff_lt_mul oM).2 hk;have hj:k%e.size<e.size:=Nat.mod_lt _ oM;have hy:es[k/e.size]?=some es[k/e.size]:=List.getElem?_eq_getElem oM;obtain⟨_,cs',hr,hl,hc⟩:=hq _ _ hy;have hu:cs'[k%e.size]?=some cs'[k%e.size]:=List.getElem?_eq_getElem oM;have ek:k=k/e.size*e.size+k%e.size:=by rw[Nat.mul_comm];exact (Nat.div_add_mod k e.size).symm
      refine⟨_,_,_,cs',_,ek,hj,hy,hr,hu,?_⟩;rw[←hu,←hc _ hj,Addr.add_add,←ek]
     refine⟨.sl es,⟨es,oM,fun y hy=>?_,rfl⟩,.one1 rfl ?_⟩
     ·obtain⟨i,hi⟩:=List.getElem?_of_mem hy;exact (hq i y hi).1
     ·have hnl:((List.range (len*e.size)).map fun k=>(w.cell? (a.add k)).getD default).length=len*e.size:=sM;have hnews : ∀ k u,((List.range (len*e.size)).map fun k=>(w.cell? (a.add k)).getD default)[k]?=some u→k<len*e.size∧w.cell? (a.add k)=some u:=by
       intro k u hu;have hk:k<len*e.size:=by
        rcases Nat.lt_or_ge k (len*e.size) with h | h
        ·exact h
        ·rw[List.getElem?_eq_none oM] at hu;cases hu
       obtain⟨_,_,_,_,u',_,_,_,_,_,hc⟩:=hcellk k hk;rw[List.getElem?_map,List.getElem?_range hk,Option.map_some,hc,Option.getD_some,Option.some.injEq] at hu;subst hu;exact⟨hk,hc⟩
      have h0:es≠[]→a.block<w.heap.size∧a.spot=none:=by
       intro hne;have hlp:0<len:=by
        rw[←hes];exact List.length_pos_iff.2 hne
       obtain⟨_,_,_,_,u',_,_,_,_,_,hc⟩:=hcellk 0 (Nat.mul_pos hlp oM);have e9:a.add 0=a:=by simp[Addr.add]
       rw[e9] at hc;exact zAi hc
      have key:=Rep.sl (F:=fun b=>b<w.heap.size) (w:=w) es a cap e.size _ (fun hne=>(h0 hne).2) oM (by rw[hes];exact hnl) (fun u hu=>by
       obtain⟨k,hk⟩:=List.getElem?_of_mem hu;obtain⟨hk1,hk2⟩:=hnews k u hk;obtain⟨_,_,_,cs',u',_,_,_,hr,hcu,hc⟩:=hcellk k hk1;rw[hk2] at hc;cases hc;exact hr.one u (List.mem_of_getElem? hcu)) (fun hne=>(h0 hne).1) (fun k u hk=>(hnews k u hk).2) hz
       (fun i y j c u hy hc hu=>by
        obtain⟨hk1,hk2⟩:=hnews _ u hu;obtain⟨i',j',y',cs',u',e1,hj',hy',hr,hcu,hc'⟩:=hcellk _ hk1;rw[hk2] at hc';cases hc';have hj:j<e.size:=by rw[←hz y (List.mem_of_getElem? hy)];exact (List.getElem?_eq_some_iff.1 hc).1
        have ei:i=i'∧j=j':=by
         have h5:=congrArg (· / e.size) e1;have h6:=congrArg (· % e.size) e1;simp only[Nat.mul_comm _ e.size,Nat.mul_add_div (show 0<e.size by omega),Nat.mul_add_mod,Nat.div_eq_of_lt hj,Nat.div_eq_of_lt hj',Nat.mod_eq_of_lt hj,Nat.mod_eq_of_lt hj'] at h5 h6;exact⟨oM,h6⟩
        obtain⟨rfl,rfl⟩:=ei;rw[hy] at hy';cases hy';exact hr.rep j c u hc hcu)
      rw[hes] at key;exact key
   ·cases hty
  | st fs=>
   simp only[Ty.ok,Bool.and_eq_true] at hty;obtain⟨h0,hty⟩:=hty;have e0:=Nat.eq_of_beq_eq_true h0;split at hty
   ·rename_i gs hu;obtain⟨xs,m,hm,_,hl,hxl,hget⟩:=DataW.trod_struct hu h;cases hm;obtain⟨ds,hd1,hd2⟩:=qTk n IH (cs:=cs) fs gs.toList 0 hty oM (fun g hg=>by
     obtain⟨i,hi⟩:=List.getElem?_of_mem hg;have hi':gs[i]?=some g:=by simpa using hi
     have hlt:i<xs.length:=by rw[hxl];exact (Array.getElem?_eq_some_iff.1 hi').1
     exact⟨xs[i],by rw[hget i g hi'];exact List.getElem?_eq_getElem hlt⟩)
    rw[List.drop_zero] at hd2;exact⟨.agg ds,⟨ds,hd1,rfl⟩,hd2⟩
   ·rename_i m te hu;simp only[Bool.and_eq_true] at hty;have e5:=Nat.eq_of_beq_eq_true hty.1;obtain⟨xs,m',hm,_,hl,hxl,hget⟩:=DataW.trod_array hu h;cases hm;obtain⟨ds,hd1,hd2⟩:=qW0 n IH (cs:=cs) fs 0 hty.2 oM (fun j hj=>by
     have hlt:j<xs.length:=oM;rw[Nat.zero_add];exact⟨xs[j],by rw[hget j oM];exact List.getElem?_eq_getElem hlt⟩)
    rw[Nat.zero_mul,List.drop_zero] at hd2;exact⟨.agg ds,⟨ds,hd1,rfl⟩,hd2⟩
   ·cases hty
theorem zIo {ty:Ty}{t:TypeId}{v:Value}{d:DataW H}{ps:List MemPlace}{b0:Nat}(hty:ty.ok P t=true)(hval:Value.okWide P w .any b0 t v)(h:DataW.Trod enc P w base sp held t v d ps) :
  ∃ y:T,ty.is y∧Rep (fun b=>b<w.heap.size) w y v:=by
 obtain⟨n,hn⟩:=h;have scalar : ∀ c,v=c→c.cells = #[c]→ty.size=1→(∀ y:T,ty.is y→y.cells=[y]) → ∃ y:T,ty.is y∧Rep (fun b=>b<w.heap.size) w y v:=by
  intro c hv hc hs hy;subst hv;rw[hc] at hn;obtain⟨y,h1,h2⟩:=qW1 n ty t _ _ hty (by rw[hs];rfl) hn;rw[hy y h1] at h2;exact⟨y,h1,h2.rep 0 y v rfl rfl⟩
 cases ty with
 | int k=>
  obtain⟨m,hv⟩:=okWide_int (zUy hty) hval;exact scalar _ hv rfl rfl (fun y hy=>by obtain⟨_,_,rfl⟩:=hy;rfl)
 | bool=>
  simp only[Ty.ok] at hty;split at hty
  ·rename_i hu;obtain⟨m,hv⟩:=okWide_bool hu hval;exact scalar _ hv rfl rfl (fun y hy=>by obtain⟨_,rfl⟩:=hy;rfl)
  ·cases hty
 | str=>
  simp only[Ty.ok] at hty;split at hty
  ·rename_i hu;obtain⟨m,hv⟩:=okWide_string hu hval;exact scalar _ hv rfl rfl (fun y hy=>by obtain⟨_,_,rfl⟩:=hy;rfl)
  ·cases hty
 | sl e=>
  have hty':=hty;simp only[Ty.ok] at hty';split at hty'
  ·rename_i te hu;obtain⟨a,l,c,hv⟩:=okWide_slice hu hval;exact scalar _ hv rfl rfl (fun y hy=>by obtain⟨_,_,_,rfl⟩:=hy;rfl)
  ·cases hty'
 | st fs=>
  have hagg : ∃ cs,v = .agg cs∧cs.size=P.cellsOf t:=by
   have hty':=hty;simp only[Ty.ok,Bool.and_eq_true] at hty';obtain⟨_,h2⟩:=hty';unfold Value.okWide at hval;split at h2
   ·rename_i hu;rw[hu] at hval;obtain⟨cs,h3,h4,_⟩:=hval;exact⟨cs,h3,h4⟩
   ·rename_i hu;rw[hu] at hval;obtain⟨cs,h3,h4,_⟩:=hval;exact⟨cs,h3,h4⟩
   ·cases h2
  obtain⟨cs,rfl,hsz⟩:=hagg;have hsz2:cs.size=Ty.sizeL fs:=by
   simp only[Ty.ok,Bool.and_eq_true] at hty;rw[hsz];exact Nat.eq_of_beq_eq_true hty.1
  obtain⟨y,h1,h2⟩:=qW1 n (.st fs) t _ _ hty (by show cs.toList.length=Ty.sizeL fs;simpa using hsz2) hn;obtain⟨ds,h3,rfl⟩:=h1;refine⟨.agg ds,⟨ds,h3,rfl⟩,.agg ds cs ?_ ?_ ?_⟩
  ·have:=h2.len;simpa [Value.cells,T.cells] using this.symm
  ·intro u hu;exact h2.one u (by simpa [Value.cells] using hu)
  ·intro i c u hc hu;exact h2.rep i c u hc (by simpa [Value.cells] using hu)
theorem zBc : ∀ {tys:List Ty} {ts:List TypeId} {vs:List Value} {ds:List (DataW H)} {ps:List MemPlace} {b0:Nat},qAh (fun (ty:Ty) (t:TypeId)=>ty.ok P t=true) tys ts→
  (∀ (j:Nat) t v,ts[j]?=some t→vs[j]?=some v→Value.okWide P w .any b0 t v)→DataW.TrodAll enc P w base sp held ts vs ds ps→
  ∃ ys:List T,qAh (fun (ty:Ty) (y:T)=>ty.is y) tys ys∧qAh (qV (fun _=>none) (fun b=>b<w.heap.size) w) (ys.map V.t) vs
 | [],ts,vs,ds,ps,b0,h,hv,hd=>by
  cases h;obtain⟨rfl,_,_⟩:=trodAll_nil hd;exact⟨[],.nil,.nil⟩
 | ty::tys,ts,vs,ds,ps,b0,h,hv,hd=>by
  cases h with
  | cons h1 h2=>
   obtain⟨v,vs',d,ds',p,q,rfl,rfl,rfl,hd1,hd2⟩:=trodAll_cons hd;obtain⟨y,hy1,hy2⟩:=zIo h1 (hv 0 _ v rfl rfl) hd1;obtain⟨ys,h3,h4⟩:=zBc h2 (fun j t v' ht hv'=>hv (j+1) t v' ht hv') hd2;exact⟨y::ys,.cons hy1 h3,.cons (.t hy2) h4⟩
end
end Go.Eng
end
