/- A part of an abstract machine, its walks, their tie. -/
import Derived.Test.YtekghmfbgbhobaaGreatDoorS11
import Derived.Conc.MuLone
import Derived.KernelRfl
import Derived.Test.YtekghmfbgbhobaaGreatDoorS10
set_option linter.all false
section
namespace Go.Eng
theorem zGk {ts:List T}{i:Nat}{v:V}(h:i<ts.length)(hv : ∀ x,v≠ .t x):qFg ((ts.map .t).set i v)=none:=by
 induction ts generalizing i with
 | nil=>simp at h
 | cons x r ih=>
  cases i with
  | zero=>
   rw[List.map_cons,List.set_cons_zero];cases v with
   | t y=>exact absurd rfl (hv y)
   | _=>rfl
  | succ i=>
   rw[List.map_cons,List.set_cons_succ,qSp,ih (by simpa using h)];rfl
theorem zDt {ts:List T}{i id off len:Nat}(h:i<ts.length):qFg ((ts.map .t).set i (.sl id off len))=none:=zGk h sM
theorem zAa {ts:List T}{i:Nat}{cs:List V}(h:i<ts.length):qFg ((ts.map .t).set i (.agg cs))=none:=zGk h sM
theorem zYz {n:Nat}{ts:List T}{i:Nat}{v:V}(h:i<ts.length):rdL (rdV n) ((ts.map .t).set i v)=(rdV n v).bind fun x=> .ret ((ts.map .t).set i x):=by
 induction ts generalizing i with
 | nil=>simp at h
 | cons x r ih=>
  cases i with
  | zero=>rw[List.map_cons,List.set_cons_zero,qYb,jEx];rfl
  | succ i=>
   rw[List.map_cons,List.set_cons_succ,qYb,zY3,ih (by simpa using h),qR2,qEf];rfl
theorem zKy {n:Nat}{ts:List T}:qDm (zM n) (ts.map .t) = .ret (ts.map .t,[]):=by
 induction ts with
 | nil=>rfl
 | cons x r ih=>rw[List.map_cons,qKc,zKz,qR2,ih,qR2];rfl
theorem zKx {n:Nat}{ts:List T}{i:Nat}{v:V}(h:i<ts.length):qDm (zM n) ((ts.map .t).set i v)=(zM n v).bind fun p=> .ret ((ts.map .t).set i p.1,p.2):=by
 induction ts generalizing i with
 | nil=>simp at h
 | cons x r ih=>
  cases i with
  | zero=>
   rw[List.map_cons,List.set_cons_zero,qKc,zKy];simp[Q.bind]
  | succ i=>
   rw[List.map_cons,List.set_cons_succ,qKc,zKz,qR2,ih (by simpa using h),qEf];rfl
theorem zRo {es:List V}{i:Nat}{v:V}(h:qTh es=true)(hv:v.single=true):qTh (es.set i v)=true:=by
 simp only[qTh,List.all_eq_true] at *;intro x hx;rcases List.mem_or_eq_of_mem_set hx with h1 | rfl
 ·exact h x h1
 ·exact hv
theorem zEp {l:List (List UInt8)}{i id off len:Nat}:qTh (((l.map bsT).map V.t).set i (.sl id off len))=true:=zRo zMs rfl
theorem jB2 {l:List (List UInt8)}{i:Nat}{x:List UInt8}:List.set (List.map bsT l) i (T.sl (List.map qA x))=List.map bsT (l.set i x):=by
 rw[List.map_set];rfl
attribute [go_sem] zDt zAa zYz zKy zKx zEp jB2
theorem qBh {tab:Tab}{gl:Gl}{a:AC}{fs fs':Fs}{hs hs':Hs}{Qx:qF0}(h:qI fs hs fs' hs')(hl:qP7 tab gl a fs' hs' Qx):qP7 tab gl a fs hs Qx:=by
 obtain⟨ι,I,μ,i0,h0,hr⟩:=hl;exact⟨ι,I,μ,i0,h.trans h0,hr⟩
end Go.Eng
end
section
set_option maxRecDepth 20000
namespace Go.Eng
open Go.MuLone
theorem jRc {P:Program}{G:Gl}{tab:Tab}{f:FuncId}{fn:Func}{c:Code}{ac:AC}{hints:List (Nat×List Nat)}{rs:List (Nat×Option (Nat×Bool))}(hf:P.funcs[f]?=some fn)(hname:(fn.name == "runtime.NumGoroutine")=false)(hb:fn.body=some c)(hann:ann P fn.ntmps hints c=some ac)(hmx:P.follows .mixedOrders=true)
  (ht:qFk P G tab) (hrs:qO0 P fn.results.toList=some rs) (ct:Ct) (hn : ∀ x,(ct.aS x).length≤fn.ntmps) (hi : ∀ x,(ct.ins x).length≤100)
  (h : ∀ x,ct.pre x→ac.wp tab G (qD 0 (ct.aS x)) (qD 0 (ct.ins x)) (qY rs (ct.ins x).length (fun r' o'=>r'=ct.r x∧o'=ct.outs x))):FOk P G f ct.fs:=
 ct.ok (fun args w=>run_callFunc_enter hf hname hb args w) (fun x hx=>zE5 hf hb hann hmx ht hrs (hn x) (hi x) (h x hx))
theorem jRa {P:Program}{G:Gl}{tab:Tab}{f:FuncId}{fn:Func}{c:Code}{ac:AC}{hints:List (Nat×List Nat)}{rs:List (Nat×Option (Nat×Bool))}(fz:List Nat)(hf:P.funcs[f]?=some fn)(hname:(fn.name == "runtime.NumGoroutine")=false)(hb:fn.body=some c)(hann:ann P fn.ntmps hints c=some ac)(hmx:P.follows .mixedOrders=true)
  (ht:qFk P G tab) (hrs:qO0 P fn.results.toList=some rs) (ct:Ct) (hn : ∀ x,(ct.aS x).length≤fn.ntmps) (hi : ∀ x,(ct.ins x).length≤100)
  (h : ∀ x,ct.pre x→ac.wp tab G (qD 0 (ct.aS x)) (qD 0 (ct.ins x)) (xU fz rs (ct.ins x).length (fun r' o'=>r'=ct.r x∧o'=ct.outs x))):FOk P G f ct.fs:=
 ct.ok (fun args w=>run_callFunc_enter hf hname hb args w) (fun x hx=>zBx fz hf hb hann hmx ht hrs (hn x) (hi x) (h x hx))
theorem jRb {P:Program}{G:Gl}{tab:Tab}{f:FuncId}{fn:Func}{c:Code}{ac:AC}{hints:List (Nat×List Nat)}{rs:List (Nat×Option (Nat×Bool))}(hf:P.funcs[f]?=some fn)(hb:fn.body=some c)(hann:ann P fn.ntmps hints c=some ac)(hmx:P.follows .mixedOrders=true)
  (ht:qFk P G tab) (hrs:qO0 P fn.results.toList=some rs) {aS:List V} (hn:aS.length≤fn.ntmps)
  (h:ac.wp tab G (qD 0 aS) (qD 0 []) (qY rs 0 (fun r o=>r = .t (.bool true)∧o=[]))):qXf P G f aS [] (.t (.bool true)) []:=
 zE5 hf hb hann hmx ht hrs hn (Nat.zero_le _) h
theorem zTi {P:Program}{G:Gl}{tab:Tab}{f:FuncId}(fn:Func)(hints:List (Nat×List Nat))(ac:AC)(rs:List (Nat×Option (Nat×Bool)))(ht:qFk P G tab){aS:List V}
  (h:ac.wp tab G (qD 0 aS) (qD 0 []) (qY rs 0 (fun r o=>r = .t (.bool true)∧o=[])))
  (hf:P.funcs[f]?=some fn:=by kernel_rfl) (hb:fn.body=some (fn.body.getD .skip):=by kernel_rfl) (hann:ann P fn.ntmps hints (fn.body.getD .skip)=some ac:=by kernel_rfl) (hmx:P.follows .mixedOrders=true:=by kernel_rfl)
  (hrs:qO0 P fn.results.toList=some rs:=by kernel_rfl) (hn:aS.length≤fn.ntmps:=by exact Nat.le_of_ble_eq_true (by kernel_rfl)):qXf P G f aS [] (.t (.bool true)) []:=jRb hf hb hann hmx ht hrs hn h
end Go.Eng
end
section
set_option maxRecDepth 20000
namespace Go.Eng
open Go.MuLone
structure ECt where
 α:Type
 β:Type
 d:β:=by exact default
 aS:α→List V
 ins:α→List Ob:=fun _=>[]
 pre:α→Prop
 r:β→V
 outs:β→List Ob:=fun _=>[]
 R:α→β→Prop
 inj : ∀ x y,aS x=aS y→ins x=ins y→x=y:=by simp only[Prod.forall,qXx,jIx,Prod.mk.injEq];intros;assumption
structure EF (E:ECt) where
 F:E.α→E.β
 ok : ∀ x,E.pre x→E.R x (F x)
def ECt.ct (E:ECt)(G:EF E):Ct:=⟨E.α,E.aS,E.ins,E.pre,fun x=>E.r (G.F x),fun x=>E.outs (G.F x),fun x y h h'=>by rw[E.inj x y h h'];exact⟨rfl,rfl⟩⟩
noncomputable def ECt.fs (E:ECt)(G:EF E):FnS:=(E.ct G).fs
theorem ECt.eq (E:ECt)(G:EF E)(x:E.α)(h:E.pre x) : ∃ y,E.R x y∧E.fs G (E.aS x) (E.ins x)=some (E.r y,E.outs y):=⟨G.F x,G.ok x h,(E.ct G).eq x h⟩
theorem fnQ (E:ECt){g:EF E}(x:E.α)(h:E.pre x){e:E.β}(hr : ∀ y,E.R x y→y=e:=by exact fun _ h=>h):E.fs g (E.aS x) (E.ins x)=some (E.r e,E.outs e):=by
 obtain⟨y,h1,h2⟩:=E.eq g x h;cases hr y h1;exact h2
theorem EF.ok_of {P:Program}{G:Gl}{f:FuncId}(E:ECt)(hc : ∀ args w,(callFunc f args).run P w = .ok (.enter f args) w)
  (h : ∀ x,E.pre x → ∃ y,E.R x y∧qXf P G f (E.aS x) (E.ins x) (E.r y) (E.outs y)) : ∃ g:EF E,FOk P G f (E.fs g):=by
 classical
 refine⟨⟨fun x=>if hx:E.pre x then (h x hx).choose else E.d,fun x hx=>?_⟩,(E.ct _).ok hc (fun x hx=>?_)⟩
 ·simp only[dif_pos hx];exact (h x hx).choose_spec.1
 ·show qXf P G f (E.aS x) (E.ins x) (E.r _) (E.outs _);simp only[dif_pos (show E.pre x from hx)];exact (h x hx).choose_spec.2
def ECt.K (E:ECt)(x:E.α)(r:V)(o:List Ob):Prop := ∃ y,E.R x y∧r=E.r y∧o=E.outs y
theorem zZg {rs:List (Nat×Option (Nat×Bool))}{n:Nat}{κ:Type}{A:κ→V→List Ob→Prop}{e:AE}{fs:Fs}{hs:Hs}(h:qY rs n (fun r o => ∃ y,A y r o) e fs hs) : ∃ y,qY rs n (A y) e fs hs:=by
 cases e with
 | exit id=>exact h.elim
 | normal=>obtain⟨p,l,h1,y,h2⟩:=h;exact⟨y,p,l,h1,h2⟩
 | ret=>obtain⟨p,l,h1,y,h2⟩:=h;exact⟨y,p,l,h1,h2⟩
theorem zZf {fz:List Nat}{rs:List (Nat×Option (Nat×Bool))}{n:Nat}{κ:Type}{A:κ→V→List Ob→Prop}{e:AE}{fs:Fs}{hs:Hs}(h:xU fz rs n (fun r o => ∃ y,A y r o) e fs hs) : ∃ y,xU fz rs n (A y) e fs hs:=by
 cases e with
 | exit id=>exact h.elim
 | normal=>
  obtain⟨p,l,h1,p2,l2,h2,y,h3⟩:=h;exact⟨y,p,l,h1,p2,l2,h2,h3⟩
 | ret=>
  obtain⟨p,l,h1,p2,l2,h2,y,h3⟩:=h;exact⟨y,p,l,h1,p2,l2,h2,h3⟩
theorem zUn {α:Type}{R A:α→Prop}(h : ∃ y,R y∧A y) : ∃ z : { y // R y },A z.1:=let ⟨y,h1,h2⟩:=h;⟨⟨y,h1⟩,h2⟩
theorem jK3 {P:Program}{G:Gl}{tab:Tab}{f:FuncId}(fn:Func)(hints:List (Nat×List Nat))(ac:AC)(rs:List (Nat×Option (Nat×Bool)))(ht:qFk P G tab)(E:ECt)
  (h : ∀ x,E.pre x→ac.wp tab G (qD 0 (E.aS x)) (qD 0 (E.ins x)) (qY rs (E.ins x).length (E.K x)))
  (hf:P.funcs[f]?=some fn:=by kernel_rfl) (hname:(fn.name == "runtime.NumGoroutine")=false:=by kernel_rfl) (hb:fn.body=some (fn.body.getD .skip):=by kernel_rfl) (hann:ann P fn.ntmps hints (fn.body.getD .skip)=some ac:=by kernel_rfl) (hmx:P.follows .mixedOrders=true:=by kernel_rfl)
  (hrs:qO0 P fn.results.toList=some rs:=by kernel_rfl) (hst:ac.strict=true:=by kernel_rfl) (hn : ∀ x,(E.aS x).length≤fn.ntmps:=by exact fun _=>Nat.le_of_ble_eq_true (by kernel_rfl)) (hi : ∀ x,(E.ins x).length≤100:=by exact fun _=>Nat.le_of_ble_eq_true (by kernel_rfl)) : ∃ g:EF E,FOk P G f (E.fs g):=
 EF.ok_of E (fun args w=>run_callFunc_enter hf hname hb args w) (fun x hx=>by
  obtain⟨z,hz⟩:=zDl (Q:=fun z : { y // E.R x y }=>qY rs (E.ins x).length (fun r o=>r=E.r z.1∧o=E.outs z.1)) hst (zX (fun e f g hq=>by
   obtain⟨y,hy⟩:=zZg hq;have : ∃ y,E.R x y∧qY rs (E.ins x).length (fun r o=>r=E.r y∧o=E.outs y) e f g:=by
    cases e with
    | exit id=>exact hy.elim
    | normal=>obtain⟨p,l,h1,h2,h3⟩:=hy;exact⟨y,h2,p,l,h1,h3⟩
    | ret=>obtain⟨p,l,h1,h2,h3⟩:=hy;exact⟨y,h2,p,l,h1,h3⟩
   exact zUn this) (h x hx))
  exact⟨z.1,z.2,zE5 hf hb hann hmx ht hrs (hn x) (hi x) hz⟩)
theorem jK4 {P:Program}{G:Gl}{tab:Tab}{f:FuncId}(fz:List Nat)(fn:Func)(hints:List (Nat×List Nat))(ac:AC)(rs:List (Nat×Option (Nat×Bool)))(ht:qFk P G tab)(E:ECt)
  (h : ∀ x,E.pre x→ac.wp tab G (qD 0 (E.aS x)) (qD 0 (E.ins x)) (xU fz rs (E.ins x).length (E.K x)))
  (hf:P.funcs[f]?=some fn:=by kernel_rfl) (hname:(fn.name == "runtime.NumGoroutine")=false:=by kernel_rfl) (hb:fn.body=some (fn.body.getD .skip):=by kernel_rfl) (hann:ann P fn.ntmps hints (fn.body.getD .skip)=some ac:=by kernel_rfl) (hmx:P.follows .mixedOrders=true:=by kernel_rfl)
  (hrs:qO0 P fn.results.toList=some rs:=by kernel_rfl) (hst:ac.strict=true:=by kernel_rfl) (hn : ∀ x,(E.aS x).length≤fn.ntmps:=by exact fun _=>Nat.le_of_ble_eq_true (by kernel_rfl)) (hi : ∀ x,(E.ins x).length≤100:=by exact fun _=>Nat.le_of_ble_eq_true (by kernel_rfl)) : ∃ g:EF E,FOk P G f (E.fs g):=
 EF.ok_of E (fun args w=>run_callFunc_enter hf hname hb args w) (fun x hx=>by
  obtain⟨z,hz⟩:=zDl (Q:=fun z : { y // E.R x y }=>xU fz rs (E.ins x).length (fun r o=>r=E.r z.1∧o=E.outs z.1)) hst (zX (fun e f g hq=>by
   obtain⟨y,hy⟩:=zZf hq;have : ∃ y,E.R x y∧xU fz rs (E.ins x).length (fun r o=>r=E.r y∧o=E.outs y) e f g:=by
    cases e with
    | exit id=>exact hy.elim
    | normal=>obtain⟨p,l,h1,p2,l2,h2,h3,h4⟩:=hy;exact⟨y,h3,p,l,h1,p2,l2,h2,h4⟩
    | ret=>obtain⟨p,l,h1,p2,l2,h2,h3,h4⟩:=hy;exact⟨y,h3,p,l,h1,p2,l2,h2,h4⟩
   exact zUn this) (h x hx))
  exact⟨z.1,z.2,zBx fz hf hb hann hmx ht hrs (hn x) (hi x) hz⟩)
theorem qN:(∀ b:Bool,((!b)=true)=(b=false))∧(∀ b:Bool,((!b)=false)=(b=true))∧(∀ (p:Prop) [Decidable p],(decide p=true)=p)∧(∀ (p:Prop) [Decidable p],(decide p=false) = ¬ p)∧(∀ p:Prop,(¬ ¬ p)=p)∧
  (∀ a b:Int,((a==b)=true)=(a=b))∧(∀ a b:Int,((a==b)=false) = ¬ (a=b))∧(∀ a b:Int,((a != b)=true) = ¬ (a=b))∧(∀ a b:Int,((a != b)=false)=(a=b)):=by
 refine⟨sM,sM,sM,sM,sM,sM,sM,sM,sM⟩
abbrev LkE (tab:Tab)(n:Nat)(E:ECt)(g:EF E):Prop:=tab.look n=some (E.fs g)
end Go.Eng
end
section
namespace Go.Eng
theorem jPn {α:Type}:(∀ (n:Nat) (l:List α),(l.take n).length=min n l.length)∧(∀ (n:Nat) (l:List α),(l.drop n).length=l.length-n)∧(∀ (l m:List α),(l++m).length=l.length+m.length)∧(∀ (a:α) (l:List α),(a::l).length=l.length+1)∧(([]:List α).length=0)∧(∀ (n:Nat) (a:α),(List.replicate n a).length=n)∧(∀ (l:List α) (n:Nat) (a:α),(l.set n a).length=l.length):=sM
theorem jP9 {α γ:Type}(f:α→γ)(l:List α):(l.map f).length=l.length:=List.length_map f
theorem dS {p:Prop}(h:p:=by first|omega|(simp only[jPn,jP9];omega)):p:=h
theorem aiG {a b:Prop}(k:b)(h:a:=by first|rfl|omega):a∧b:=⟨h,k⟩
attribute [go_sem] Bool.false_eq_true Int.toNat_natCast Bool.and_self false_and and_false or_true true_or or_false false_or Bool.or_self Bool.or_true Bool.true_or Bool.or_false Bool.false_or Bool.and_false Bool.false_and not_true_eq_false not_false_eq_true and_self List.length_append List.length_set List.take_length Option.getD_some Option.getD_none false_implies implies_true Option.some.injEq forall_eq_apply_imp_iff forall_eq forall_eq' List.length_drop List.length_take List.getElem?_drop Nat.mul_one Nat.one_mul Nat.zero_add Nat.add_zero Nat.sub_zero Nat.add_sub_cancel_left Nat.add_sub_cancel jRe jRg jRf zA4 zEn zK4 zOs zS8 zQs jP6 jI2 jP7 jPm jD7 zX4 zRf jD9 zX6 zX8 zYb zYa zX5 jGk Nat.min_eq_left Nat.min_eq_right jEa zX9 zX7 jD8 Int.cast_ofNat_Int Int.natCast_zero Int.natCast_one
variable {tab:Tab} {gl:Gl} {fs:Fs} {hs:Hs} {Qx:qF0} {fm:Nat→Option V} {nb:Nat} {K:V×Wr→List Nat→Prop}
def mv (d s:Nat):zU:=⟨some d,.op .mov,[.tmp s],none⟩
theorem jQj {d s:Nat}:((mv d s).q tab gl fm nb).wp hs K=((⟨some d,.op .mov,[.tmp s],none⟩:zU).q tab gl fm nb).wp hs K:=Eq.trans (Eq.refl _) rfl
theorem jQi {d s:Nat}:(mv d s).dst=some d:=Eq.trans (Eq.refl _) rfl
def mG (d s t:Nat):zU:=⟨some d,.op .mov,[.tmp s],some (t,true)⟩
theorem jQh {d s t:Nat}:((mG d s t).q tab gl fm nb).wp hs K=((⟨some d,.op .mov,[.tmp s],some (t,true)⟩:zU).q tab gl fm nb).wp hs K:=Eq.trans (Eq.refl _) rfl
theorem jQg {d s t:Nat}:(mG d s t).dst=some d:=Eq.trans (Eq.refl _) rfl
def mC (d:Nat)(v:V):zU:=⟨some d,.op .mov,[.cst v],none⟩
theorem jQd {d:Nat}{v:V}:((mC d v).q tab gl fm nb).wp hs K=((⟨some d,.op .mov,[.cst v],none⟩:zU).q tab gl fm nb).wp hs K:=Eq.trans (Eq.refl _) rfl
theorem jQc {d:Nat}{v:V}:(mC d v).dst=some d:=Eq.trans (Eq.refl _) rfl
def oO (d:Nat)(a:AO)(xs:List qFi):zU:=⟨some d,.op a,xs,none⟩
theorem jQp {d:Nat}{a:AO}{xs:List qFi}:((oO d a xs).q tab gl fm nb).wp hs K=((⟨some d,.op a,xs,none⟩:zU).q tab gl fm nb).wp hs K:=Eq.trans (Eq.refl _) rfl
theorem jQo {d:Nat}{a:AO}{xs:List qFi}:(oO d a xs).dst=some d:=Eq.trans (Eq.refl _) rfl
def oG (d t:Nat)(a:AO)(xs:List qFi):zU:=⟨some d,.op a,xs,some (t,true)⟩
theorem jQn {d t:Nat}{a:AO}{xs:List qFi}:((oG d t a xs).q tab gl fm nb).wp hs K=((⟨some d,.op a,xs,some (t,true)⟩:zU).q tab gl fm nb).wp hs K:=Eq.trans (Eq.refl _) rfl
theorem jQm {d t:Nat}{a:AO}{xs:List qFi}:(oG d t a xs).dst=some d:=Eq.trans (Eq.refl _) rfl
def bT (d:Nat)(o:BinOp)(x y:Nat):zU:=⟨some d,.op (.bin o),[.tmp x,.tmp y],none⟩
theorem jPx {d:Nat}{o:BinOp}{x y:Nat}:((bT d o x y).q tab gl fm nb).wp hs K=((⟨some d,.op (.bin o),[.tmp x,.tmp y],none⟩:zU).q tab gl fm nb).wp hs K:=Eq.trans (Eq.refl _) rfl
theorem jPw {d:Nat}{o:BinOp}{x y:Nat}:(bT d o x y).dst=some d:=Eq.trans (Eq.refl _) rfl
def bN (d:Nat)(o:BinOp)(x:Nat)(n:Int):zU:=⟨some d,.op (.bin o),[.tmp x,.cst (.t (.int .i64 n))],none⟩
theorem jPv {d:Nat}{o:BinOp}{x:Nat}{n:Int}:((bN d o x n).q tab gl fm nb).wp hs K=((⟨some d,.op (.bin o),[.tmp x,.cst (.t (.int .i64 n))],none⟩:zU).q tab gl fm nb).wp hs K:=Eq.trans (Eq.refl _) rfl
theorem jPu {d:Nat}{o:BinOp}{x:Nat}{n:Int}:(bN d o x n).dst=some d:=Eq.trans (Eq.refl _) rfl
def cL (d f:Nat)(k:Bool)(xs:List qFi):zU:=⟨some d,.call f k,xs,none⟩
theorem jP4 {d f:Nat}{k:Bool}{xs:List qFi}:((cL d f k xs).q tab gl fm nb).wp hs K=((⟨some d,.call f k,xs,none⟩:zU).q tab gl fm nb).wp hs K:=Eq.trans (Eq.refl _) rfl
theorem jP3 {d f:Nat}{k:Bool}{xs:List qFi}:(cL d f k xs).dst=some d:=Eq.trans (Eq.refl _) rfl
def mF (d s t:Nat):zU:=⟨some d,.op .mov,[.tmp s],some (t,false)⟩
theorem jQf {d s t:Nat}:((mF d s t).q tab gl fm nb).wp hs K=((⟨some d,.op .mov,[.tmp s],some (t,false)⟩:zU).q tab gl fm nb).wp hs K:=Eq.trans (Eq.refl _) rfl
theorem jQe {d s t:Nat}:(mF d s t).dst=some d:=Eq.trans (Eq.refl _) rfl
def oF (d t:Nat)(a:AO)(xs:List qFi):zU:=⟨some d,.op a,xs,some (t,false)⟩
theorem jQl {d t:Nat}{a:AO}{xs:List qFi}:((oF d t a xs).q tab gl fm nb).wp hs K=((⟨some d,.op a,xs,some (t,false)⟩:zU).q tab gl fm nb).wp hs K:=Eq.trans (Eq.refl _) rfl
theorem jQk {d t:Nat}{a:AO}{xs:List qFi}:(oF d t a xs).dst=some d:=Eq.trans (Eq.refl _) rfl
def cG (d t f:Nat)(k:Bool)(xs:List qFi):zU:=⟨some d,.call f k,xs,some (t,true)⟩
theorem jP2 {d t f:Nat}{k:Bool}{xs:List qFi}:((cG d t f k xs).q tab gl fm nb).wp hs K=((⟨some d,.call f k,xs,some (t,true)⟩:zU).q tab gl fm nb).wp hs K:=Eq.trans (Eq.refl _) rfl
theorem jP1 {d t f:Nat}{k:Bool}{xs:List qFi}:(cG d t f k xs).dst=some d:=Eq.trans (Eq.refl _) rfl
def cF (d t f:Nat)(k:Bool)(xs:List qFi):zU:=⟨some d,.call f k,xs,some (t,false)⟩
theorem jP0 {d t f:Nat}{k:Bool}{xs:List qFi}:((cF d t f k xs).q tab gl fm nb).wp hs K=((⟨some d,.call f k,xs,some (t,false)⟩:zU).q tab gl fm nb).wp hs K:=Eq.trans (Eq.refl _) rfl
theorem jPz {d t f:Nat}{k:Bool}{xs:List qFi}:(cF d t f k xs).dst=some d:=Eq.trans (Eq.refl _) rfl
attribute [go_sem ↓] jQf jQl jP2 jP0
attribute [go_sem] jQe jQk jP1 jPz
def oS (n x y:Nat):zU:=⟨none,.op (.store n),[.tmp x,.tmp y],none⟩
theorem jQr {n x y:Nat}:((oS n x y).q tab gl fm nb).wp hs K=((⟨none,.op (.store n),[.tmp x,.tmp y],none⟩:zU).q tab gl fm nb).wp hs K:=Eq.trans (Eq.refl _) rfl
theorem jQq {n x y:Nat}:(oS n x y).dst=none:=Eq.trans (Eq.refl _) rfl
def rG (nb:Nat)(os:List zU):AC:= .reg nb none os
theorem jQs {os:List zU}:(rG nb os).wp tab gl fs hs Qx=(AC.reg nb none os).wp tab gl fs hs Qx:=Eq.trans (Eq.refl _) rfl
attribute [go_sem ↓] jQs jQj jQh jQd jQp jQn jPx jPv jP4 jQr
attribute [go_sem] jQi jQg jQc jQo jQm jPw jPu jP3 jQq
attribute [go_sem] Int.reduceAdd Int.reduceBEq Int.reduceDiv Int.reduceEq Int.reduceFDiv Int.reduceGE Int.reduceGT Int.reduceLE Int.reduceLT Int.reduceMod Int.reduceMul Int.reduceNeg Int.reducePow Int.reduceSub Int.reduceTDiv Int.reduceTMod Int.reduceToNat Nat.reduceAdd Nat.reduceBEq Nat.reduceBneDiff Nat.reduceDiv Nat.reduceEqDiff Nat.reduceGT Nat.reduceLT Nat.reduceLeDiff Nat.reduceMod Nat.reduceMul Nat.reducePow Nat.reduceSub reduceCtorEq
attribute [go_sem ↓] reduceIte
theorem mcn {α β:Type}:(∀ (f:α→β) (a:α) (l:List α),List.map f (a::l)=f a::List.map f l) ∧ ∀ f:α→β,List.map f []=[]:=⟨fun _ _ _=>rfl,fun _=>rfl⟩
theorem oms {α β:Type}{f:α→β}{a:α}:Option.map f (some a)=some (f a):=rfl
end Go.Eng
end
section
namespace Go.Eng
def qKm (s:List UInt8):T:= .str ⟨s.toArray⟩
theorem zTf {s:List UInt8}:T.str ⟨s.toArray⟩=qKm s:=Eq.trans (Eq.refl _) rfl
theorem qSv (b:ByteArray) : ∀ (n i:Nat) (r:List UInt8),n=b.size-i→ByteArray.toList.loop b i r=r.reverse++b.data.toList.drop i
 | 0,i,r,h=>by
  unfold ByteArray.toList.loop;rw[if_neg oM];have:b.data.toList.drop i=[]:=List.drop_eq_nil_of_le (by have:b.data.toList.length=b.size:=rfl;omega);rw[this,List.append_nil]
 | n+1,i,r,h=>by
  unfold ByteArray.toList.loop;have hi:i<b.size:=oM;have hl:b.data.toList.length=b.size:=rfl;rw[if_pos hi,qSv b n (i+1) _ oM];have e:b.data.toList.drop i=b.data.toList[i]'(oM)::b.data.toList.drop (i+1):=List.drop_eq_getElem_cons oM;rw[e];have e2:b.get! i=b.data.toList[i]'(oM):=by
   show b.data[i]! = _;have hi':i<b.data.size:=hi;rw[getElem!_pos b.data i hi'];simp
  rw[e2];simp
theorem zGo {s:List UInt8}:(ByteArray.mk s.toArray).toList=s:=by
 unfold ByteArray.toList;rw[qSv _ _ 0 [] rfl];simp
theorem zP5 {a b:List UInt8}:qCv .eql (qKm a) (qKm b)=some (.bool (decide (a=b))):=by
 show some (T.bool ((ByteArray.mk a.toArray).toList==(ByteArray.mk b.toArray).toList))=_;rw[zGo,zGo];by_cases h:a=b<;>simp[h]
theorem zP6 {a b:List UInt8}:qCv .neq (qKm a) (qKm b)=some (.bool (!decide (a=b))):=by
 show some (T.bool (!((ByteArray.mk a.toArray).toList==(ByteArray.mk b.toArray).toList)))=_;rw[zGo,zGo];by_cases h:a=b<;>simp[h]
theorem zKj {a b:List UInt8}(h:a.length+b.length≤9223372036854775807):qCv .add (qKm a) (qKm b)=some (qKm (a++b)):=by
 show (if (ByteArray.mk a.toArray).size+(ByteArray.mk b.toArray).size≤maxLen then some (T.str (ByteArray.mk a.toArray++ByteArray.mk b.toArray)) else none)=_;have h1:(ByteArray.mk a.toArray).size=a.length:=rfl;have h2:(ByteArray.mk b.toArray).size=b.length:=rfl;have h3:maxLen=9223372036854775807:=by decide
 rw[h1,h2,h3,if_pos h];have e:ByteArray.mk a.toArray++ByteArray.mk b.toArray=⟨(a++b).toArray⟩:=by
  apply ByteArray.ext;simp[ByteArray.data_append]
 rw[e];rfl
theorem zOd {a:List UInt8}:qQf [.t (qKm a)] = .ret (.t (.int .i64 a.length),[]):=Eq.trans (Eq.refl _) rfl
theorem zEz {a:List UInt8}{k:IntKind}{i:Nat}(h:i<a.length):qFx [.t (qKm a),.t (.int k (i:Nat))] = .ret (.t (qA (a.getD i 0)),[]):=by
 have e:(ByteArray.mk a.toArray).data.toList[(i:Int).toNat]?=some (a.getD i 0):=by simp[List.getD,h]
 simp only[qKm,qFx,vO,Q.of,Q.bind,Q.assert,e];rw[if_pos oM]
theorem zSl {a:List UInt8}{nb:Nat}:qW4 nb [.t (qKm a)]=Q.assert (qCa a.length 1) (.free nb (.ret (.sl nb 0 a.length,[(nb,.live 1 ((a.map qA).map V.t) true false)]))):=by
 have h1:(ByteArray.mk a.toArray).size=a.length:=rfl;have h2:((ByteArray.mk a.toArray).data.toList.map fun b=>V.t (qA b))=(a.map qA).map V.t:=by simp[List.map_map,Function.comp_def]
 simp only[qKm,qW4,h1,h2]
theorem zAh {bs:List UInt8}:qG2 ((bs.map qA).map V.t)=some bs:=by
 have:=qOg (bs:=bs);rw[List.map_map];exact this
theorem zHr {a b:List UInt8}:(qKm a=qKm b)=(a=b):=by
 apply propext;constructor
 ·intro h;have h1:=congrArg (fun x=>match x with | T.str s=>s.data.toList | _=>[]) h;simpa [qKm] using h1
 ·rintro rfl;rfl
theorem jAc {s:List UInt8}:(qKm s).cells=[qKm s]:=Eq.trans (Eq.refl _) rfl
theorem jAn {s:List UInt8}:(V.t (qKm s)).cells=[V.t (qKm s)]:=Eq.trans (Eq.refl _) rfl
theorem jAt {s:List UInt8}:(V.t (qKm s)).plain=true:=Eq.trans (Eq.refl _) rfl
theorem zE2 {s:List UInt8}:(V.t (qKm s)).single=true:=Eq.trans (Eq.refl _) rfl
theorem zLo {s:List UInt8}:(qKm s).flat=true:=Eq.trans (Eq.refl _) rfl
attribute [go_sem ↓] zP5 zP6 zKj zOd zEz zSl
attribute [go_sem] zTf zAh zHr jAc jAn jAt zE2 zLo
end Go.Eng
end
section
namespace Go.Eng
variable {tab:Tab} {gl:Gl} {fs:Fs} {hs:Hs} {Qx:qF0}
def qAf {σ:Type}(Inv:σ→Prop)(μ:σ→Nat)(fI:σ→Fs)(hI:σ→Hs)(s:σ)(fs:Fs)(hs:Hs):Prop := ∃ t,Inv t∧μ t<μ s∧qI fs hs (fI t) (hI t)
def jH3 {σ:Type}(Inv:σ→Prop)(μ:σ→Nat)(fI:σ→Fs)(hI:σ→Hs)(s:σ)(Qx:qF0):qF0:=fun e fs' hs'=>match e with | .normal=>qAf Inv μ fI hI s fs' hs' | e=>Qx e fs' hs'
theorem zEm {σ:Type}{Inv:σ→Prop}{μ:σ→Nat}{fI:σ→Fs}{hI:σ→Hs}{s:σ}:jH3 Inv μ fI hI s Qx .normal fs hs=qAf Inv μ fI hI s fs hs:=Eq.trans (Eq.refl _) rfl
theorem zL4 {σ:Type}{Inv:σ→Prop}{μ:σ→Nat}{fI:σ→Fs}{hI:σ→Hs}{s:σ}{id:Nat}:jH3 Inv μ fI hI s Qx (.exit id) fs hs=Qx (.exit id) fs hs:=Eq.trans (Eq.refl _) rfl
theorem zQx {σ:Type}{Inv:σ→Prop}{μ:σ→Nat}{fI:σ→Fs}{hI:σ→Hs}{s:σ}:jH3 Inv μ fI hI s Qx .ret fs hs=Qx .ret fs hs:=Eq.trans (Eq.refl _) rfl
attribute [go_sem] zEm zL4 zQx
theorem qAf.of {σ:Type}{Inv:σ→Prop}{μ:σ→Nat}{fI:σ→Fs}{hI:σ→Hs}{s:σ}(t:σ)(h1:Inv t)(h2:μ t<μ s)(h3:qI fs hs (fI t) (hI t)):qAf Inv μ fI hI s fs hs:=⟨t,h1,h2,h3⟩
theorem qW {a:AC}{σ:Type}(Inv:σ→Prop)(μ:σ→Nat)(fI:σ→Fs)(hI:σ→Hs)(s0:σ)(hP:Inv s0)(h0:qI fs hs (fI s0) (hI s0))(h : ∀ s,Inv s→a.wp tab gl (fI s) (hI s) (jH3 Inv μ fI hI s Qx)):qP7 tab gl a fs hs Qx:=by
 refine qJ2 (ι := { s:σ // Inv s }) (fun i=>(fI i.1,hI i.1)) (fun i=>μ i.1) ⟨s0,hP⟩ h0 (fun i=>?_);refine zX (fun e f g hq=>?_) (h i.1 i.2);cases e with
 | normal=>
  obtain⟨t,h1,h2,h3⟩:=hq;exact⟨⟨t,h1⟩,h2,h3⟩
 | exit id=>exact hq
 | ret=>exact hq
end Go.Eng
end
section
set_option maxRecDepth 20000
namespace Go.Eng
theorem u8f (n:Nat)(h:n<256):T.int .u8 (no_index (OfNat.ofNat n))=qA (OfNat.ofNat n):=by
 have e:(UInt8.ofNat n).toNat=n:=by rw[UInt8.toNat_ofNat'];omega
 show T.int .u8 (Int.ofNat n)=T.int .u8 (((UInt8.ofNat n).toNat:Nat):Int);rw[e];rfl
theorem jRd (n:Nat)(h:n<4294967296):T.int .u32 (no_index (OfNat.ofNat n))=zW (OfNat.ofNat n):=by
 have e:(UInt32.ofNat n).toNat=n:=by rw[UInt32.toNat_ofNat'];omega
 show T.int .u32 (Int.ofNat n)=T.int .u32 (((UInt32.ofNat n).toNat:Nat):Int);rw[e];rfl
theorem jQ9 (s:List UInt8):T.str ⟨Array.mk s⟩=qKm s:=rfl
theorem jQ3 (x:V):[x,x,x,x,x,x,x,x,x,x,x,x,x,x,x,x,x,x,x,x,x,x,x,x,x,x,x,x,x,x,x,x,x,x,x,x,x,x,x,x,x,x,x,x,x,x,x,x,x,x,x,x,x,x,x,x,x,x,x,x,x,x,x,x]=List.replicate 64 x:=rfl
theorem jQ4 (x:V):[x,x,x,x,x,x,x,x,x,x,x,x,x,x,x,x,x,x,x,x,x,x,x,x,x,x,x,x,x,x,x,x,x,x,x,x,x,x,x,x,x,x,x,x,x,x,x,x,x,x,x,x,x,x,x,x,x,x,x,x,x,x,x,x,x,x,x,x,x,x,x,x,x,x,x,x,x,x,x,x]=List.replicate 80 x:=rfl
theorem jKc (x:V):[x,x,x,x,x,x,x,x,x,x,x,x,x,x,x,x,x,x,x,x,x,x,x,x,x,x,x,x,x,x,x,x,x,x,x,x,x,x,x,x,x,x,x,x,x,x,x,x,x,x,x,x,x,x,x,x,x,x,x,x,x,x,x,x,x,x,x,x,x,x,x,x,x,x,x,x,x,x,x,x,x,x,x,x,x,x,x,x,x,x,x,x,x,x,x,x,x,x,x,x,x,x,x,x,x,x,x,x,x,x,x,x,x,x,x,x,x,x,x,x,x,x,x,x,x,x,x,x,x,x,x,x,x,x,x,x]=List.replicate 136 x:=rfl
end Go.Eng
end
