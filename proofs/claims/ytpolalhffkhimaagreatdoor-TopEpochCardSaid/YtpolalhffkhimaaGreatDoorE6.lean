/- A part of an abstract machine, its walks, their tie. -/
import Derived.Test.YtpolalhffkhimaaGreatDoorE5
set_option linter.all false
section
namespace Go.Eng
variable {β:Nat→Option BI} {F:Nat→Prop} {w:World} {cx:Cx} {fm:Nat→Option V} {hm:Nat→Option Ob} {a:Act}
inductive qFs where
 | tmp (t:Nat)
 | cst (v:V)
 | glob (g:Nat)
 deriving Inhabited
inductive AK where
 | op (ao:AO)
 | call (f:FuncId) (keep:Bool)
 | callv (keep:Bool)
 deriving Inhabited
structure zS where
 dst:Option Nat
 k:AK
 args:List qFs
 guard:Option (Nat×Bool)
 deriving Inhabited
abbrev Gl:=Nat→Option (List T)
def qFs.val (gl:Gl)(fm:Nat→Option V):qFs→Option V
 | .tmp t=>fm t
 | .cst v=>some v
 | .glob g=>(gl g).map .ro
def qAy (gl:Gl)(fm:Nat→Option V):List qFs→Option (List V)
 | []=>some []
 | x::r=>(x.val gl fm).bind fun v=>(qAy gl fm r).map (v :: ·)
def AK.q (tab:Tab)(nb:Nat):AK→List V→Q (V×Wr)
 | .op ao,vs=>sem ao vs nb
 | .call f keep,vs=>qVo tab f keep vs nb
 | .callv keep,.fn f caps::rest=>qVo tab f keep (rest++caps) nb
 | .callv keep,.bd g id i f::rest=>qVo tab g keep (.ref id i f::rest) nb
 | .callv _,_=> .fail
def zS.go (tab:Tab)(gl:Gl)(o:zS)(fm:Nat→Option V)(nb:Nat):Q (V×Wr):=
 (Q.of (qAy gl fm o.args)).bind fun vs=>o.k.q tab nb vs
def qFk (fm:Nat→Option V):Option (Nat×Bool)→Option Bool
 | none=>some true
 | some (t,want)=>match fm t with
  | some (.t (.bool b))=>some (b==want)
  | some (.tup [])=>some false
  | _=>none
def zS.q (tab:Tab)(gl:Gl)(o:zS)(fm:Nat→Option V)(nb:Nat):Q (V×Wr):=
 (Q.of (qFk fm o.guard)).bind fun g=>if g then o.go tab gl fm nb else .ret (.tup [],[])
def qVw (fm:Nat→Option V)(d:Option Nat)(v:V):Nat→Option V:=fun t=>if d=some t then some v else fm t
def zSn:Operand→Option qFs
 | .tmp t=>some (.tmp t)
 | .const v=>(V.ofConst v).map .cst
 | .global g=>some (.glob g)
 | .func f=>some (.cst (.fn f []))
def zG5:List Operand→Option (List qFs)
 | []=>some []
 | x::r=>(zSn x).bind fun y=>(zG5 r).map (y :: ·)
def zMe (P:Program)(keep:Bool):Op→Option (AK×List Operand)
 | .call { callee:= .value (.func f),args,.. }=>some (.call f keep,args.toList)
 | .call { callee:= .value (.tmp t),args,.. }=>some (.callv keep,.tmp t::args.toList)
 | op=>(zKd P op).map fun p=>(.op (if keep then p.1.cut else p.1),p.2)
def zDz (ops:Array Oper):Option (Nat×Bool)→Option (Option (Nat×Bool))
 | none=>some none
 | some (j,want)=>((ops[j]?).bind (·.dst)).map fun t=>some (t,want)
def jDj (nt:Nat):Option Nat→Bool
 | some d=>decide (d<nt)
 | none=>true
def zRt (P:Program)(keep:Bool)(op:Op):Option (AK×List qFs):=(zMe P keep op).bind fun p=>(zG5 p.2).map fun xs=>(p.1,xs)
def jCg (P:Program)(nt:Nat)(ops:Array Oper)(keep:Bool)(o:Oper):Option zS:=
 (zDz ops o.guard).bind fun g=>
  if jDj nt o.dst=true then some (match zRt P keep o.op with | some p=>⟨o.dst,p.1,p.2,g⟩ | none=>⟨o.dst,.op .bad,[],g⟩) else none
theorem qT3 (R:Rel cx β F fm hm a w){x:Operand}{y:qFs}(h:zSn x=some y){v:V}(hv:y.val cx.gl fm=some v):qS β F w v (a.eval x):=by
 cases x with
 | tmp t=>
  cases h;obtain⟨x,h1,h2⟩:=R.fr t v hv;have:a.eval (.tmp t)=x:=by simp[Act.eval,h1]
  rw[this];exact h2
 | const c=>
  simp only[zSn,Option.map_eq_some_iff] at h;obtain⟨u,hu,rfl⟩:=h;cases hv;exact qAq hu
 | global g=>
  cases h;simp only[qFs.val,Option.map_eq_some_iff] at hv;obtain⟨cs,hcs,rfl⟩:=hv;exact R.gl g cs hcs
 | func f=>
  cases h;cases hv;exact .fn f [] #[] rfl (by intro i c u hc;simp at hc)
theorem qW9 (R:Rel cx β F fm hm a w) : ∀ {xs:List Operand} {ys:List qFs} {vs:List V},zG5 xs=some ys→qAy cx.gl fm ys=some vs→xT (fun x v=>qS β F w v (a.eval x)) xs vs
 | [],ys,vs,h,hv=>by cases h;cases hv;exact .nil
 | x::r,ys,vs,h,hv=>by
  simp only[zG5,Option.bind_eq_some_iff,Option.map_eq_some_iff] at h;obtain⟨y,hy,zs,hz,rfl⟩:=h;simp only[qAy,Option.bind_eq_some_iff,Option.map_eq_some_iff] at hv;obtain⟨v,hv,us,hu,rfl⟩:=hv;exact .cons (qT3 R hy hv) (qW9 R hz hu)
theorem qXr {xs:List Operand}{vs:List V}{a:Act}(h:xT (fun x v=>qS β F w v (a.eval x)) xs vs):xT (qS β F w) vs (xs.map a.eval):=by
 induction h with
 | nil=>exact .nil
 | cons h _ ih=>exact .cons h ih
theorem zPs {α γ:Type}{R:α→γ→Prop}{xs xs':List α}{ys ys':List γ}(h:xT R xs ys)(h':xT R xs' ys'):xT R (xs++xs') (ys++ys'):=by
 induction h with
 | nil=>exact h'
 | cons h _ ih=>exact .cons h ih
theorem qS1 {vs:List V}{us:List Value}(hl:us.length=vs.length)(h : ∀ (i:Nat) (c:V) (u:Value),vs[i]?=some c→us[i]?=some u→qS β F w c u):xT (qS β F w) vs us:=by
 induction vs generalizing us with
 | nil=>cases us with
  | nil=>exact .nil
  | cons _ _=>simp at hl
 | cons c r ih=>cases us with
  | nil=>simp at hl
  | cons u us=>exact .cons (h 0 c u rfl rfl) (ih (by simpa using hl) (fun i c u hc hu=>h (i+1) c u (by simpa using hc) (by simpa using hu)))
theorem Rel.put (R:Rel cx β F fm hm a w){d:Option Nat}(hd : ∀ t,d=some t→t<cx.nt){v:V}{x:Value}(hx:qS β F w v x):Rel cx β F (qVw fm d v) hm (a.put d x) w:=by
 cases d with
 | none=>
  have:qVw fm none v=fm:=by funext t;simp[qVw]
  rw[this];exact R
 | some t=>
  refine⟨by simp[Act.put,R.tsz],R.dfr,fun t' v' hv'=>?_,R.hp,R.dom,R.inj,R.os,R.tape,R.output,R.size,R.ext,R.old,R.inF,R.inw,R.Fw,R.F0,R.blt,R.gl,R.ext0,R.gs⟩;unfold qVw at hv';split at hv'
  ·rename_i h;cases h;cases hv';exact⟨x,by simp[Act.put,R.tsz,hd _ rfl],hx⟩
  ·rename_i h;obtain⟨y,h1,h2⟩:=R.fr t' v' hv';exact⟨y,by simp only[Act.put];rw[Array.getElem?_setIfInBounds_ne (fun e=>h (by rw[e]))];exact h1,h2⟩
theorem zD1 (R:Rel cx β F fm hm a w){ops:Array Oper}{o:Oper}{g:Option (Nat×Bool)}(hg:zDz ops o.guard=some g){b:Bool}(hb:qFk fm g=some b):Region.wanted o (yielded ops a.tmps)=b:=by
 unfold Region.wanted;cases ho:o.guard with
 | none=>
  rw[ho] at hg;cases hg;cases hb;rfl
 | some p=>
  obtain⟨j,want⟩:=p;rw[ho] at hg;simp only[zDz,Option.map_eq_some_iff] at hg;obtain⟨t,ht,rfl⟩:=hg;simp only[qFk] at hb;simp only[yielded,ht,Option.bind_some];cases hf:fm t with
  | none=>rw[hf] at hb;cases hb
  | some v=>
   obtain⟨x,h1,h2⟩:=R.fr t v hf;rw[h1];rw[hf] at hb;split at hb
   ·rename_i b' h;cases h;cases hb;rw[h2.bool_inv];cases b'<;>cases want<;>rfl
   ·rename_i h;cases h;cases hb;cases h2 with
    | tup _ vs hl _=>
     simp only;cases want<;>rfl
   ·cases hb
theorem qXk (R:Rel cx β F fm hm a w){tab:Tab}(ht:qAu cx.P cx.gl tab){ops:Array Oper}{i:Nat}{o:Oper}{ao:zS}{keep:Bool}(ho:ops[i]?=some o)(hag:jCg cx.P cx.nt ops keep o=some ao)
  {nb:Nat} {v:V} {W:Wr} {l:List Nat} (hq:(ao.q tab cx.gl fm nb).run hm=some ((v,W),l)) {K:Act→World→Prop} {Qx:Exit→Act→World→Prop}
  (hK : ∀ β' F' a' w',Rel cx β' F' (qVw fm ao.dst v) (upd hm W) a' w'→K a' w'):wpOp cx.P ops Qx i K a w:=by
 unfold jCg at hag;simp only[Option.bind_eq_some_iff] at hag;obtain⟨g,hg,hag⟩:=hag;split at hag
 ·rename_i hd;have hag:=Option.some.inj hag;obtain⟨kd,ys,hkx,rfl⟩ : ∃ kd ys,(zRt cx.P keep o.op=some (kd,ys)∨kd = .op .bad)∧ao=⟨o.dst,kd,ys,g⟩:=by
   cases hk:zRt cx.P keep o.op with
   | none=>rw[hk] at hag;exact⟨_,_,.inr rfl,hag.symm⟩
   | some p=>rw[hk] at hag;exact⟨p.1,p.2,.inl rfl,hag.symm⟩
  simp only at hq hK;have hd' : ∀ t,o.dst=some t→t<cx.nt:=by
   intro t e;rw[e] at hd;simpa [jDj] using hd
  unfold zS.q at hq;obtain⟨b,hb,hq⟩:=qH hq;have hw:=zD1 R hg hb;unfold wpOp;simp only[ho,hw];cases b with
  | false=>
   simp only[Bool.false_eq_true,if_false] at hq ⊢;obtain⟨e,_⟩:=qD hq;cases e;exact hK β F _ _ (R.put hd' (.tup [] #[] rfl (by intro i c u hc;simp at hc)))
  | true=>
   simp only[if_true] at hq ⊢;refine .inl ?_;unfold zS.go at hq;obtain⟨vs,hvs,hq2⟩:=qH hq;clear hq;rcases hkx with hkx | hbad
   case inr=>rw[hbad] at hq2;cases hq2
   unfold zRt at hkx;simp only[Option.bind_eq_some_iff,Option.map_eq_some_iff] at hkx;obtain⟨⟨kd',xs⟩,hkd,ys',hys,hkeq⟩:=hkx;simp only[Prod.mk.injEq] at hkeq;obtain⟨rfl,rfl⟩:=hkeq;have hall:=qW9 R hys hvs;simp only at hall hkd hq2;unfold Oper.wp;have call : ∀ {f:FuncId} {us:List V} {vals:Array Value},execOp a.eval o=callFunc f vals→(qVo tab f keep us nb).run hm=some ((v,W),l)→xT (qS β F w) us vals.toList→o.upon cx.P a K Qx ((execOp a.eval o).run cx.P w):=by
    intro f us vals he hq hv;rw[he];rcases zHv R ht hq hv with⟨g,h1,h2⟩ | ⟨x,w',h1,x',β',F',e,R',hx⟩
    ·rw[h1];simp only[Oper.upon];refine h2.mono ?_;rintro e w' ⟨x,β',F',rfl,R',hx⟩;exact hK β' F' _ _ (R'.put hd' hx)
    ·cases e;rw[h1];exact hK β' F' _ _ (R'.put hd' hx)
   have plain:(zKd cx.P o.op).map (fun p=>(AK.op (if keep then p.1.cut else p.1),p.2))=some (kd',xs)→o.upon cx.P a K Qx ((execOp a.eval o).run cx.P w):=by
    intro h;simp only[Option.map_eq_some_iff] at h;obtain⟨⟨ao,zs⟩,hao,e⟩:=h;simp only[Prod.mk.injEq] at e;obtain⟨rfl,rfl⟩:=e;have hq3:(sem (if keep then ao.cut else ao) vs nb).run hm=some ((v,W),l):=hq2;have fin:zU1 cx β F fm hm a w v W (execOp a.eval o):=by
     rcases AO.cut_or ao with⟨z,b,rfl,hc⟩ | hc
     ·cases keep
      ·exact qYi R hao hall hq3
      ·rw[if_pos rfl,hc] at hq3;exact zBj R hao hall hq3
     ·have e:(if keep then ao.cut else ao)=ao:=by rw[hc,ite_self]
      rw[e] at hq3;exact qYi R hao hall hq3
    obtain⟨n,w',β',x,h1,h2,h3,h4,h5⟩:=fin;rw[h1];rcases h2 with rfl | ⟨rfl,rfl⟩
    ·exact hK β' F _ _ (h3.put hd' h4)
    ·exact hK β' F _ _ (h3.put hd' h4)
   obtain⟨dst,op,ty,pos,after,guard⟩:=o;cases op with
   | call c=>
    obtain⟨callee,args,ts⟩:=c;cases callee with
    | value fo=>
     cases fo with
     | tmp t=>
      simp only[zMe,Option.some.injEq,Prod.mk.injEq] at hkd;obtain⟨rfl,rfl⟩:=hkd;cases hall with
      | cons hx hrest=>
       rename_i u us;cases u<;>simp only[AK.q] at hq2<;>(try (cases hq2;done))
       ·rename_i f caps;generalize h0:a.eval (.tmp t)=y0 at hx;cases hx with
        | fn _ _ cvs hl hc=>
         refine call (vals:=args.map a.eval++cvs) ?_ hq2 ?_
         ·simp only[execOp,resolve,h0,Deferred.ofValue];simp[invoke,pure_bind]
         ·have h1:=qXr hrest;have h2:xT (qS β F w) caps cvs.toList:=qS1 (by simpa using hl) (fun i c u hc' hu=>hc i c u hc' (by simpa using hu));simpa using zPs h1 h2
       ·rename_i g id i fo;generalize h0:a.eval (.tmp t)=y0 at hx;cases hx with
        | bd _ _ _ _ b sz room hb=>
         refine call (vals := #[.pointer (some ⟨b,i*sz+fo,none⟩)]++args.map a.eval) ?_ hq2 ?_
         ·simp only[execOp,resolve,h0,Deferred.ofValue];simp[invoke,pure_bind]
         ·have h1:=qXr hrest;have h2:qS β F w (.ref id i fo) (.pointer (some ⟨b,i*sz+fo,none⟩)):= .ref id i fo b sz room hb;simpa using xT.cons h2 h1
     | func f=>
      simp only[zMe,Option.some.injEq,Prod.mk.injEq] at hkd;obtain⟨rfl,rfl⟩:=hkd;refine call (vals:=args.map a.eval) ?_ hq2 ?_
      ·have:execOp a.eval ⟨dst,.call ⟨.value (.func f),args,ts⟩,ty,pos,after,guard⟩=callFunc f (#[]++args.map a.eval ++ #[]):=rfl;rw[this];simp
      ·simpa using qXr hall
     | const c=>exact plain hkd
     | global g=>exact plain hkd
    | invoke r m=>exact plain hkd
    | builtin b=>exact plain hkd
   | _=>exact plain hkd
 ·cases hag
end Go.Eng
end
section
namespace Go.Eng
variable {β:Nat→Option BI} {F:Nat→Prop} {w:World} {cx:Cx} {fm:Nat→Option V} {hm:Nat→Option Ob} {a:Act}
inductive Lex (tab:Tab) (gl:Gl):List zS→Nat→(Nat→Option V)→(Nat→Option Ob)→List (V×Wr×List Nat)→(Nat→Option V)→(Nat→Option Ob)→Prop
 | nil {nb:Nat} {fm:Nat→Option V} {hm:Nat→Option Ob}:Lex tab gl [] nb fm hm [] fm hm
 | cons {o:zS} {r:List zS} {nb:Nat} {fm fm':Nat→Option V} {hm hm':Nat→Option Ob} {v:V} {W:Wr} {l:List Nat} {tr:List (V×Wr×List Nat)}
   (h:(o.q tab gl fm nb).run hm=some ((v,W),l)) (t:Lex tab gl r (nb+16) (qVw fm o.dst v) (upd hm W) tr fm' hm'):Lex tab gl (o::r) nb fm hm ((v,W,l)::tr) fm' hm'
def zHo (P:Program)(nt:Nat)(ops:Array Oper):Nat→List zS→Prop
 | i,[]=>ops.size=i
 | i,ao::r=>(∃ o keep,ops[i]?=some o∧jCg P nt ops keep o=some ao)∧zHo P nt ops (i+1) r
theorem zMf {tab:Tab}(ht:qAu cx.P cx.gl tab){ops:Array Oper}{Qx:Exit→Act→World→Prop} : ∀ {aos:List zS} {i nb:Nat} {β:Nat→Option BI} {F:Nat→Prop} {fm fm':Nat→Option V} {hm hm':Nat→Option Ob} {tr:List (V×Wr×List Nat)} {a:Act} {w:World},
  zHo cx.P cx.nt ops i aos→Lex tab cx.gl aos nb fm hm tr fm' hm'→Rel cx β F fm hm a w→(∀ β' F' a' w',Rel cx β' F' fm' hm' a' w'→Qx .normal a' w') → ∀ l,l=(List.range ops.size).drop i→wpOps cx.P ops Qx l a w
 | [],i,nb,β,F,fm,fm',hm,hm',tr,a,w,hag,hl,R,hQ,l,hl'=>by
  cases hl;have:l=[]:=by
   rw[hl',List.drop_eq_nil_iff,List.length_range,hag];exact Nat.le_refl _
  subst this;exact hQ β F a w R
 | ao::r,i,nb,β,F,fm,fm',hm,hm',tr,a,w,hag,hl,R,hQ,l,hl'=>by
  cases hl with
  | cons h t=>
   obtain⟨⟨o,keep,ho,hk⟩,hag'⟩:=hag;have hi:i<ops.size:=(Array.getElem?_eq_some_iff.1 ho).1;have:l=i::(List.range ops.size).drop (i+1):=by
    rw[hl',List.drop_eq_getElem_cons (by simpa using hi)];simp
   subst this;rw[wpOps_cons];exact qXk R ht ho hk h (fun β' F' a' w' R'=>zMf ht hag' t R' hQ _ rfl)
def SF (D:Nat→Option Nat)(v:Nat→V)(sel:Nat→Bool)(fm:Nat→Option V):Nat→(Nat→Option V)
 | 0=>fm
 | n+1=>if sel n then qVw (SF D v sel fm n) (D n) (v n) else SF D v sel fm n
def SH (W:Nat→Wr)(sel:Nat→Bool)(hm:Nat→Option Ob):Nat→(Nat→Option Ob)
 | 0=>hm
 | n+1=>if sel n then upd (SH W sel hm n) (W n) else SH W sel hm n
def wE (W:Wr):List Nat:=W.map (·.1)
theorem qY6 : ∀ {W:Wr} {hm hm':Nat→Option Ob} {id:Nat},id∈wE W→upd hm W id=upd hm' W id
 | [],_,_,_,h=>by simp[wE] at h
 | (i,o)::r,hm,hm',id,h=>by
  simp only[upd];by_cases hr:id∈wE r
  ·exact qY6 hr
  ·have hi:id=i:=by
    simp only[wE,List.map_cons,List.mem_cons] at h hr;rcases h with h | h
    ·exact h
    ·exact absurd h hr
   have miss : ∀ p∈r,p.1≠id:=fun p hp e=>hr (by simp only[wE,List.mem_map];exact⟨p,hp,e⟩)
   rw[qEj miss,qEj miss,if_pos hi,if_pos hi]
theorem qBy {W:Wr}{hm:Nat→Option Ob}{id:Nat}(h:id ∉ wE W):upd hm W id=hm id:=
 qEj (fun p hp e=>h (by simp only[wE,List.mem_map];exact⟨p,hp,e⟩))
theorem zUh {W W':Wr}{hm:Nat→Option Ob}(h : ∀ id,id∈wE W→id ∉ wE W'):upd (upd hm W) W'=upd (upd hm W') W:=by
 funext id;by_cases h1:id∈wE W
 ·rw[qBy (h id h1),qY6 (hm:=hm) (hm':=upd hm W') h1]
 ·by_cases h2:id∈wE W'
  ·rw[qY6 (hm:=upd hm W) (hm':=hm) h2,qBy h1]
  ·rw[qBy h2,qBy h1,qBy h1,qBy h2]
theorem zM5 {fm:Nat→Option V}{d e:Option Nat}{v u:V}(h : ∀ t,d=some t→e≠some t):qVw (qVw fm d v) e u=qVw (qVw fm e u) d v:=by
 funext t;unfold qVw;by_cases h1:d=some t
 ·have:=h t h1;simp[h1,this]
 ·simp[h1]
section
variable {D:Nat→Option Nat} {v:Nat→V} {W:Nat→Wr} {sel sel':Nat→Bool}
theorem qXl {t:Nat} : ∀ {n:Nat},(∀ j,j<n→D j=some t→sel j=sel' j)→SF D v sel fm n t=SF D v sel' fm n t
 | 0,_=>rfl
 | n+1,h=>by
  have ih:=qXl (n:=n) (fun j hj=>h j oM);simp only[SF];by_cases hd:D n=some t
  ·have e:=h n oM hd;rw[e];split
   ·simp[qVw,hd]
   ·exact ih
  ·split<;>split<;>simp[qVw,hd,ih]
theorem zU3 {t i:Nat} : ∀ {n:Nat},i≤n→(∀ j,i≤j→j<n→D j=some t→sel j=false)→SF D v sel fm n t=SF D v sel fm i t
 | 0,h,_=>by rw[Nat.le_zero.1 h]
 | n+1,h,hs=>by
  rcases Nat.lt_or_ge n i with h1 | h1
  ·rw[show i=n+1 by omega]
  ·rw[←zU3 (n:=n) h1 (fun j h2 h3=>hs j h2 oM)];simp only[SF];split
   ·rename_i hsn;by_cases hd:D n=some t
    ·rw[hs n h1 oM hd] at hsn;cases hsn
    ·simp[qVw,hd]
   ·rfl
theorem qXn {id:Nat} : ∀ {n:Nat},(∀ j,j<n→id∈wE (W j)→sel j=sel' j)→SH W sel hm n id=SH W sel' hm n id
 | 0,_=>rfl
 | n+1,h=>by
  have ih:=qXn (n:=n) (fun j hj=>h j oM);simp only[SH];by_cases hd:id∈wE (W n)
  ·have e:=h n oM hd;rw[e];split
   ·exact qY6 hd
   ·exact ih
  ·split<;>split<;>simp only[qBy hd,ih]
theorem zU5 {id i:Nat} : ∀ {n:Nat},i≤n→(∀ j,i≤j→j<n→id∈wE (W j)→sel j=false)→SH W sel hm n id=SH W sel hm i id
 | 0,h,_=>by rw[Nat.le_zero.1 h]
 | n+1,h,hs=>by
  rcases Nat.lt_or_ge n i with h1 | h1
  ·rw[show i=n+1 by omega]
  ·rw[←zU5 (n:=n) h1 (fun j h2 h3=>hs j h2 oM)];simp only[SH];split
   ·rename_i hsn;by_cases hd:id∈wE (W n)
    ·rw[hs n h1 oM hd] at hsn;cases hsn
    ·exact qBy hd
   ·rfl
def xR (sel:Nat→Bool)(i:Nat):Nat→Bool:=fun j=>if j=i then true else sel j
theorem zU2 {i:Nat}(hi:sel i=false) : ∀ {n:Nat},(∀ j,i<j→j<n→sel j=true → ∀ t,D i=some t→D j≠some t)→SF D v (xR sel i) fm n=if i<n then qVw (SF D v sel fm n) (D i) (v i) else SF D v sel fm n
 | 0,_=>by simp[SF]
 | n+1,h=>by
  have ih:=zU2 (n:=n) hi (fun j h1 h2=>h j h1 oM);simp only[SF];rw[ih];by_cases hn:n=i
  ·subst hn;simp[xR,hi]
  ·have e:xR sel i n=sel n:=by simp[xR,hn]
   rw[e];by_cases hlt:i<n
   ·have hlt':i<n+1:=oM;rw[if_pos hlt,if_pos hlt'];split
    ·rename_i hs;exact zM5 (h n hlt oM hs)
    ·rfl
   ·have hlt' : ¬ i<n+1:=oM;rw[if_neg hlt,if_neg hlt']
theorem zU4 {i:Nat}(hi:sel i=false) : ∀ {n:Nat},(∀ j,i<j→j<n→sel j=true → ∀ id,id∈wE (W i)→id ∉ wE (W j))→SH W (xR sel i) hm n=if i<n then upd (SH W sel hm n) (W i) else SH W sel hm n
 | 0,_=>by simp[SH]
 | n+1,h=>by
  have ih:=zU4 (n:=n) hi (fun j h1 h2=>h j h1 oM);simp only[SH];rw[ih];by_cases hn:n=i
  ·subst hn;simp[xR,hi]
  ·have e:xR sel i n=sel n:=by simp[xR,hn]
   rw[e];by_cases hlt:i<n
   ·have hlt':i<n+1:=oM;rw[if_pos hlt,if_pos hlt'];split
    ·rename_i hs;exact zUh (h n hlt oM hs)
    ·rfl
   ·have hlt' : ¬ i<n+1:=oM;rw[if_neg hlt,if_neg hlt']
end
def zS.slots (o:zS):List Nat:=
 (o.args.filterMap fun | .tmp t=>some t | _=>none)++(match o.guard with | some (t,_)=>[t] | none=>[])
theorem qRc {gl:Gl}{fm fm':Nat→Option V} : ∀ {xs:List qFs},(∀ t,qFs.tmp t∈xs→fm t=fm' t)→qAy gl fm xs=qAy gl fm' xs
 | [],_=>rfl
 | x::r,h=>by
  have ih:=qRc (gl:=gl) (xs:=r) (fun t ht=>h t (by simp[ht]));have:x.val gl fm=x.val gl fm':=by
   cases x with
   | tmp t=>exact h t sM
   | _=>rfl
  simp only[qAy,this,ih]
theorem zZl {tab:Tab}{gl:Gl}{o:zS}{fm fm':Nat→Option V}{nb:Nat}(h : ∀ t∈o.slots,fm t=fm' t):o.q tab gl fm nb=o.q tab gl fm' nb:=by
 have h1:qAy gl fm o.args=qAy gl fm' o.args:=qRc (fun t ht=>h t (by
  unfold zS.slots;rw[List.mem_append];exact .inl (List.mem_filterMap.2 ⟨_,ht,rfl⟩)))
 have h2:qFk fm o.guard=qFk fm' o.guard:=by
  cases hg:o.guard with
  | none=>rfl
  | some p=>
   obtain⟨t,want⟩:=p;have:=h t (by unfold zS.slots;rw[hg];simp);simp only[qFk,this]
 simp only[zS.q,zS.go,h1,h2]
end Go.Eng
end
section
namespace Go.Eng
variable {β:Nat→Option BI} {F:Nat→Prop} {w:World} {cx:Cx} {fm:Nat→Option V} {hm:Nat→Option Ob} {a:Act}
theorem qXm {D:Nat→Option Nat}{v:Nat→V} : ∀ {n:Nat} {fm:Nat→Option V},SF D v (fun _=>true) fm (n+1)=SF (fun i=>D (i+1)) (fun i=>v (i+1)) (fun _=>true) (qVw fm (D 0) (v 0)) n
 | 0,_=>rfl
 | n+1,fm=>by
  rw[SF,qXm (n:=n)];simp only[SF,if_true]
theorem qXo {W:Nat→Wr} : ∀ {n:Nat} {hm:Nat→Option Ob},SH W (fun _=>true) hm (n+1)=SH (fun i=>W (i+1)) (fun _=>true) (upd hm (W 0)) n
 | 0,_=>rfl
 | n+1,hm=>by
  rw[SH,qXo (n:=n)];simp only[SH,if_true]
def trV (tr:List (V×Wr×List Nat))(i:Nat):V:=(tr.getD i (.nil,[],[])).1
def trW (tr:List (V×Wr×List Nat))(i:Nat):Wr:=(tr.getD i (.nil,[],[])).2.1
def trL (tr:List (V×Wr×List Nat))(i:Nat):List Nat:=(tr.getD i (.nil,[],[])).2.2
def aoD (aos:List zS)(i:Nat):Option Nat:=(aos.getD i default).dst
theorem Lex.index {tab:Tab}{gl:Gl}{aos:List zS}{nb:Nat}{fm fm':Nat→Option V}{hm hm':Nat→Option Ob}{tr:List (V×Wr×List Nat)}(h:Lex tab gl aos nb fm hm tr fm' hm') :
  (∀ i ao,aos[i]?=some ao→(ao.q tab gl (SF (aoD aos) (trV tr) (fun _=>true) fm i) (nb+16*i)).run (SH (trW tr) (fun _=>true) hm i)=some ((trV tr i,trW tr i),trL tr i))∧
   fm'=SF (aoD aos) (trV tr) (fun _=>true) fm aos.length∧hm'=SH (trW tr) (fun _=>true) hm aos.length:=by
 induction h with
 | nil=>exact⟨by intro i ao h;simp at h,rfl,rfl⟩
 | cons h _ ih=>
  rename_i o r nb fm fm' hm hm' v W l tr t;obtain⟨h1,h2,h3⟩:=ih;refine⟨fun i ao hi=>?_,?_,?_⟩
  ·cases i with
   | zero=>
    simp at hi;subst hi;exact h
   | succ i=>
    simp at hi;rw[qXm,qXo];have:=h1 i ao hi;rw[show nb+16*(i+1)=nb+16+16*i by omega];exact this
  ·rw[List.length_cons,qXm];exact h2
  ·rw[List.length_cons,qXo];exact h3
def zC8 (anc:List Nat):List Edge→Nat
 | []=>0
 | e::r=>if Region.binds .any e then zC8 anc r ||| (1 <<< e.on) ||| anc.getD e.on 0 else zC8 anc r
theorem qS3 {anc:List Nat} : ∀ {es:List Edge} {x:Nat},(zC8 anc es).testBit x=true → ∃ e∈es,Region.binds .any e=true∧(x=e.on∨(anc.getD e.on 0).testBit x=true)
 | [],x,h=>by simp[zC8] at h
 | e::r,x,h=>by
  unfold zC8 at h;split at h
  ·rename_i hb;rw[Nat.testBit_or,Nat.testBit_or,Bool.or_eq_true,Bool.or_eq_true] at h;rcases h with (h | h) | h
   ·obtain⟨e',h1,h2,h3⟩:=qS3 h;exact⟨e',by simp[h1],h2,h3⟩
   ·refine⟨e,sM,hb,.inl ?_⟩;rw[Nat.one_shiftLeft,Nat.testBit_two_pow] at h;exact (of_decide_eq_true h).symm
   ·exact⟨e,sM,hb,.inr h⟩
  ·obtain⟨e',h1,h2,h3⟩:=qS3 h;exact⟨e',by simp[h1],h2,h3⟩
def jJc:List Oper→List Nat→List Nat
 | [],acc=>acc
 | o::r,acc=>jJc r (acc++[zC8 acc o.after.toList])
def jJe (xs ys:List Nat):Bool:=xs.all fun x => !ys.contains x
theorem qNu {xs ys:List Nat}(h:jJe xs ys=true) : ∀ x,x∈xs→x ∉ ys:=by
 intro x hx hy;have:=List.all_eq_true.1 h x hx;simp at this;exact this hy
def apartS (x y:zS):Bool:=
 (match x.dst with
 | some d => !y.slots.contains d&&y.dst != some d
 | none=>true) &&
 (match y.dst with
 | some d => !x.slots.contains d
 | none=>true)
def zOj (anc:List Nat)(aos:List zS):Bool:=
 (List.range aos.length).all fun j=>(List.range j).all fun i=>(anc.getD j 0).testBit i||apartS (aos.getD i default) (aos.getD j default)
def zK5 (anc:List Nat)(ops:List Oper):Bool:=
 (List.range ops.length).all fun i=>(ops.getD i default).after.toList.all (fun e => !Region.binds .any e||decide (e.on<i))&&anc.getD i 0==zC8 anc (ops.getD i default).after.toList
def apartW (x y:List Nat×List Nat):Bool:=jJe x.1 y.1&&jJe x.1 y.2&&jJe x.2 y.1
def chk (anc:List Nat)(tr:List (List Nat×List Nat)):Bool:=
 (List.range tr.length).all fun j=>(List.range j).all fun i=>(anc.getD j 0).testBit i||apartW (tr.getD i ([],[])) (tr.getD j ([],[]))
def cnt (sel:Nat→Bool):Nat→Nat
 | 0=>0
 | n+1=>cnt sel n+if sel n then 0 else 1
theorem zKr {sel:Nat→Bool}{i:Nat}(hi:sel i=false) : ∀ {n:Nat},cnt (xR sel i) n+(if i<n then 1 else 0)=cnt sel n
 | 0=>by simp[cnt]
 | n+1=>by
  have ih:=zKr hi (n:=n);simp only[cnt];by_cases hn:n=i
  ·subst hn;simp[xR,hi] at ih ⊢;omega
  ·have e:xR sel i n=sel n:=by simp[xR,hn]
   rw[e];by_cases hlt:i<n
   ·have:i<n+1:=oM;simp only[hlt,this,if_true] at ih ⊢;omega
   ·have : ¬ i<n+1:=oM;simp only[hlt,this,if_false] at ih ⊢;omega
theorem zF0 {sel:Nat→Bool} : ∀ {n:Nat},cnt sel n=0 → ∀ i,i<n→sel i=true
 | 0,_,i,h=>oM
 | n+1,h,i,hi=>by
  simp only[cnt] at h;by_cases hn:i=n
  ·subst hn;cases hs:sel i
   ·rw[hs] at h;simp at h
   ·rfl
  ·exact zF0 (n:=n) oM i oM
theorem qS0 {P:Program}{nt:Nat}{ops:Array Oper} : ∀ {aos:List zS} {i:Nat},zHo P nt ops i aos→ops.size=i+aos.length ∧ ∀ j ao,aos[j]?=some ao → ∃ o keep,ops[i+j]?=some o∧jCg P nt ops keep o=some ao
 | [],i,h=>⟨h,by intro j ao hj;simp at hj⟩
 | x::r,i,h=>by
  obtain⟨⟨o,keep,h1,h2⟩,h3⟩:=h;obtain⟨g1,g2⟩:=qS0 h3;refine⟨by rw[g1,List.length_cons];omega,fun j ao hj=>?_⟩;cases j with
  | zero=>simp at hj;subst hj;exact⟨o,keep,h1,h2⟩
  | succ j=>
   simp at hj;rw[show i+(j+1)=i+1+j by omega];exact g2 j ao hj
theorem qTr {α:Type}{l:List α}{i:Nat}{d x:α}(h:l[i]?=some x):l.getD i d=x:=by simp[List.getD,h]
theorem zYw {tab:Tab}(ht:qAu cx.P cx.gl tab){ops:Array Oper}{Qx:Exit→Act→World→Prop}{aos:List zS}{anc:List Nat}{nb:Nat}{fm':Nat→Option V}{hm':Nat→Option Ob}{tr:List (V×Wr×List Nat)}
  (hag:zHo cx.P cx.nt ops 0 aos) (hlex:Lex tab cx.gl aos nb fm hm tr fm' hm') (hedge:zK5 anc ops.toList=true) (hslot:zOj anc aos=true)
  (hw : ∀ i j,i<j→j<ops.size→(anc.getD j 0).testBit i=true∨apartW (wE (trW tr i),trL tr i) (wE (trW tr j),trL tr j)=true)
  (hQ : ∀ β' F' a' w',Rel cx β' F' fm' hm' a' w'→Qx .normal a' w') :
  ∀ (fuel:Nat) (listed:Array Bool) (sel:Nat→Bool) (β:Nat→Option BI) (F:Nat→Prop) (a:Act) (w:World),listed.size=ops.size→(∀ i,i<ops.size→listed.getD i true=sel i∧listed.getD i false=sel i)→cnt sel ops.size=fuel→
   (∀ i o,sel i=true→ops[i]?=some o → ∀ e∈o.after,Region.binds .any e=true→sel e.on=true)→Rel cx β F (SF (aoD aos) (trV tr) sel fm ops.size) (SH (trW tr) sel hm ops.size) a w→wpAny cx.P .any ops Qx fuel listed a w:=by
 obtain⟨hidx,hfm',hhm'⟩:=hlex.index;obtain⟨hsize,hget⟩:=qS0 hag;simp only[Nat.zero_add] at hsize hget;have hE1 : ∀ i o,ops[i]?=some o → ∀ e∈o.after,Region.binds .any e=true→e.on<i:=by
  intro i o ho e he hb;have hi:i<ops.toList.length:=by simpa using (Array.getElem?_eq_some_iff.1 ho).1
  have h1:=List.all_eq_true.1 hedge i (by simpa using hi);rw[Bool.and_eq_true] at h1;rw[qTr (x:=o) (by simpa using ho)] at h1;have:=List.all_eq_true.1 h1.1 e (by simpa using he);simpa [hb] using this
 have hE2 : ∀ i o x,ops[i]?=some o→(anc.getD i 0).testBit x=true → ∃ e∈o.after,Region.binds .any e=true∧(x=e.on∨(anc.getD e.on 0).testBit x=true):=by
  intro i o x ho hx;have hi:i<ops.toList.length:=by simpa using (Array.getElem?_eq_some_iff.1 ho).1
  have h1:=List.all_eq_true.1 hedge i (by simpa using hi);rw[Bool.and_eq_true] at h1;rw[qTr (x:=o) (by simpa using ho)] at h1;have:=eq_of_beq h1.2;rw[this] at hx;obtain⟨e,h2,h3,h4⟩:=qS3 hx;exact⟨e,by simpa using h2,h3,h4⟩
 have hclosed : ∀ (sel:Nat→Bool),(∀ i o,sel i=true→ops[i]?=some o → ∀ e∈o.after,Region.binds .any e=true→sel e.on=true) → ∀ i,i<ops.size→sel i=true → ∀ x,(anc.getD i 0).testBit x=true→sel x=true:=by
  intro sel hc i
  induction i using Nat.strongRecOn with
  | _ i ih=>
   intro hi hs x hx;obtain⟨e,h1,h2,h3⟩:=hE2 i ops[i] x (by simp[hi]) hx;have hlt:=hE1 i ops[i] (by simp[hi]) e h1 h2;have hse:=hc i ops[i] hs (by simp[hi]) e h1 h2;rcases h3 with rfl | h3
   ·exact hse
   ·exact ih e.on hlt oM hse x h3
 have hS : ∀ i j,i<j→j<ops.size→(anc.getD j 0).testBit i=true∨apartS (aos.getD i default) (aos.getD j default)=true:=by
  intro i j hij hj;have h1:=List.all_eq_true.1 hslot j soM;have h2:=List.all_eq_true.1 h1 i (by simpa using hij);simpa using h2
 have apart : ∀ i j,i<ops.size→j<ops.size→i≠j→(anc.getD j 0).testBit i=false→(anc.getD i 0).testBit j=false→
   (∀ t,aoD aos j=some t→t ∉ (aos.getD i default).slots∧aoD aos i≠some t)∧(∀ id,id∈wE (trW tr j)→id ∉ trL tr i∧id ∉ wE (trW tr i)):=by
  intro i j hi hj hne h1 h2;rcases Nat.lt_or_gt_of_ne hne with hlt | hlt
  ·have a1:apartS (aos.getD i default) (aos.getD j default)=true:=by
    rcases hS i j hlt hj with h | h
    ·rw[h1] at h;cases h
    ·exact h
   have a2:apartW (wE (trW tr i),trL tr i) (wE (trW tr j),trL tr j)=true:=by
    rcases hw i j hlt hj with h | h
    ·rw[h1] at h;cases h
    ·exact h
   simp only[apartW,Bool.and_eq_true] at a2;refine⟨fun t ht=>?_,fun id hid=>⟨fun h=>qNu a2.2 id h hid,fun h=>qNu a2.1.1 id h hid⟩⟩;unfold apartS at a1;rw[Bool.and_eq_true] at a1;unfold aoD at ht ⊢;rw[ht] at a1;refine⟨by simpa using a1.2,fun h=>?_⟩;rw[h] at a1;simp at a1
  ·have a1:apartS (aos.getD j default) (aos.getD i default)=true:=by
    rcases hS j i hlt hi with h | h
    ·rw[h2] at h;cases h
    ·exact h
   have a2:apartW (wE (trW tr j),trL tr j) (wE (trW tr i),trL tr i)=true:=by
    rcases hw j i hlt hi with h | h
    ·rw[h2] at h;cases h
    ·exact h
   simp only[apartW,Bool.and_eq_true] at a2;refine⟨fun t ht=>?_,fun id hid=>⟨fun h=>qNu a2.1.2 id hid h,fun h=>qNu a2.1.1 id hid h⟩⟩;unfold apartS at a1;rw[Bool.and_eq_true] at a1;unfold aoD at ht ⊢;rw[ht] at a1;simp only[Bool.and_eq_true,Bool.not_eq_true',bne_iff_ne,ne_eq] at a1;exact⟨by simpa using a1.1.1,a1.1.2⟩
 have hall : ∀ (listed:Array Bool) (sel:Nat→Bool),listed.size=ops.size→(∀ i,i<ops.size→listed.getD i true=sel i∧listed.getD i false=sel i)→Region.ready .any ops listed=[] → ∀ i,i<ops.size→sel i=true:=by
  intro listed sel hls hl hr i
  induction i using Nat.strongRecOn with
  | _ i ih=>
   intro hi;cases hs:sel i with
   | true=>rfl
   | false=>
    have:i∈Region.ready .any ops listed:=mem_ready.2 ⟨by rw[(hl i hi).1];exact hs,ops[i],by simp[hi],fun e he hb=>by
     have hlt:=hE1 i ops[i] (by simp[hi]) e he hb;rw[(hl e.on oM).2];exact ih e.on hlt oM⟩
    rw[hr] at this;cases this
 have hdone : ∀ (sel:Nat→Bool) (β:Nat→Option BI) (F:Nat→Prop) (a:Act) (w:World),(∀ i,i<ops.size→sel i=true)→Rel cx β F (SF (aoD aos) (trV tr) sel fm ops.size) (SH (trW tr) sel hm ops.size) a w→Qx .normal a w:=by
  intro sel β F a w hs R;refine hQ β F a w ?_;have e1:SF (aoD aos) (trV tr) sel fm ops.size=fm':=by
   rw[hfm',←hsize];funext t;exact qXl (fun j hj _=>hs j hj)
  have e2:SH (trW tr) sel hm ops.size=hm':=by
   rw[hhm',←hsize];funext t;exact qXn (fun j hj _=>hs j hj)
  rw[e1,e2] at R;exact R
 intro fuel
 induction fuel with
 | zero=>
  intro listed sel β F a w hls hl hc hcl R;have hs:=zF0 hc;refine⟨?_,hdone sel β F a w hs R⟩;refine List.eq_nil_iff_forall_not_mem.2 (fun i hi=>?_);obtain⟨h1,o,ho,_⟩:=mem_ready.1 hi;have hi':=(Array.getElem?_eq_some_iff.1 ho).1;rw[(hl i hi').1,hs i hi'] at h1;cases h1
 | succ fuel ih=>
  intro listed sel β F a w hls hl hc hcl R;refine⟨fun hr=>hdone sel β F a w (hall listed sel hls hl hr) R,fun i hi=>?_⟩;obtain⟨h1,o,ho,hwait⟩:=mem_ready.1 hi;have hi':=(Array.getElem?_eq_some_iff.1 ho).1;have hsi:sel i=false:=by rw[←(hl i hi').1];exact h1
  have hafter : ∀ e∈o.after,Region.binds .any e=true→sel e.on=true:=fun e he hb=>by
   have hlt:=hE1 i o ho e he hb;rw[←(hl e.on oM).2];exact hwait e he hb
  have hanc : ∀ x,(anc.getD i 0).testBit x=true→sel x=true:=by
   intro x hx;obtain⟨e,g1,g2,g3⟩:=hE2 i o x ho hx;have hlt:=hE1 i o ho e g1 g2;have hse:=hafter e g1 g2;rcases g3 with rfl | g3
   ·exact hse
   ·exact hclosed sel hcl e.on oM hse x g3
  have hil:i<aos.length:=oM;obtain⟨o',keep,ho',hk⟩:=hget i aos[i] (by simp[hil]);rw[ho] at ho';cases ho';have hao:aos.getD i default=aos[i]:=qTr (by simp[hil]);have hun : ∀ j,j<ops.size→(sel j=true∧i<j∨sel j=false∧j<i)→(∀ t,aoD aos j=some t→t ∉ (aos.getD i default).slots∧aoD aos i≠some t)∧(∀ id,id∈wE (trW tr j)→id ∉ trL tr i∧id ∉ wE (trW tr i)):=by
   intro j hj hcase;rcases hcase with⟨hs,hlt⟩ | ⟨hs,hlt⟩
   ·refine apart i j hi' hj oM ?_ ?_
    ·cases hb:(anc.getD j 0).testBit i with
     | false=>rfl
     | true=>have:=hclosed sel hcl j hj hs i hb;rw[hsi] at this;cases this
    ·cases hb:(anc.getD i 0).testBit j with
     | false=>rfl
     | true=>
      exfalso;have : ∀ k,k<ops.size → ∀ x,(anc.getD k 0).testBit x=true→x<k:=by
       intro k
       induction k using Nat.strongRecOn with
       | _ k ihk=>
        intro hk x hx;obtain⟨e,g1,g2,g3⟩:=hE2 k ops[k] x (by simp[hk]) hx;have hlt:=hE1 k ops[k] (by simp[hk]) e g1 g2;rcases g3 with rfl | g3
        ·exact hlt
        ·have:=ihk e.on hlt oM x g3;omega
      have:=this i hi' j hb;omega
   ·refine apart i j hi' hj oM ?_ ?_
    ·cases hb:(anc.getD j 0).testBit i with
     | false=>rfl
     | true=>
      exfalso;have : ∀ k,k<ops.size → ∀ x,(anc.getD k 0).testBit x=true→x<k:=by
       intro k
       induction k using Nat.strongRecOn with
       | _ k ihk=>
        intro hk x hx;obtain⟨e,g1,g2,g3⟩:=hE2 k ops[k] x (by simp[hk]) hx;have hlt:=hE1 k ops[k] (by simp[hk]) e g1 g2;rcases g3 with rfl | g3
        ·exact hlt
        ·have:=ihk e.on hlt oM x g3;omega
      have:=this j hj i hb;omega
    ·cases hb:(anc.getD i 0).testBit j with
     | false=>rfl
     | true=>have:=hanc j hb;rw[hs] at this;cases this
  have hslotsEq : ∀ t∈aos[i].slots,SF (aoD aos) (trV tr) (fun _=>true) fm i t=SF (aoD aos) (trV tr) sel fm ops.size t:=by
   intro t htm;rw[←hao] at htm;rw[zU3 (n:=ops.size) (i:=i) oM (fun j h2 h3 hD=>by
    cases hs:sel j with
    | false=>rfl
    | true=>
     have hne:j≠i:=fun e=>by rw[e] at hs;rw[hsi] at hs;cases hs
     exact absurd htm ((hun j h3 (.inl ⟨hs,oM⟩)).1 t hD).1)]
   refine qXl (fun j hj hD=>?_);cases hs:sel j with
   | true=>rfl
   | false=>exact absurd htm ((hun j oM (.inr ⟨hs,hj⟩)).1 t hD).1
  have hheapEq : ∀ id∈trL tr i,SH (trW tr) sel hm ops.size id=SH (trW tr) (fun _=>true) hm i id:=by
   intro id hid;rw[zU5 (n:=ops.size) (i:=i) oM (fun j h2 h3 hD=>by
    cases hs:sel j with
    | false=>rfl
    | true=>
     have hne:j≠i:=fun e=>by rw[e] at hs;rw[hsi] at hs;cases hs
     exact absurd hid ((hun j h3 (.inl ⟨hs,oM⟩)).2 id hD).1)]
   refine qXn (fun j hj hD=>?_);cases hs:sel j with
   | true=>rfl
   | false=>exact absurd hid ((hun j oM (.inr ⟨hs,hj⟩)).2 id hD).1
  have hq:=hidx i aos[i] (by simp[hil]);rw[zZl hslotsEq] at hq;have hq':=Q.run_local _ hq hheapEq;refine qXk R ht ho hk hq' (fun β' F' a' w' R'=>?_);refine ih (listed.setIfInBounds i true) (xR sel i) β' F' a' w' (by simpa using hls) (fun j hj=>?_) ?_ (fun j oj hs hoj e he hb=>?_) ?_
  ·by_cases hji:j=i
   ·subst hji;simp[xR,hls,hi']
   ·have h2:=hl j hj;rw[getD_set_ne true (fun e=>hji e.symm),getD_set_ne false (fun e=>hji e.symm)];simpa [xR,hji] using h2
  ·have:=zKr hsi (n:=ops.size);rw[if_pos hi'] at this;omega
  ·by_cases hji:j=i
   ·subst hji;rw[ho] at hoj;cases hoj;have hlt:=hE1 j o ho e he hb;have hse:=hafter e he hb;simp only[xR];split
    ·rfl
    ·exact hse
   ·have hsj:sel j=true:=by simpa [xR,hji] using hs
    have:=hcl j oj hsj hoj e he hb;simp only[xR];split
    ·rfl
    ·exact this
  ·have e1:SF (aoD aos) (trV tr) (xR sel i) fm ops.size=qVw (SF (aoD aos) (trV tr) sel fm ops.size) aos[i].dst (trV tr i):=by
    rw[zU2 hsi (fun j hij hj hs t hD hD'=>((hun j hj (.inl ⟨hs,hij⟩)).1 t hD').2 hD),if_pos hi'];unfold aoD;rw[hao]
   have e2:SH (trW tr) (xR sel i) hm ops.size=upd (SH (trW tr) sel hm ops.size) (trW tr i):=by
    rw[zU4 hsi (fun j hij hj hs id hD hD'=>((hun j hj (.inl ⟨hs,hij⟩)).2 id hD').2 hD),if_pos hi']
   rw[e1,e2];exact R'
end Go.Eng
end
section
namespace Go.Eng
def jE {α:Type}:List (Nat×α)→Nat→Option α
 | [],_=>none
 | (k,v)::r,t=>if k=t then some v else jE r t
def jJm {α:Type}:List (Nat×α)→Nat→α→List (Nat×α)
 | [],k,v=>[(k,v)]
 | (k',v')::r,k,v=>if k'=k then (k,v)::r else (k',v')::jJm r k v
def zWr (fs:List (Nat×V)):Option Nat→V→List (Nat×V)
 | some d,v=>(d,v)::fs
 | none,_=>fs
theorem zMi {fs:List (Nat×V)}{d:Option Nat}{v:V}:jE (zWr fs d v)=qVw (jE fs) d v:=by
 funext t;cases d with
 | none=>simp[zWr,qVw]
 | some d=>
  simp only[zWr,jE,qVw,Option.some.injEq]
def qXg:List (Nat×Ob)→Wr→List (Nat×Ob)
 | hs,[]=>hs
 | hs,(i,o)::r=>qXg ((i,o)::hs) r
theorem qFx : ∀ {W:Wr} {hs:List (Nat×Ob)},jE (qXg hs W)=upd (jE hs) W
 | [],_=>rfl
 | (i,o)::r,hs=>by
  simp only[qXg,upd];rw[qFx];congr 1;funext j;rw[jE];by_cases h:i=j
  ·simp[h]
  ·simp[h,Ne.symm h]
def Q.wp {α:Type}(hs:List (Nat×Ob))(q:Q α)(K:α→List Nat→Prop):Prop := ∃ x l,q.run (jE hs)=some (x,l)∧K x l
section
variable {α γ:Type} {hs:List (Nat×Ob)} {K:α→List Nat→Prop}
def zJx {α:Type}(hs:List (Nat×Ob))(o:Option Ob)(id:Nat)(k:Ob→Q α)(K:α→List Nat→Prop):Prop:=
 match o with
 | some o=>(k o).wp hs (fun x l=>K x (id::l))
 | none=>False
def qXj {α:Type}(hs:List (Nat×Ob))(o:Option Ob)(id:Nat)(k:Q α)(K:α→List Nat→Prop):Prop:=
 match o with
 | some _=>False
 | none=>k.wp hs (fun x l=>K x (id::l))
def zCs {α γ:Type}(hs:List (Nat×Ob))(o:Option γ)(f:γ→Q α)(K:α→List Nat→Prop):Prop:=
 match o with
 | some x=>(f x).wp hs K
 | none=>False
theorem Q.wp_ret {x:α}:(Q.ret x).wp hs K=K x []:=by
 apply propext;constructor
 ·rintro⟨y,l,h,hK⟩;obtain⟨rfl,rfl⟩:=qD h;exact hK
 ·exact fun h=>⟨x,[],rfl,h⟩
theorem Q.wp_fail:(Q.fail:Q α).wp hs K=False:=by
 apply propext;constructor
 ·rintro⟨y,l,h,hK⟩;cases h
 ·exact fun h=>h.elim
theorem Q.wp_get {id:Nat}{k:Ob→Q α}:(Q.get id k).wp hs K=zJx hs (jE hs id) id k K:=by
 apply propext;constructor
 ·rintro⟨y,l,h,hK⟩;obtain⟨o,l',h1,h2,rfl⟩:=yZ h;rw[h1];exact⟨y,l',h2,hK⟩
 ·intro h;cases ho:jE hs id with
  | none=>rw[ho] at h;exact h.elim
  | some o=>
   rw[ho] at h;obtain⟨y,l,h1,h2⟩:=h;exact⟨y,id::l,by simp[Q.run,ho,h1],h2⟩
theorem Q.wp_free {id:Nat}{k:Q α}:(Q.free id k).wp hs K=qXj hs (jE hs id) id k K:=by
 apply propext;constructor
 ·rintro⟨y,l,h,hK⟩;obtain⟨h1,l',h2,rfl⟩:=kL h;rw[h1];exact⟨y,l',h2,hK⟩
 ·intro h;cases ho:jE hs id with
  | some o=>rw[ho] at h;exact h.elim
  | none=>
   rw[ho] at h;obtain⟨y,l,h1,h2⟩:=h;exact⟨y,id::l,by simp[Q.run,ho,h1],h2⟩
theorem Q.wp_assert {b:Prop}[Decidable b]{q:Q α}:(Q.assert b q).wp hs K=(b∧q.wp hs K):=by
 apply propext;constructor
 ·rintro⟨y,l,h,hK⟩;obtain⟨h1,h2⟩:=qL h;exact⟨h1,y,l,h2,hK⟩
 ·rintro⟨h1,y,l,h,hK⟩;exact⟨y,l,by unfold Q.assert;rw[if_pos h1];exact h,hK⟩
theorem Q.wp_ite {b:Prop}[Decidable b]{p q:Q α}:(if b then p else q).wp hs K=((b→p.wp hs K)∧(¬ b→q.wp hs K)):=by
 by_cases h:b<;>simp[h]
theorem Q.wp_of_bind {o:Option γ}{f:γ→Q α}:((Q.of o).bind f).wp hs K=zCs hs o f K:=by
 cases o with
 | none=>exact Q.wp_fail
 | some x=>rfl
theorem Q.wp_bind {q:Q γ}{f:γ→Q α}:(q.bind f).wp hs K=q.wp hs (fun x l=>(f x).wp hs (fun y l'=>K y (l++l'))):=by
 apply propext;constructor
 ·rintro⟨y,l,h,hK⟩;obtain⟨x,l1,l2,h1,h2,rfl⟩:=qV h;exact⟨x,l1,h1,y,l2,h2,hK⟩
 ·rintro⟨x,l1,h1,y,l2,h2,hK⟩;exact⟨y,l1++l2,by rw[Q.run_bind,h1];simp[h2],hK⟩
theorem zJy {id:Nat}{k:Ob→Q α}:zJx hs none id k K=False:=rfl
theorem zFk {o:Ob}{id:Nat}{k:Q α}:qXj hs (some o) id k K=False:=rfl
theorem qVj {x:γ}{f:γ→Q α}:zCs hs (some x) f K=(f x).wp hs K:=rfl
theorem zO2 {f:γ→Q α}:zCs hs none f K=False:=rfl
theorem zUr {b:Prop}[Decidable b]{o:Option γ}{f:γ→Q α}:zCs hs (if b then o else none) f K=(b∧zCs hs o f K):=by
 by_cases h:b<;>simp[h,zCs]
theorem zO0 {b:Prop}[Decidable b]{o:Option γ}{f:γ→Q α}:zCs hs (if b then none else o) f K=(¬ b∧zCs hs o f K):=by
 by_cases h:b<;>simp[h,zCs]
@[congr] theorem Q.wp_congr {q q':Q α} (h:q=q'):q.wp hs K=q'.wp hs K:=by rw[h]
@[congr] theorem jBz {o o':Option Ob} {id:Nat} {k:Ob→Q α} (h:o=o'):zJx hs o id k K=zJx hs o' id k K:=by rw[h]
@[congr] theorem zWx {o o':Option Ob} {id:Nat} {k:Q α} (h:o=o'):qXj hs o id k K=qXj hs o' id k K:=by rw[h]
@[congr] theorem jB8 {o o':Option γ} {f:γ→Q α} (h:o=o'):zCs hs o f K=zCs hs o' f K:=by rw[h]
end
inductive AE where
 | normal
 | exit (id:Nat)
 | ret
 deriving DecidableEq
def AE.ex:AE→Exit
 | .normal=> .normal
 | .exit id=> .exit id
 | .ret=> .ret
inductive AC where
 | skip
 | ret
 | exit (id:Nat)
 | seq (a b:AC)
 | cond (c:qFs) (a b:AC)
 | condb (c:qFs) (a b:AC)
 | block (id:Nat) (a:AC)
 | loop (a:AC)
 | reg (nb:Nat) (anc:Option (List Nat)) (ops:List zS)
 deriving Inhabited
abbrev Fs:=List (Nat×V)
abbrev Hs:=List (Nat×Ob)
abbrev qFp:=AE→Fs→Hs→Prop
def zAa (tab:Tab)(gl:Gl):List zS→Nat→Fs→Hs→List (List Nat×List Nat)→(Fs→Hs→List (List Nat×List Nat)→Prop)→Prop
 | [],_,fs,hs,acc,K=>K fs hs acc
 | o::r,nb,fs,hs,acc,K=>(o.q tab gl (jE fs) nb).wp hs (fun p l=>zAa tab gl r (nb+16) (zWr fs o.dst p.1) (qXg hs p.2) (acc++[(wE p.2,l)]) K)
def qId (v:Option V)(A B:Prop):Prop:=
 match v with
 | some (.t (.bool b))=>(b=true→A)∧(b=false→B)
 | _=>False
def qRe (v:Option V)(A B:Prop):Prop:=
 match v with
 | some .bq=>A∧B
 | v=>qId v A B
@[congr] theorem zXv {v v':Option V} {A B:Prop} (h:v=v'):qId v A B=qId v' A B:=by rw[h]
theorem zHy {A B:Prop}:qId (some (.t (.bool true))) A B=A:=by simp[qId]
@[congr] theorem zXs {v v':Option V} {A B:Prop} (h:v=v'):qRe v A B=qRe v' A B:=by rw[h]
theorem zQh {A B:Prop}:qRe (some .bq) A B=(A∧B):=by simp[qRe]
theorem zXt {x:T}{A B:Prop}:qRe (some (.t x)) A B=qId (some (.t x)) A B:=by simp[qRe]
theorem zDh {A B:Prop}:qId (some (.t (.bool false))) A B=B:=by simp[qId]
def qK (fs:Fs)(hs:Hs)(fs':Fs)(hs':Hs):Prop:=
 ∀ (cx:Cx) (β:Nat→Option BI) (F:Nat→Prop) (a:Act) (w:World),Rel cx β F (jE fs) (jE hs) a w → ∃ β' F',Rel cx β' F' (jE fs') (jE hs') a w
theorem qK.refl {fs:Fs}{hs:Hs}:qK fs hs fs hs:=fun _ β F _ _ R=>⟨β,F,R⟩
theorem qK.trans {fs fs' fs'':Fs}{hs hs' hs'':Hs}(h:qK fs hs fs' hs')(h':qK fs' hs' fs'' hs''):qK fs hs fs'' hs'':=fun cx β F a w R=>
 let ⟨β',F',R'⟩:=h cx β F a w R
 h' cx β' F' a w R'
def zJ5 (B:Fs→Hs→qFp→Prop)(fs:Fs)(hs:Hs)(Qx:qFp):Prop:=
 ∃ (ι:Type) (I:ι→Fs×Hs) (μ:ι→Nat) (i0:ι),qK fs hs (I i0).1 (I i0).2∧
  ∀ i,B (I i).1 (I i).2 (fun e fs' hs'=>match e with | .normal => ∃ j,μ j<μ i∧qK fs' hs' (I j).1 (I j).2 | e=>Qx e fs' hs')
@[congr] theorem zXb {B:Fs→Hs→qFp→Prop} {fs:Fs} {hs:Hs} {Qx:qFp}:zJ5 B fs hs Qx=zJ5 B fs hs Qx:=rfl
def jTe (tab:Tab)(gl:Gl)(nb:Nat)(anc:Option (List Nat))(ops:List zS)(fs:Fs)(hs:Hs)(Qx:qFp):Prop:=
 zAa tab gl ops nb fs hs [] (fun fs' hs' acc=>(match anc with | none=>True | some l=>chk l acc=true)∧Qx .normal fs' hs')
def AC.wp (tab:Tab)(gl:Gl):AC→Fs→Hs→qFp→Prop
 | .skip,fs,hs,Qx=>Qx .normal fs hs
 | .ret,fs,hs,Qx=>Qx .ret fs hs
 | .exit id,fs,hs,Qx=>Qx (.exit id) fs hs
 | .seq a b,fs,hs,Qx=>a.wp tab gl fs hs (fun e fs' hs'=>match e with | .normal=>b.wp tab gl fs' hs' Qx | e=>Qx e fs' hs')
 | .cond c a b,fs,hs,Qx=>qId (c.val gl (jE fs)) (a.wp tab gl fs hs Qx) (b.wp tab gl fs hs Qx)
 | .condb c a b,fs,hs,Qx=>qRe (c.val gl (jE fs)) (a.wp tab gl fs hs Qx) (b.wp tab gl fs hs Qx)
 | .block id a,fs,hs,Qx=>a.wp tab gl fs hs (fun e fs' hs'=>match e with | .exit id'=>(if id'=id then Qx .normal fs' hs' else Qx (.exit id') fs' hs') | e=>Qx e fs' hs')
 | .loop a,fs,hs,Qx=>zJ5 (fun fs hs K=>a.wp tab gl fs hs K) fs hs Qx
 | .reg nb anc ops,fs,hs,Qx=>jTe tab gl nb anc ops fs hs Qx
@[congr] theorem AC.wp_congr {tab:Tab} {gl:Gl} {c:AC} {fs fs':Fs} {hs hs':Hs} {Qx:qFp} (h1:fs=fs') (h2:hs=hs'):c.wp tab gl fs hs Qx=c.wp tab gl fs' hs' Qx:=by rw[h1,h2]
@[congr] theorem jB7 {tab:Tab} {gl:Gl} {os:List zS} {nb nb':Nat} {fs fs':Fs} {hs hs':Hs} {acc:List (List Nat×List Nat)} {K:Fs→Hs→List (List Nat×List Nat)→Prop} (h0:nb=nb') (h1:fs=fs') (h2:hs=hs') :
  zAa tab gl os nb fs hs acc K=zAa tab gl os nb' fs' hs' acc K:=by rw[h0,h1,h2]
def zPy (P:Program)(nt:Nat)(ops:Array Oper)(keeps:List Nat):Nat→List Oper→Option (List zS)
 | _,[]=>some []
 | i,o::r=>(jCg P nt ops (keeps.contains i) o).bind fun x=>(zPy P nt ops keeps (i+1) r).map (x :: ·)
def zYu (hints:List (Nat×List Nat))(id:Nat):List Nat:=(jE hints id).getD []
def ann (P:Program)(nt:Nat)(hints:List (Nat×List Nat)):Code→Option AC
 | .skip=>some .skip
 | .label _=>some .skip
 | .ret=>some .ret
 | .exit id=>some (.exit id)
 | .seq a b=>(ann P nt hints a).bind fun x=>(ann P nt hints b).map fun y=> .seq x y
 | .cond c a b=>(zSn c).bind fun o=>(ann P nt hints a).bind fun x=>(ann P nt hints b).map fun y=>match jE hints 900000 with | some _=> .condb o x y | none=> .cond o x y
 | .block id a=>(ann P nt hints a).map fun x=> .block id x
 | .loop a=>(ann P nt hints a).map fun x=> .loop x
 | .region id ops draw=>(zPy P nt ops (zYu hints id) 0 ops.toList).bind fun aos=>
  if draw then (if zK5 (jJc ops.toList []) ops.toList&&zOj (jJc ops.toList []) aos then some (.reg (4096*(id+1)) (some (jJc ops.toList [])) aos) else none)
  else some (.reg (4096*(id+1)) none aos)
 | _=>none
theorem qS5 {P:Program}{nt:Nat}{ops:Array Oper}{keeps:List Nat} : ∀ {l:List Oper} {i:Nat} {aos:List zS},zPy P nt ops keeps i l=some aos→l=ops.toList.drop i→i≤ops.size→zHo P nt ops i aos
 | [],i,aos,h,hl,hi=>by
  cases h;have:=congrArg List.length hl;simp at this;simp only[zHo];omega
 | o::r,i,aos,h,hl,hi=>by
  simp only[zPy,Option.bind_eq_some_iff,Option.map_eq_some_iff] at h;obtain⟨x,hx,xs,hxs,rfl⟩:=h;have hlt:i<ops.size:=by
   have:=congrArg List.length hl;simp at this;omega
  have h0:ops.toList.drop i=ops.toList[i]'(by simpa using hlt)::ops.toList.drop (i+1):=List.drop_eq_getElem_cons (by simpa using hlt);rw[h0] at hl;simp only[List.cons.injEq] at hl;refine⟨⟨o,keeps.contains i,?_,hx⟩,qS5 hxs hl.2 hlt⟩;rw[hl.1];simp[hlt]
variable {β:Nat→Option BI} {F:Nat→Prop} {w:World} {cx:Cx} {a:Act}
theorem qZu {tab:Tab}{gl:Gl} : ∀ {aos:List zS} {nb:Nat} {fs:Fs} {hs:Hs} {acc:List (List Nat×List Nat)} {K:Fs→Hs→List (List Nat×List Nat)→Prop},zAa tab gl aos nb fs hs acc K→
  ∃ tr fs' hs',Lex tab gl aos nb (jE fs) (jE hs) tr (jE fs') (jE hs')∧tr.length=aos.length∧K fs' hs' (acc++tr.map fun p=>(wE p.2.1,p.2.2))
 | [],nb,fs,hs,acc,K,h=>⟨[],fs,hs,.nil,rfl,by simpa [zAa] using h⟩
 | o::r,nb,fs,hs,acc,K,h=>by
  obtain⟨⟨v,W⟩,l,hq,h⟩:=h;obtain⟨tr,fs',hs',h1,h2,h3⟩:=qZu h;refine⟨(v,W,l)::tr,fs',hs',.cons hq (by rw[←zMi,←qFx];exact h1),by simp[h2],?_⟩;simpa using h3
theorem zQg {anc:List Nat}{tr:List (V×Wr×List Nat)}(h:chk anc (tr.map fun p=>(wE p.2.1,p.2.2))=true) : ∀ i j,i<j→j<tr.length→(anc.getD j 0).testBit i=true∨apartW (wE (trW tr i),trL tr i) (wE (trW tr j),trL tr j)=true:=by
 intro i j hij hj;have h1:=List.all_eq_true.1 h j (by simpa using hj);have h2:=List.all_eq_true.1 h1 i (by simpa using hij);rw[Bool.or_eq_true] at h2;rcases h2 with h2 | h2
 ·exact .inl h2
 ·refine .inr ?_;have e : ∀ k,k<tr.length→(tr.map fun p=>(wE p.2.1,p.2.2)).getD k ([],[])=(wE (trW tr k),trL tr k):=by
   intro k hk;simp[trW,trL,List.getD,hk]
  rw[e i oM,e j hj] at h2;exact h2
theorem qZ4 {P:Program}{Qx:Exit→Act→World→Prop}{a:Act}{w:World}{c:Code}{ι:Type}(I:ι→Act→World→Prop)(μ:ι→Nat)(i0:ι)(h₀:I i0 a w)
  (round : ∀ i a w,I i a w→c.wp P (Exit.then (fun a' w' => ∃ j,μ j<μ i∧I j a' w') Qx) a w):(Code.loop c).wp P Qx a w:=by
 intro b k cs;have key : ∀ n i a w,μ i=n→I i a w → ∃ e a' w',Qx e a' w'∧Arrives P (lone (b.at a (.code c :: .inLoop c::k)) cs w) b k cs e a' w':=by
  intro n
  induction n using Nat.strongRecOn with
  | _ n ih=>
   intro i a w hn hI;obtain⟨e,a₁,w₁,hq,harr⟩:=round i a w hI b (.inLoop c::k) cs;cases e with
   | normal=>
    obtain⟨j,hlt,hI₁⟩:=hq;obtain⟨e₂,a₂,w₂,hq₂,harr₂⟩:=ih (μ j) (hn▸hlt) j a₁ w₁ rfl hI₁;exact⟨e₂,a₂,w₂,hq₂,.of_steps (Steps.trans harr (.one step_inLoop)) harr₂⟩
   | exit id=>exact⟨_,a₁,w₁,hq,.pass (x:= .inLoop c) rfl (fun _ _=> .inl sM) harr⟩
   | goto l=>exact⟨_,a₁,w₁,hq,.pass (x:= .inLoop c) rfl (fun _ _=> .inl sM) harr⟩
   | ret=>exact⟨_,a₁,w₁,hq,.pass (x:= .inLoop c) rfl (fun _ _=> .inl sM) harr⟩
   | panic ch=>exact⟨_,a₁,w₁,hq,.pass (x:= .inLoop c) rfl (fun _ _=> .inl sM) harr⟩
   | outgrown=>exact⟨_,a₁,w₁,hq,.pass (x:= .inLoop c) rfl (fun _ _=> .inl sM) harr⟩
 obtain⟨e,a',w',hq,harr⟩:=key _ i0 a w rfl h₀;exact⟨e,a',w',hq,.of_steps (.one step_loop) harr⟩
theorem AC.sound {tab:Tab}(ht:qAu cx.P cx.gl tab)(hmx:cx.P.follows .mixedOrders=true){hints:List (Nat×List Nat)} : ∀ {c:Code} {ac:AC},ann cx.P cx.nt hints c=some ac→
  ∀ {fs:Fs} {hs:Hs} {Qa:qFp} {Qx:Exit→Act→World→Prop} {β:Nat→Option BI} {F:Nat→Prop} {a:Act} {w:World},ac.wp tab cx.gl fs hs Qa→Rel cx β F (jE fs) (jE hs) a w→
   (∀ e fs' hs' β' F' a' w',Qa e fs' hs'→Rel cx β' F' (jE fs') (jE hs') a' w'→Qx e.ex a' w')→c.wp cx.P Qx a w:=by
 intro c
 induction c with
 | skip=>intro ac h fs hs Qa Qx β F a w hw R hQ;cases h;exact wp_skip (hQ .normal _ _ _ _ _ _ hw R)
 | label l=>intro ac h fs hs Qa Qx β F a w hw R hQ;cases h;exact wp_label (hQ .normal _ _ _ _ _ _ hw R)
 | ret=>intro ac h fs hs Qa Qx β F a w hw R hQ;cases h;exact wp_ret (hQ .ret _ _ _ _ _ _ hw R)
 | exit id=>intro ac h fs hs Qa Qx β F a w hw R hQ;cases h;exact wp_exit (hQ (.exit id) _ _ _ _ _ _ hw R)
 | seq x y ihx ihy=>
  intro ac h fs hs Qa Qx β F a w hw R hQ;simp only[ann,Option.bind_eq_some_iff,Option.map_eq_some_iff] at h;obtain⟨cx',hx,cy,hy,rfl⟩:=h;refine wp_seq (ihx hx hw R (fun e fs' hs' β' F' a' w' hq R'=>?_));cases e with
  | normal=>exact ihy hy hq R' hQ
  | exit id=>exact hQ (.exit id) _ _ _ _ _ _ hq R'
  | ret=>exact hQ .ret _ _ _ _ _ _ hq R'
 | cond o x y ihx ihy=>
  intro ac h fs hs Qa Qx β F a w hw R hQ;simp only[ann,Option.bind_eq_some_iff,Option.map_eq_some_iff] at h;obtain⟨o',ho,cx',hx,cy,hy,h⟩:=h;have key : ∀ {Qa:qFp},qId (o'.val cx.gl (jE fs)) (cx'.wp tab cx.gl fs hs Qa) (cy.wp tab cx.gl fs hs Qa)→(∀ e fs' hs' β' F' a' w',Qa e fs' hs'→Rel cx β' F' (jE fs') (jE hs') a' w'→Qx e.ex a' w')→(Code.cond o x y).wp cx.P Qx a w:=by
   intro Qa hw hQ;simp only[qId] at hw;split at hw
   ·rename_i v b hv;have:=qT3 R ho hv;refine wp_cond_split (this.bool_inv) (fun e=>ihx hx (hw.1 e) R hQ) (fun e=>ihy hy (hw.2 e) R hQ)
   ·exact hw.elim
  cases hm:jE hints 900000 with
  | none=>
   rw[hm] at h;subst h;exact key hw hQ
  | some l=>
   rw[hm] at h;subst h;simp only[AC.wp,qRe] at hw;split at hw
   ·rename_i v hv;have:=qT3 R ho hv;generalize he:a.eval o=y0 at this;cases this with
    | bq b=>exact wp_cond_split he (fun _=>ihx hx hw.1 R hQ) (fun _=>ihy hy hw.2 R hQ)
   ·exact key hw hQ
 | block id x ih=>
  intro ac h fs hs Qa Qx β F a w hw R hQ;simp only[ann,Option.map_eq_some_iff] at h;obtain⟨x',hx,rfl⟩:=h;refine wp_block (ih hx hw R (fun e fs' hs' β' F' a' w' hq R'=>?_));cases e with
  | normal=>exact hQ .normal _ _ _ _ _ _ hq R'
  | exit id'=>
   simp only[AE.ex,Exit.inBlock];simp only at hq;split
   ·rename_i h1;rw[if_pos h1] at hq;exact hQ .normal _ _ _ _ _ _ hq R'
   ·rename_i h1;rw[if_neg h1] at hq;exact hQ (.exit id') _ _ _ _ _ _ hq R'
  | ret=>exact hQ .ret _ _ _ _ _ _ hq R'
 | loop x ih=>
  intro ac h fs hs Qa Qx β F a w hw R hQ;simp only[ann,Option.map_eq_some_iff] at h;obtain⟨x',hx,rfl⟩:=h;obtain⟨ι,I,μ,i0,h0,hr⟩:=hw;refine qZ4 (fun i a w => ∃ β F,Rel cx β F (jE (I i).1) (jE (I i).2) a w) μ i0 (h0 cx β F a w R) (fun i a w ⟨β1,F1,R1⟩=>?_);refine ih hx (hr i) R1 (fun e fs' hs' β' F' a' w' hq R'=>?_);cases e with
  | normal=>
   obtain⟨j,h1,h2⟩:=hq;exact⟨j,h1,h2 cx β' F' a' w' R'⟩
  | exit id=>exact hQ (.exit id) _ _ _ _ _ _ hq R'
  | ret=>exact hQ .ret _ _ _ _ _ _ hq R'
 | region id ops draw=>
  intro ac h fs hs Qa Qx β F a w hw R hQ;simp only[ann,Option.bind_eq_some_iff] at h;obtain⟨aos,haos,h⟩:=h;have hag:=qS5 haos rfl (Nat.zero_le _);cases draw with
  | false=>
   simp only[Bool.false_eq_true,if_false] at h;cases h;obtain⟨tr,fs',hs',h1,h2,_,h3⟩:=qZu hw;exact wp_region (zMf ht hag h1 R (fun β' F' a' w' R'=>hQ .normal _ _ _ _ _ _ h3 R') _ rfl)
  | true=>
   simp only[if_true] at h;split at h
   ·rename_i hb;cases h;rw[Bool.and_eq_true] at hb;obtain⟨tr,fs',hs',h1,h2,h4,h3⟩:=qZu hw;simp only[List.nil_append] at h4;have hsz:ops.size=aos.length:=by
     have:=(qS0 hag).1;omega
    refine wp_region_any hmx ?_;refine zYw ht hag h1 hb.1 hb.2 (fun i j hij hj=>zQg h4 i j hij oM) (fun β' F' a' w' R'=>hQ .normal _ _ _ _ _ _ h3 R') ops.size _ (fun _=>false) β F a _ sM (fun i hi=>by simp[hi]) ?_ (fun i o h=>by cases h) ?_
    ·have : ∀ n,cnt (fun _=>false) n=n:=by
      intro n
      induction n with
      | zero=>rfl
      | succ n ih=>simp[cnt,ih]
     exact this _
    ·have e1 : ∀ n,SF (aoD aos) (trV tr) (fun _=>false) (jE fs) n=jE fs:=by
      intro n
      induction n with
      | zero=>rfl
      | succ n ih=>simp[SF,ih]
     have e2 : ∀ n,SH (trW tr) (fun _=>false) (jE hs) n=jE hs:=by
      intro n
      induction n with
      | zero=>rfl
      | succ n ih=>simp[SH,ih]
     rw[e1,e2];exact R.drew
   ·cases h
 | rangeFunc f ps x y _ _=>intro ac h;cases h
 | scope x _=>intro ac h;cases h
 | goto l=>intro ac h;cases h
 | refuse s=>intro ac h;cases h
end Go.Eng
end
