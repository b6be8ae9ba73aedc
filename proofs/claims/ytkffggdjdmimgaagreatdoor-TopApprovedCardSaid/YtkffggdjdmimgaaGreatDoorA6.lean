/- A part of an abstract machine, its walks, their tie. -/
import Derived.Test.YtkffggdjdmimgaaGreatDoorA5
set_option linter.all false
section
namespace Go.Eng
open List
variable {β:Nat→Option BI} {F:Nat→Prop} {w:World} {cx:Cx} {fm:Nat→Option V} {hm:Nat→Option Ob} {a:Act}
inductive qH0 where
 | tmp (t:Nat)
 | cst (v:V)
 | glob (g:Nat)
 deriving Inhabited
inductive AK where
 | op (ao:AO)
 | call (f:FuncId) (keep:Bool)
 | callv (keep:Bool)
 deriving Inhabited
structure zZ where
 dst:Option Nat
 k:AK
 args:List qH0
 guard:Option (Nat×Bool)
 deriving Inhabited
abbrev Gl:=Nat→Option (List T)
def qH0.val (gl:Gl)(fm:Nat→Option V):qH0→Option V
 | .tmp t=>fm t
 | .cst v=>some v
 | .glob g=>(gl g).map .ro
def qCh (gl:Gl)(fm:Nat→Option V):List qH0→Option (List V)
 | []=>some []
 | x::r=>(x.val gl fm).bind fun v=>(qCh gl fm r).map (v :: ·)
def AK.q (tab:Tab)(nb:Nat):AK→List V→Q (V×Wr)
 | .op ao,vs=>sem ao vs nb
 | .call f keep,vs=>qZ2 tab f keep vs nb
 | .callv keep,.fn f caps::rest=>qZ2 tab f keep (rest++caps) nb
 | .callv keep,.bd g id i f::rest=>qZ2 tab g keep (.ref id i f::rest) nb
 | .callv _,_=> .fail
def zZ.go (tab:Tab)(gl:Gl)(o:zZ)(fm:Nat→Option V)(nb:Nat):Q (V×Wr):=
 (Q.of (qCh gl fm o.args)).bind fun vs=>o.k.q tab nb vs
def qHr (fm:Nat→Option V):Option (Nat×Bool)→Option Bool
 | none=>some true
 | some (t,want)=>match fm t with
  | some (.t (.bool b))=>some (b==want)
  | some (.tup [])=>some false
  | _=>none
def zZ.q (tab:Tab)(gl:Gl)(o:zZ)(fm:Nat→Option V)(nb:Nat):Q (V×Wr):=
 (Q.of (qHr fm o.guard)).bind fun g=>if g then o.go tab gl fm nb else .ret (.tup [],[])
def zAb (fm:Nat→Option V)(d:Option Nat)(v:V):Nat→Option V:=fun t=>if d=some t then some v else fm t
def zZ3:Operand→Option qH0
 | .tmp t=>some (.tmp t)
 | .const v=>(V.ofConst v).map .cst
 | .global g=>some (.glob g)
 | .func f=>some (.cst (.fn f []))
def zNy:List Operand→Option (List qH0)
 | []=>some []
 | x::r=>(zZ3 x).bind fun y=>(zNy r).map (y :: ·)
def zTu (P:Program)(keep:Bool):Op→Option (AK×List Operand)
 | .call { callee:= .value (.func f),args,.. }=>some (.call f keep,args.toList)
 | .call { callee:= .value (.tmp t),args,.. }=>some (.callv keep,.tmp t::args.toList)
 | op=>(zRr P op).map fun p=>(.op (if keep then p.1.cut else p.1),p.2)
def zJ8 (ops:Array Oper):Option (Nat×Bool)→Option (Option (Nat×Bool))
 | none=>some none
 | some (j,want)=>((ops[j]?).bind (·.dst)).map fun t=>some (t,want)
def jL1 (nt:Nat):Option Nat→Bool
 | some d=>decide (d<nt)
 | none=>true
def zY8 (P:Program)(keep:Bool)(op:Op):Option (AK×List qH0):=(zTu P keep op).bind fun p=>(zNy p.2).map fun xs=>(p.1,xs)
def jKz (P:Program)(nt:Nat)(ops:Array Oper)(keep:Bool)(o:Oper):Option zZ:=
 (zJ8 ops o.guard).bind fun g=>
  if jL1 nt o.dst=true then some (match zY8 P keep o.op with | some p=>⟨o.dst,p.1,p.2,g⟩ | none=>⟨o.dst,.op .bad,[],g⟩) else none
theorem qX9 (R:Rel cx β F fm hm a w){x:Operand}{y:qH0}(h:zZ3 x=some y){v:V}(hv:y.val cx.gl fm=some v):qW β F w v (a.eval x):=by
 cases x with
 | tmp t=>
  cases h;obtain⟨x,h1,h2⟩:=R.fr t v hv;have:a.eval (.tmp t)=x:=by simp[Act.eval,h1]
  rw[this];exact h2
 | const c=>
  simp only[zZ3,Option.map_eq_some_iff] at h;obtain⟨u,hu,rfl⟩:=h;cases hv;exact qCa hu
 | global g=>
  cases h;simp only[qH0.val,Option.map_eq_some_iff] at hv;obtain⟨cs,hcs,rfl⟩:=hv;exact R.gl g cs hcs
 | func f=>
  cases h;cases hv;exact .fn f [] #[] rfl (by intro i c u hc;simp at hc)
theorem zB7 (R:Rel cx β F fm hm a w) : ∀ {xs:List Operand} {ys:List qH0} {vs:List V},zNy xs=some ys→qCh cx.gl fm ys=some vs→qBm (fun x v=>qW β F w v (a.eval x)) xs vs
 | [],ys,vs,h,hv=>by cases h;cases hv;exact .nil
 | x::r,ys,vs,h,hv=>by
  simp only[zNy,Option.bind_eq_some_iff,Option.map_eq_some_iff] at h;obtain⟨y,hy,zs,hz,rfl⟩:=h;simp only[qCh,Option.bind_eq_some_iff,Option.map_eq_some_iff] at hv;obtain⟨v,hv,us,hu,rfl⟩:=hv;exact .cons (qX9 R hy hv) (zB7 R hz hu)
theorem zCp {xs:List Operand}{vs:List V}{a:Act}(h:qBm (fun x v=>qW β F w v (a.eval x)) xs vs):qBm (qW β F w) vs (xs.map a.eval):=by
 induction h with
 | nil=>exact .nil
 | cons h _ ih=>exact .cons h ih
theorem zW9 {α γ:Type}{R:α→γ→Prop}{xs xs':List α}{ys ys':List γ}(h:qBm R xs ys)(h':qBm R xs' ys'):qBm R (xs++xs') (ys++ys'):=by
 induction h with
 | nil=>exact h'
 | cons h _ ih=>exact .cons h ih
theorem qXe {vs:List V}{us:List Value}(hl:us.length=vs.length)(h : ∀ (i:Nat) (c:V) (u:Value),vs[i]?=some c→us[i]?=some u→qW β F w c u):qBm (qW β F w) vs us:=by
 induction vs generalizing us with
 | nil=>cases us with
  | nil=>exact .nil
  | cons _ _=>simp at hl
 | cons c r ih=>cases us with
  | nil=>simp at hl
  | cons u us=>exact .cons (h 0 c u rfl rfl) (ih (by simpa using hl) (fun i c u hc hu=>h (i+1) c u (by simpa using hc) (by simpa using hu)))
theorem Rel.put (R:Rel cx β F fm hm a w){d:Option Nat}(hd : ∀ t,d=some t→t<cx.nt){v:V}{x:Value}(hx:qW β F w v x):Rel cx β F (zAb fm d v) hm (a.put d x) w:=by
 cases d with
 | none=>
  have:zAb fm none v=fm:=by funext t;simp[zAb]
  rw[this];exact R
 | some t=>
  refine⟨by simp[Act.put,R.tsz],R.dfr,fun t' v' hv'=>?_,R.hp,R.dom,R.inj,R.os,R.tape,R.output,R.size,R.ext,R.old,R.inF,R.inw,R.Fw,R.F0,R.blt,R.gl,R.ext0,R.gs⟩;unfold zAb at hv';split at hv'
  ·rename_i h;cases h;cases hv';exact⟨x,by simp[Act.put,R.tsz,hd _ rfl],hx⟩
  ·rename_i h;obtain⟨y,h1,h2⟩:=R.fr t' v' hv';exact⟨y,by simp only[Act.put];rw[Array.getElem?_setIfInBounds_ne (fun e=>h (by rw[e]))];exact h1,h2⟩
theorem zKa (R:Rel cx β F fm hm a w){ops:Array Oper}{o:Oper}{g:Option (Nat×Bool)}(hg:zJ8 ops o.guard=some g){b:Bool}(hb:qHr fm g=some b):Region.wanted o (yielded ops a.tmps)=b:=by
 unfold Region.wanted;cases ho:o.guard with
 | none=>
  rw[ho] at hg;cases hg;cases hb;rfl
 | some p=>
  obtain⟨j,want⟩:=p;rw[ho] at hg;simp only[zJ8,Option.map_eq_some_iff] at hg;obtain⟨t,ht,rfl⟩:=hg;simp only[qHr] at hb;simp only[yielded,ht,Option.bind_some];cases hf:fm t with
  | none=>rw[hf] at hb;cases hb
  | some v=>
   obtain⟨x,h1,h2⟩:=R.fr t v hf;rw[h1];rw[hf] at hb;split at hb
   ·rename_i b' h;cases h;cases hb;rw[h2.bool_inv];cases b'<;>cases want<;>rfl
   ·rename_i h;cases h;cases hb;cases h2 with
    | tup _ vs hl _=>
     simp only;cases want<;>rfl
   ·cases hb
theorem zCk (R:Rel cx β F fm hm a w){tab:Tab}(ht:qCc cx.P cx.gl tab){ops:Array Oper}{i:Nat}{o:Oper}{ao:zZ}{keep:Bool}(ho:ops[i]?=some o)(hag:jKz cx.P cx.nt ops keep o=some ao)
  {nb:Nat} {v:V} {W:Wr} {l:List Nat} (hq:(ao.q tab cx.gl fm nb).run hm=some ((v,W),l)) {K:Act→World→Prop} {Qx:Exit→Act→World→Prop}
  (hK : ∀ β' F' a' w',Rel cx β' F' (zAb fm ao.dst v) (upd hm W) a' w'→K a' w'):wpOp cx.P ops Qx i K a w:=by
 unfold jKz at hag;simp only[Option.bind_eq_some_iff] at hag;obtain⟨g,hg,hag⟩:=hag;split at hag
 ·rename_i hd;have hag:=Option.some.inj hag;obtain⟨kd,ys,hkx,rfl⟩ : ∃ kd ys,(zY8 cx.P keep o.op=some (kd,ys)∨kd = .op .bad)∧ao=⟨o.dst,kd,ys,g⟩:=by
   cases hk:zY8 cx.P keep o.op with
   | none=>rw[hk] at hag;exact⟨_,_,.inr rfl,hag.symm⟩
   | some p=>rw[hk] at hag;exact⟨p.1,p.2,.inl rfl,hag.symm⟩
  simp only at hq hK;have hd' : ∀ t,o.dst=some t→t<cx.nt:=by
   intro t e;rw[e] at hd;simpa [jL1] using hd
  unfold zZ.q at hq;obtain⟨b,hb,hq⟩:=qL hq;have hw:=zKa R hg hb;unfold wpOp;simp only[ho,hw];cases b with
  | false=>
   simp only[Bool.false_eq_true,if_false] at hq ⊢;obtain⟨e,_⟩:=qF hq;cases e;exact hK β F _ _ (R.put hd' (.tup [] #[] rfl (by intro i c u hc;simp at hc)))
  | true=>
   simp only[if_true] at hq ⊢;refine .inl ?_;unfold zZ.go at hq;obtain⟨vs,hvs,hq2⟩:=qL hq;clear hq;rcases hkx with hkx | hbad
   case inr=>rw[hbad] at hq2;cases hq2
   unfold zY8 at hkx;simp only[Option.bind_eq_some_iff,Option.map_eq_some_iff] at hkx;obtain⟨⟨kd',xs⟩,hkd,ys',hys,hkeq⟩:=hkx;simp only[Prod.mk.injEq] at hkeq;obtain⟨rfl,rfl⟩:=hkeq;have hall:=zB7 R hys hvs;simp only at hall hkd hq2;unfold Oper.wp;have call : ∀ {f:FuncId} {us:List V} {vals:Array Value},execOp a.eval o=callFunc f vals→(qZ2 tab f keep us nb).run hm=some ((v,W),l)→qBm (qW β F w) us vals.toList→o.upon cx.P a K Qx ((execOp a.eval o).run cx.P w):=by
    intro f us vals he hq hv;rw[he];rcases zO3 R ht hq hv with⟨g,h1,h2⟩ | ⟨x,w',h1,x',β',F',e,R',hx⟩
    ·rw[h1];simp only[Oper.upon];refine h2.mono ?_;rintro e w' ⟨x,β',F',rfl,R',hx⟩;exact hK β' F' _ _ (R'.put hd' hx)
    ·cases e;rw[h1];exact hK β' F' _ _ (R'.put hd' hx)
   have plain:(zRr cx.P o.op).map (fun p=>(AK.op (if keep then p.1.cut else p.1),p.2))=some (kd',xs)→o.upon cx.P a K Qx ((execOp a.eval o).run cx.P w):=by
    intro h;simp only[Option.map_eq_some_iff] at h;obtain⟨⟨ao,zs⟩,hao,e⟩:=h;simp only[Prod.mk.injEq] at e;obtain⟨rfl,rfl⟩:=e;have hq3:(sem (if keep then ao.cut else ao) vs nb).run hm=some ((v,W),l):=hq2;have fin:jCs cx β F fm hm a w v W (execOp a.eval o):=by
     rcases AO.cut_or ao with⟨z,b,rfl,hc⟩ | hc
     ·cases keep
      ·exact zDs R hao hall hq3
      ·rw[if_pos rfl,hc] at hq3;exact zHf R hao hall hq3
     ·have e:(if keep then ao.cut else ao)=ao:=by rw[hc,ite_self]
      rw[e] at hq3;exact zDs R hao hall hq3
    obtain⟨n,w',β',x,h1,h2,h3,h4,h5⟩:=fin;rw[h1];rcases h2 with rfl | ⟨rfl,rfl⟩
    ·exact hK β' F _ _ (h3.put hd' h4)
    ·exact hK β' F _ _ (h3.put hd' h4)
   obtain⟨dst,op,ty,pos,after,guard⟩:=o;cases op with
   | call c=>
    obtain⟨callee,args,ts⟩:=c;cases callee with
    | value fo=>
     cases fo with
     | tmp t=>
      simp only[zTu,Option.some.injEq,Prod.mk.injEq] at hkd;obtain⟨rfl,rfl⟩:=hkd;cases hall with
      | cons hx hrest=>
       rename_i u us;cases u<;>simp only[AK.q] at hq2<;>(try (cases hq2;done))
       ·rename_i f caps;generalize h0:a.eval (.tmp t)=y0 at hx;cases hx with
        | fn _ _ cvs hl hc=>
         refine call (vals:=args.map a.eval++cvs) ?_ hq2 ?_
         ·simp only[execOp,resolve,h0,Deferred.ofValue];simp[invoke,pure_bind]
         ·have h1:=zCp hrest;have h2:qBm (qW β F w) caps cvs.toList:=qXe (by simpa using hl) (fun i c u hc' hu=>hc i c u hc' (by simpa using hu));simpa using zW9 h1 h2
       ·rename_i g id i fo;generalize h0:a.eval (.tmp t)=y0 at hx;cases hx with
        | bd _ _ _ _ b sz room hb=>
         refine call (vals := #[.pointer (some ⟨b,i*sz+fo,none⟩)]++args.map a.eval) ?_ hq2 ?_
         ·simp only[execOp,resolve,h0,Deferred.ofValue];simp[invoke,pure_bind]
         ·have h1:=zCp hrest;have h2:qW β F w (.ref id i fo) (.pointer (some ⟨b,i*sz+fo,none⟩)):= .ref id i fo b sz room hb;simpa using qBm.cons h2 h1
     | func f=>
      simp only[zTu,Option.some.injEq,Prod.mk.injEq] at hkd;obtain⟨rfl,rfl⟩:=hkd;refine call (vals:=args.map a.eval) ?_ hq2 ?_
      ·have:execOp a.eval ⟨dst,.call ⟨.value (.func f),args,ts⟩,ty,pos,after,guard⟩=callFunc f (#[]++args.map a.eval ++ #[]):=rfl;rw[this];simp
      ·simpa using zCp hall
     | const c=>exact plain hkd
     | global g=>exact plain hkd
    | invoke r m=>exact plain hkd
    | builtin b=>exact plain hkd
   | _=>exact plain hkd
 ·cases hag
end Go.Eng
end
section
namespace Go.Eng
open List
variable {β:Nat→Option BI} {F:Nat→Prop} {w:World} {cx:Cx} {fm:Nat→Option V} {hm:Nat→Option Ob} {a:Act}
inductive Lex (tab:Tab) (gl:Gl):List zZ→Nat→(Nat→Option V)→(Nat→Option Ob)→List (V×Wr×List Nat)→(Nat→Option V)→(Nat→Option Ob)→Prop
 | nil {nb:Nat} {fm:Nat→Option V} {hm:Nat→Option Ob}:Lex tab gl [] nb fm hm [] fm hm
 | cons {o:zZ} {r:List zZ} {nb:Nat} {fm fm':Nat→Option V} {hm hm':Nat→Option Ob} {v:V} {W:Wr} {l:List Nat} {tr:List (V×Wr×List Nat)}
   (h:(o.q tab gl fm nb).run hm=some ((v,W),l)) (t:Lex tab gl r (nb+16) (zAb fm o.dst v) (upd hm W) tr fm' hm'):Lex tab gl (o::r) nb fm hm ((v,W,l)::tr) fm' hm'
def zOv (P:Program)(nt:Nat)(ops:Array Oper):Nat→List zZ→Prop
 | i,[]=>ops.size=i
 | i,ao::r=>(∃ o keep,ops[i]?=some o∧jKz P nt ops keep o=some ao)∧zOv P nt ops (i+1) r
theorem zTv {tab:Tab}(ht:qCc cx.P cx.gl tab){ops:Array Oper}{Qx:Exit→Act→World→Prop} : ∀ {aos:List zZ} {i nb:Nat} {β:Nat→Option BI} {F:Nat→Prop} {fm fm':Nat→Option V} {hm hm':Nat→Option Ob} {tr:List (V×Wr×List Nat)} {a:Act} {w:World},
  zOv cx.P cx.nt ops i aos→Lex tab cx.gl aos nb fm hm tr fm' hm'→Rel cx β F fm hm a w→(∀ β' F' a' w',Rel cx β' F' fm' hm' a' w'→Qx .normal a' w') → ∀ l,l=(List.range ops.size).drop i→wpOps cx.P ops Qx l a w
 | [],i,nb,β,F,fm,fm',hm,hm',tr,a,w,hag,hl,R,hQ,l,hl'=>by
  cases hl;have:l=[]:=by
   rw[hl',drop_eq_nil_iff,length_range,hag];exact Nat.le_refl _
  subst this;exact hQ β F a w R
 | ao::r,i,nb,β,F,fm,fm',hm,hm',tr,a,w,hag,hl,R,hQ,l,hl'=>by
  cases hl with
  | cons h t=>
   obtain⟨⟨o,keep,ho,hk⟩,hag'⟩:=hag;have hi:i<ops.size:=(Array.getElem?_eq_some_iff.1 ho).1;have:l=i::(List.range ops.size).drop (i+1):=by
    rw[hl',drop_eq_getElem_cons (by simpa using hi)];simp
   subst this;rw[wpOps_cons];exact zCk R ht ho hk h (fun β' F' a' w' R'=>zTv ht hag' t R' hQ _ rfl)
def SF (D:Nat→Option Nat)(v:Nat→V)(sel:Nat→Bool)(fm:Nat→Option V):Nat→(Nat→Option V)
 | 0=>fm
 | n+1=>if sel n then zAb (SF D v sel fm n) (D n) (v n) else SF D v sel fm n
def SH (W:Nat→Wr)(sel:Nat→Bool)(hm:Nat→Option Ob):Nat→(Nat→Option Ob)
 | 0=>hm
 | n+1=>if sel n then upd (SH W sel hm n) (W n) else SH W sel hm n
def kQ (W:Wr):List Nat:=W.map (·.1)
theorem zEh : ∀ {W:Wr} {hm hm':Nat→Option Ob} {id:Nat},id∈kQ W→upd hm W id=upd hm' W id
 | [],_,_,_,h=>by simp[kQ] at h
 | (i,o)::r,hm,hm',id,h=>by
  simp only[upd];by_cases hr:id∈kQ r
  ·exact zEh hr
  ·have hi:id=i:=by
    simp only[kQ,map_cons,mem_cons] at h hr;rcases h with h | h
    ·exact h
    ·exact absurd h hr
   have miss : ∀ p∈r,p.1≠id:=fun p hp e=>hr (by simp only[kQ,mem_map];exact⟨p,hp,e⟩)
   rw[qGl miss,qGl miss,if_pos hi,if_pos hi]
theorem qDl {W:Wr}{hm:Nat→Option Ob}{id:Nat}(h:id ∉ kQ W):upd hm W id=hm id:=
 qGl (fun p hp e=>h (by simp only[kQ,mem_map];exact⟨p,hp,e⟩))
theorem jB7 {W W':Wr}{hm:Nat→Option Ob}(h : ∀ id,id∈kQ W→id ∉ kQ W'):upd (upd hm W) W'=upd (upd hm W') W:=by
 funext id;by_cases h1:id∈kQ W
 ·rw[qDl (h id h1),zEh (hm:=hm) (hm':=upd hm W') h1]
 ·by_cases h2:id∈kQ W'
  ·rw[zEh (hm:=upd hm W) (hm':=hm) h2,qDl h1]
  ·rw[qDl h2,qDl h1,qDl h1,qDl h2]
theorem zUo {fm:Nat→Option V}{d e:Option Nat}{v u:V}(h : ∀ t,d=some t→e≠some t):zAb (zAb fm d v) e u=zAb (zAb fm e u) d v:=by
 funext t;unfold zAb;by_cases h1:d=some t
 ·have:=h t h1;simp[h1,this]
 ·simp[h1]
section
variable {D:Nat→Option Nat} {v:Nat→V} {W:Nat→Wr} {sel sel':Nat→Bool}
theorem zCl {t:Nat} : ∀ {n:Nat},(∀ j,j<n→D j=some t→sel j=sel' j)→SF D v sel fm n t=SF D v sel' fm n t
 | 0,_=>rfl
 | n+1,h=>by
  have ih:=zCl (n:=n) (fun j hj=>h j oM);simp only[SF];by_cases hd:D n=some t
  ·have e:=h n oM hd;rw[e];split
   ·simp[zAb,hd]
   ·exact ih
  ·split<;>split<;>simp[zAb,hd,ih]
theorem jCu {t i:Nat} : ∀ {n:Nat},i≤n→(∀ j,i≤j→j<n→D j=some t→sel j=false)→SF D v sel fm n t=SF D v sel fm i t
 | 0,h,_=>by rw[Nat.le_zero.1 h]
 | n+1,h,hs=>by
  rcases Nat.lt_or_ge n i with h1 | h1
  ·rw[show i=n+1 by omega]
  ·rw[←jCu (n:=n) h1 (fun j h2 h3=>hs j h2 oM)];simp only[SF];split
   ·rename_i hsn;by_cases hd:D n=some t
    ·rw[hs n h1 oM hd] at hsn;cases hsn
    ·simp[zAb,hd]
   ·rfl
theorem zCn {id:Nat} : ∀ {n:Nat},(∀ j,j<n→id∈kQ (W j)→sel j=sel' j)→SH W sel hm n id=SH W sel' hm n id
 | 0,_=>rfl
 | n+1,h=>by
  have ih:=zCn (n:=n) (fun j hj=>h j oM);simp only[SH];by_cases hd:id∈kQ (W n)
  ·have e:=h n oM hd;rw[e];split
   ·exact zEh hd
   ·exact ih
  ·split<;>split<;>simp only[qDl hd,ih]
theorem jCw {id i:Nat} : ∀ {n:Nat},i≤n→(∀ j,i≤j→j<n→id∈kQ (W j)→sel j=false)→SH W sel hm n id=SH W sel hm i id
 | 0,h,_=>by rw[Nat.le_zero.1 h]
 | n+1,h,hs=>by
  rcases Nat.lt_or_ge n i with h1 | h1
  ·rw[show i=n+1 by omega]
  ·rw[←jCw (n:=n) h1 (fun j h2 h3=>hs j h2 oM)];simp only[SH];split
   ·rename_i hsn;by_cases hd:id∈kQ (W n)
    ·rw[hs n h1 oM hd] at hsn;cases hsn
    ·exact qDl hd
   ·rfl
def qBj (sel:Nat→Bool)(i:Nat):Nat→Bool:=fun j=>if j=i then true else sel j
theorem jCt {i:Nat}(hi:sel i=false) : ∀ {n:Nat},(∀ j,i<j→j<n→sel j=true → ∀ t,D i=some t→D j≠some t)→SF D v (qBj sel i) fm n=if i<n then zAb (SF D v sel fm n) (D i) (v i) else SF D v sel fm n
 | 0,_=>by simp[SF]
 | n+1,h=>by
  have ih:=jCt (n:=n) hi (fun j h1 h2=>h j h1 oM);simp only[SF];rw[ih];by_cases hn:n=i
  ·subst hn;simp[qBj,hi]
  ·have e:qBj sel i n=sel n:=by simp[qBj,hn]
   rw[e];by_cases hlt:i<n
   ·have hlt':i<n+1:=oM;rw[if_pos hlt,if_pos hlt'];split
    ·rename_i hs;exact zUo (h n hlt oM hs)
    ·rfl
   ·have hlt' : ¬ i<n+1:=oM;rw[if_neg hlt,if_neg hlt']
theorem jCv {i:Nat}(hi:sel i=false) : ∀ {n:Nat},(∀ j,i<j→j<n→sel j=true → ∀ id,id∈kQ (W i)→id ∉ kQ (W j))→SH W (qBj sel i) hm n=if i<n then upd (SH W sel hm n) (W i) else SH W sel hm n
 | 0,_=>by simp[SH]
 | n+1,h=>by
  have ih:=jCv (n:=n) hi (fun j h1 h2=>h j h1 oM);simp only[SH];rw[ih];by_cases hn:n=i
  ·subst hn;simp[qBj,hi]
  ·have e:qBj sel i n=sel n:=by simp[qBj,hn]
   rw[e];by_cases hlt:i<n
   ·have hlt':i<n+1:=oM;rw[if_pos hlt,if_pos hlt'];split
    ·rename_i hs;exact jB7 (h n hlt oM hs)
    ·rfl
   ·have hlt' : ¬ i<n+1:=oM;rw[if_neg hlt,if_neg hlt']
end
def zZ.slots (o:zZ):List Nat:=
 (o.args.filterMap fun | .tmp t=>some t | _=>none)++(match o.guard with | some (t,_)=>[t] | none=>[])
theorem qVi {gl:Gl}{fm fm':Nat→Option V} : ∀ {xs:List qH0},(∀ t,qH0.tmp t∈xs→fm t=fm' t)→qCh gl fm xs=qCh gl fm' xs
 | [],_=>rfl
 | x::r,h=>by
  have ih:=qVi (gl:=gl) (xs:=r) (fun t ht=>h t (by simp[ht]));have:x.val gl fm=x.val gl fm':=by
   cases x with
   | tmp t=>exact h t sM
   | _=>rfl
  simp only[qCh,this,ih]
theorem jHw {tab:Tab}{gl:Gl}{o:zZ}{fm fm':Nat→Option V}{nb:Nat}(h : ∀ t∈o.slots,fm t=fm' t):o.q tab gl fm nb=o.q tab gl fm' nb:=by
 have h1:qCh gl fm o.args=qCh gl fm' o.args:=qVi (fun t ht=>h t (by
  unfold zZ.slots;rw[mem_append];exact .inl (mem_filterMap.2 ⟨_,ht,rfl⟩)))
 have h2:qHr fm o.guard=qHr fm' o.guard:=by
  cases hg:o.guard with
  | none=>rfl
  | some p=>
   obtain⟨t,want⟩:=p;have:=h t (by unfold zZ.slots;rw[hg];simp);simp only[qHr,this]
 simp only[zZ.q,zZ.go,h1,h2]
end Go.Eng
end
section
namespace Go.Eng
open List
variable {β:Nat→Option BI} {F:Nat→Prop} {w:World} {cx:Cx} {fm:Nat→Option V} {hm:Nat→Option Ob} {a:Act}
theorem zCm {D:Nat→Option Nat}{v:Nat→V} : ∀ {n:Nat} {fm:Nat→Option V},SF D v (fun _=>true) fm (n+1)=SF (fun i=>D (i+1)) (fun i=>v (i+1)) (fun _=>true) (zAb fm (D 0) (v 0)) n
 | 0,_=>rfl
 | n+1,fm=>by
  rw[SF,zCm (n:=n)];simp only[SF,if_true]
theorem zCo {W:Nat→Wr} : ∀ {n:Nat} {hm:Nat→Option Ob},SH W (fun _=>true) hm (n+1)=SH (fun i=>W (i+1)) (fun _=>true) (upd hm (W 0)) n
 | 0,_=>rfl
 | n+1,hm=>by
  rw[SH,zCo (n:=n)];simp only[SH,if_true]
def trV (tr:List (V×Wr×List Nat))(i:Nat):V:=(tr.getD i (.nil,[],[])).1
def trW (tr:List (V×Wr×List Nat))(i:Nat):Wr:=(tr.getD i (.nil,[],[])).2.1
def trL (tr:List (V×Wr×List Nat))(i:Nat):List Nat:=(tr.getD i (.nil,[],[])).2.2
def aoD (aos:List zZ)(i:Nat):Option Nat:=(aos.getD i default).dst
theorem Lex.index {tab:Tab}{gl:Gl}{aos:List zZ}{nb:Nat}{fm fm':Nat→Option V}{hm hm':Nat→Option Ob}{tr:List (V×Wr×List Nat)}(h:Lex tab gl aos nb fm hm tr fm' hm') :
  (∀ i ao,aos[i]?=some ao→(ao.q tab gl (SF (aoD aos) (trV tr) (fun _=>true) fm i) (nb+16*i)).run (SH (trW tr) (fun _=>true) hm i)=some ((trV tr i,trW tr i),trL tr i))∧
   fm'=SF (aoD aos) (trV tr) (fun _=>true) fm aos.length∧hm'=SH (trW tr) (fun _=>true) hm aos.length:=by
 induction h with
 | nil=>exact⟨by intro i ao h;simp at h,rfl,rfl⟩
 | cons h _ ih=>
  rename_i o r nb fm fm' hm hm' v W l tr t;obtain⟨h1,h2,h3⟩:=ih;refine⟨fun i ao hi=>?_,?_,?_⟩
  ·cases i with
   | zero=>
    simp at hi;subst hi;exact h
   | succ i=>
    simp at hi;rw[zCm,zCo];have:=h1 i ao hi;rw[show nb+16*(i+1)=nb+16+16*i by omega];exact this
  ·rw[length_cons,zCm];exact h2
  ·rw[length_cons,zCo];exact h3
def zJf (anc:List Nat):List Edge→Nat
 | []=>0
 | e::r=>if Region.binds .any e then zJf anc r ||| (1 <<< e.on) ||| anc.getD e.on 0 else zJf anc r
theorem qXg {anc:List Nat} : ∀ {es:List Edge} {x:Nat},(zJf anc es).testBit x=true → ∃ e∈es,Region.binds .any e=true∧(x=e.on∨(anc.getD e.on 0).testBit x=true)
 | [],x,h=>by simp[zJf] at h
 | e::r,x,h=>by
  unfold zJf at h;split at h
  ·rename_i hb;rw[Nat.testBit_or,Nat.testBit_or,Bool.or_eq_true,Bool.or_eq_true] at h;rcases h with (h | h) | h
   ·obtain⟨e',h1,h2,h3⟩:=qXg h;exact⟨e',by simp[h1],h2,h3⟩
   ·refine⟨e,sM,hb,.inl ?_⟩;rw[Nat.one_shiftLeft,Nat.testBit_two_pow] at h;exact (of_decide_eq_true h).symm
   ·exact⟨e,sM,hb,.inr h⟩
  ·obtain⟨e',h1,h2,h3⟩:=qXg h;exact⟨e',by simp[h1],h2,h3⟩
def jR9:List Oper→List Nat→List Nat
 | [],acc=>acc
 | o::r,acc=>jR9 r (acc++[zJf acc o.after.toList])
def jSa (xs ys:List Nat):Bool:=xs.all fun x => !ys.contains x
theorem qRq {xs ys:List Nat}(h:jSa xs ys=true) : ∀ x,x∈xs→x ∉ ys:=by
 intro x hx hy;have:=all_eq_true.1 h x hx;simp at this;exact this hy
def apartS (x y:zZ):Bool:=
 (match x.dst with
 | some d => !y.slots.contains d&&y.dst != some d
 | none=>true) &&
 (match y.dst with
 | some d => !x.slots.contains d
 | none=>true)
def zV5 (anc:List Nat)(aos:List zZ):Bool:=
 (List.range aos.length).all fun j=>(List.range j).all fun i=>(anc.getD j 0).testBit i||apartS (aos.getD i default) (aos.getD j default)
def zSr (anc:List Nat)(ops:List Oper):Bool:=
 (List.range ops.length).all fun i=>(ops.getD i default).after.toList.all (fun e => !Region.binds .any e||decide (e.on<i))&&anc.getD i 0==zJf anc (ops.getD i default).after.toList
def apartW (x y:List Nat×List Nat):Bool:=jSa x.1 y.1&&jSa x.1 y.2&&jSa x.2 y.1
def chk (anc:List Nat)(tr:List (List Nat×List Nat)):Bool:=
 (List.range tr.length).all fun j=>(List.range j).all fun i=>(anc.getD j 0).testBit i||apartW (tr.getD i ([],[])) (tr.getD j ([],[]))
def cnt (sel:Nat→Bool):Nat→Nat
 | 0=>0
 | n+1=>cnt sel n+if sel n then 0 else 1
theorem zR8 {sel:Nat→Bool}{i:Nat}(hi:sel i=false) : ∀ {n:Nat},cnt (qBj sel i) n+(if i<n then 1 else 0)=cnt sel n
 | 0=>by simp[cnt]
 | n+1=>by
  have ih:=zR8 hi (n:=n);simp only[cnt];by_cases hn:n=i
  ·subst hn;simp[qBj,hi] at ih ⊢;omega
  ·have e:qBj sel i n=sel n:=by simp[qBj,hn]
   rw[e];by_cases hlt:i<n
   ·have:i<n+1:=oM;simp only[hlt,this,if_true] at ih ⊢;omega
   ·have : ¬ i<n+1:=oM;simp only[hlt,this,if_false] at ih ⊢;omega
theorem zMn {sel:Nat→Bool} : ∀ {n:Nat},cnt sel n=0 → ∀ i,i<n→sel i=true
 | 0,_,i,h=>oM
 | n+1,h,i,hi=>by
  simp only[cnt] at h;by_cases hn:i=n
  ·subst hn;cases hs:sel i
   ·rw[hs] at h;simp at h
   ·rfl
  ·exact zMn (n:=n) oM i oM
theorem qXd {P:Program}{nt:Nat}{ops:Array Oper} : ∀ {aos:List zZ} {i:Nat},zOv P nt ops i aos→ops.size=i+aos.length ∧ ∀ j ao,aos[j]?=some ao → ∃ o keep,ops[i+j]?=some o∧jKz P nt ops keep o=some ao
 | [],i,h=>⟨h,by intro j ao hj;simp at hj⟩
 | x::r,i,h=>by
  obtain⟨⟨o,keep,h1,h2⟩,h3⟩:=h;obtain⟨g1,g2⟩:=qXd h3;refine⟨by rw[g1,length_cons];omega,fun j ao hj=>?_⟩;cases j with
  | zero=>simp at hj;subst hj;exact⟨o,keep,h1,h2⟩
  | succ j=>
   simp at hj;rw[show i+(j+1)=i+1+j by omega];exact g2 j ao hj
theorem qXz {α:Type}{l:List α}{i:Nat}{d x:α}(h:l[i]?=some x):l.getD i d=x:=by simp[List.getD,h]
theorem jG7 {tab:Tab}(ht:qCc cx.P cx.gl tab){ops:Array Oper}{Qx:Exit→Act→World→Prop}{aos:List zZ}{anc:List Nat}{nb:Nat}{fm':Nat→Option V}{hm':Nat→Option Ob}{tr:List (V×Wr×List Nat)}
  (hag:zOv cx.P cx.nt ops 0 aos) (hlex:Lex tab cx.gl aos nb fm hm tr fm' hm') (hedge:zSr anc ops.toList=true) (hslot:zV5 anc aos=true)
  (hw : ∀ i j,i<j→j<ops.size→(anc.getD j 0).testBit i=true∨apartW (kQ (trW tr i),trL tr i) (kQ (trW tr j),trL tr j)=true)
  (hQ : ∀ β' F' a' w',Rel cx β' F' fm' hm' a' w'→Qx .normal a' w') :
  ∀ (fuel:Nat) (listed:Array Bool) (sel:Nat→Bool) (β:Nat→Option BI) (F:Nat→Prop) (a:Act) (w:World),listed.size=ops.size→(∀ i,i<ops.size→listed.getD i true=sel i∧listed.getD i false=sel i)→cnt sel ops.size=fuel→
   (∀ i o,sel i=true→ops[i]?=some o → ∀ e∈o.after,Region.binds .any e=true→sel e.on=true)→Rel cx β F (SF (aoD aos) (trV tr) sel fm ops.size) (SH (trW tr) sel hm ops.size) a w→wpAny cx.P .any ops Qx fuel listed a w:=by
 obtain⟨hidx,hfm',hhm'⟩:=hlex.index;obtain⟨hsize,hget⟩:=qXd hag;simp only[Nat.zero_add] at hsize hget;have hE1 : ∀ i o,ops[i]?=some o → ∀ e∈o.after,Region.binds .any e=true→e.on<i:=by
  intro i o ho e he hb;have hi:i<ops.toList.length:=by simpa using (Array.getElem?_eq_some_iff.1 ho).1
  have h1:=all_eq_true.1 hedge i (by simpa using hi);rw[Bool.and_eq_true] at h1;rw[qXz (x:=o) (by simpa using ho)] at h1;have:=all_eq_true.1 h1.1 e (by simpa using he);simpa [hb] using this
 have hE2 : ∀ i o x,ops[i]?=some o→(anc.getD i 0).testBit x=true → ∃ e∈o.after,Region.binds .any e=true∧(x=e.on∨(anc.getD e.on 0).testBit x=true):=by
  intro i o x ho hx;have hi:i<ops.toList.length:=by simpa using (Array.getElem?_eq_some_iff.1 ho).1
  have h1:=all_eq_true.1 hedge i (by simpa using hi);rw[Bool.and_eq_true] at h1;rw[qXz (x:=o) (by simpa using ho)] at h1;have:=eq_of_beq h1.2;rw[this] at hx;obtain⟨e,h2,h3,h4⟩:=qXg hx;exact⟨e,by simpa using h2,h3,h4⟩
 have hclosed : ∀ (sel:Nat→Bool),(∀ i o,sel i=true→ops[i]?=some o → ∀ e∈o.after,Region.binds .any e=true→sel e.on=true) → ∀ i,i<ops.size→sel i=true → ∀ x,(anc.getD i 0).testBit x=true→sel x=true:=by
  intro sel hc i
  induction i using Nat.strongRecOn with
  | _ i ih=>
   intro hi hs x hx;obtain⟨e,h1,h2,h3⟩:=hE2 i ops[i] x (by simp[hi]) hx;have hlt:=hE1 i ops[i] (by simp[hi]) e h1 h2;have hse:=hc i ops[i] hs (by simp[hi]) e h1 h2;rcases h3 with rfl | h3
   ·exact hse
   ·exact ih e.on hlt oM hse x h3
 have hS : ∀ i j,i<j→j<ops.size→(anc.getD j 0).testBit i=true∨apartS (aos.getD i default) (aos.getD j default)=true:=by
  intro i j hij hj;have h1:=all_eq_true.1 hslot j soM;have h2:=all_eq_true.1 h1 i (by simpa using hij);simpa using h2
 have apart : ∀ i j,i<ops.size→j<ops.size→i≠j→(anc.getD j 0).testBit i=false→(anc.getD i 0).testBit j=false→
   (∀ t,aoD aos j=some t→t ∉ (aos.getD i default).slots∧aoD aos i≠some t)∧(∀ id,id∈kQ (trW tr j)→id ∉ trL tr i∧id ∉ kQ (trW tr i)):=by
  intro i j hi hj hne h1 h2;rcases Nat.lt_or_gt_of_ne hne with hlt | hlt
  ·have a1:apartS (aos.getD i default) (aos.getD j default)=true:=by
    rcases hS i j hlt hj with h | h
    ·rw[h1] at h;cases h
    ·exact h
   have a2:apartW (kQ (trW tr i),trL tr i) (kQ (trW tr j),trL tr j)=true:=by
    rcases hw i j hlt hj with h | h
    ·rw[h1] at h;cases h
    ·exact h
   simp only[apartW,Bool.and_eq_true] at a2;refine⟨fun t ht=>?_,fun id hid=>⟨fun h=>qRq a2.2 id h hid,fun h=>qRq a2.1.1 id h hid⟩⟩;unfold apartS at a1;rw[Bool.and_eq_true] at a1;unfold aoD at ht ⊢;rw[ht] at a1;refine⟨by simpa using a1.2,fun h=>?_⟩;rw[h] at a1;simp at a1
  ·have a1:apartS (aos.getD j default) (aos.getD i default)=true:=by
    rcases hS j i hlt hi with h | h
    ·rw[h2] at h;cases h
    ·exact h
   have a2:apartW (kQ (trW tr j),trL tr j) (kQ (trW tr i),trL tr i)=true:=by
    rcases hw j i hlt hi with h | h
    ·rw[h2] at h;cases h
    ·exact h
   simp only[apartW,Bool.and_eq_true] at a2;refine⟨fun t ht=>?_,fun id hid=>⟨fun h=>qRq a2.1.2 id hid h,fun h=>qRq a2.1.1 id hid h⟩⟩;unfold apartS at a1;rw[Bool.and_eq_true] at a1;unfold aoD at ht ⊢;rw[ht] at a1;simp only[Bool.and_eq_true,Bool.not_eq_true',bne_iff_ne,ne_eq] at a1;exact⟨by simpa using a1.1.1,a1.1.2⟩
 have hall : ∀ (listed:Array Bool) (sel:Nat→Bool),listed.size=ops.size→(∀ i,i<ops.size→listed.getD i true=sel i∧listed.getD i false=sel i)→Region.ready .any ops listed=[] → ∀ i,i<ops.size→sel i=true:=by
  intro listed sel hls hl hr i
  induction i using Nat.strongRecOn with
  | _ i ih=>
   intro hi;cases hs:sel i with
   | true=>rfl
   | false=>
    have:i∈Region.ready .any ops listed:=mem_ready.2 ⟨by rw[(hl i hi).1];exact hs,ops[i],by simp[hi],fun e he hb=>by
     have hlt:=hE1 i ops[i] (by simp[hi]) e he hb;rw[(hl e.on oM).2];exact ih e.on hlt oM⟩
    rw[hr] at this;cases this
 have hdone : ∀ (sel:Nat→Bool) (β:Nat→Option BI) (F:Nat→Prop) (a:Act) (w:World),(∀ i,i<ops.size→sel i=true)→Rel cx β F (SF (aoD aos) (trV tr) sel fm ops.size) (SH (trW tr) sel hm ops.size) a w→Qx .normal a w:=by
  intro sel β F a w hs R;refine hQ β F a w ?_;have e1:SF (aoD aos) (trV tr) sel fm ops.size=fm':=by
   rw[hfm',←hsize];funext t;exact zCl (fun j hj _=>hs j hj)
  have e2:SH (trW tr) sel hm ops.size=hm':=by
   rw[hhm',←hsize];funext t;exact zCn (fun j hj _=>hs j hj)
  rw[e1,e2] at R;exact R
 intro fuel
 induction fuel with
 | zero=>
  intro listed sel β F a w hls hl hc hcl R;have hs:=zMn hc;refine⟨?_,hdone sel β F a w hs R⟩;refine eq_nil_iff_forall_not_mem.2 (fun i hi=>?_);obtain⟨h1,o,ho,_⟩:=mem_ready.1 hi;have hi':=(Array.getElem?_eq_some_iff.1 ho).1;rw[(hl i hi').1,hs i hi'] at h1;cases h1
 | succ fuel ih=>
  intro listed sel β F a w hls hl hc hcl R;refine⟨fun hr=>hdone sel β F a w (hall listed sel hls hl hr) R,fun i hi=>?_⟩;obtain⟨h1,o,ho,hwait⟩:=mem_ready.1 hi;have hi':=(Array.getElem?_eq_some_iff.1 ho).1;have hsi:sel i=false:=by rw[←(hl i hi').1];exact h1
  have hafter : ∀ e∈o.after,Region.binds .any e=true→sel e.on=true:=fun e he hb=>by
   have hlt:=hE1 i o ho e he hb;rw[←(hl e.on oM).2];exact hwait e he hb
  have hanc : ∀ x,(anc.getD i 0).testBit x=true→sel x=true:=by
   intro x hx;obtain⟨e,g1,g2,g3⟩:=hE2 i o x ho hx;have hlt:=hE1 i o ho e g1 g2;have hse:=hafter e g1 g2;rcases g3 with rfl | g3
   ·exact hse
   ·exact hclosed sel hcl e.on oM hse x g3
  have hil:i<aos.length:=oM;obtain⟨o',keep,ho',hk⟩:=hget i aos[i] (by simp[hil]);rw[ho] at ho';cases ho';have hao:aos.getD i default=aos[i]:=qXz (by simp[hil]);have hun : ∀ j,j<ops.size→(sel j=true∧i<j∨sel j=false∧j<i)→(∀ t,aoD aos j=some t→t ∉ (aos.getD i default).slots∧aoD aos i≠some t)∧(∀ id,id∈kQ (trW tr j)→id ∉ trL tr i∧id ∉ kQ (trW tr i)):=by
   intro j hj hcase;rcases hcase with⟨hs,hlt⟩ | ⟨hs,hlt⟩
   ·refine apart i j hi' hj oM ?_ ?_
    ·cases hb:(anc.getD j 0).testBit i with
     | false=>rfl
     | true=>have:=hclosed sel hcl j hj hs i hb;rw[hsi] at this;cases this
    ·cases hb:(anc.getD i 0).testBit j with
     | false=>rfl
     | true=>
      exfalso;have : ∀ k,k<ops.size → ∀ x,(anc.getD k 0).testBit x=true→x<k:=by
       intro k
       induction k using Nat.strongRecOn with
       | _ k ihk=>
        intro hk x hx;obtain⟨e,g1,g2,g3⟩:=hE2 k ops[k] x (by simp[hk]) hx;have hlt:=hE1 k ops[k] (by simp[hk]) e g1 g2;rcases g3 with rfl | g3
        ·exact hlt
        ·have:=ihk e.on hlt oM x g3;omega
      have:=this i hi' j hb;omega
   ·refine apart i j hi' hj oM ?_ ?_
    ·cases hb:(anc.getD j 0).testBit i with
     | false=>rfl
     | true=>
      exfalso;have : ∀ k,k<ops.size → ∀ x,(anc.getD k 0).testBit x=true→x<k:=by
       intro k
       induction k using Nat.strongRecOn with
       | _ k ihk=>
        intro hk x hx;obtain⟨e,g1,g2,g3⟩:=hE2 k ops[k] x (by simp[hk]) hx;have hlt:=hE1 k ops[k] (by simp[hk]) e g1 g2;rcases g3 with rfl | g3
        ·exact hlt
        ·have:=ihk e.on hlt oM x g3;omega
      have:=this j hj i hb;omega
    ·cases hb:(anc.getD i 0).testBit j with
     | false=>rfl
     | true=>have:=hanc j hb;rw[hs] at this;cases this
  have hslotsEq : ∀ t∈aos[i].slots,SF (aoD aos) (trV tr) (fun _=>true) fm i t=SF (aoD aos) (trV tr) sel fm ops.size t:=by
   intro t htm;rw[←hao] at htm;rw[jCu (n:=ops.size) (i:=i) oM (fun j h2 h3 hD=>by
    cases hs:sel j with
    | false=>rfl
    | true=>
     have hne:j≠i:=fun e=>by rw[e] at hs;rw[hsi] at hs;cases hs
     exact absurd htm ((hun j h3 (.inl ⟨hs,oM⟩)).1 t hD).1)]
   refine zCl (fun j hj hD=>?_);cases hs:sel j with
   | true=>rfl
   | false=>exact absurd htm ((hun j oM (.inr ⟨hs,hj⟩)).1 t hD).1
  have hheapEq : ∀ id∈trL tr i,SH (trW tr) sel hm ops.size id=SH (trW tr) (fun _=>true) hm i id:=by
   intro id hid;rw[jCw (n:=ops.size) (i:=i) oM (fun j h2 h3 hD=>by
    cases hs:sel j with
    | false=>rfl
    | true=>
     have hne:j≠i:=fun e=>by rw[e] at hs;rw[hsi] at hs;cases hs
     exact absurd hid ((hun j h3 (.inl ⟨hs,oM⟩)).2 id hD).1)]
   refine zCn (fun j hj hD=>?_);cases hs:sel j with
   | true=>rfl
   | false=>exact absurd hid ((hun j oM (.inr ⟨hs,hj⟩)).2 id hD).1
  have hq:=hidx i aos[i] (by simp[hil]);rw[jHw hslotsEq] at hq;have hq':=Q.run_local _ hq hheapEq;refine zCk R ht ho hk hq' (fun β' F' a' w' R'=>?_);refine ih (listed.setIfInBounds i true) (qBj sel i) β' F' a' w' (by simpa using hls) (fun j hj=>?_) ?_ (fun j oj hs hoj e he hb=>?_) ?_
  ·by_cases hji:j=i
   ·subst hji;simp[qBj,hls,hi']
   ·have h2:=hl j hj;rw[getD_set_ne true (fun e=>hji e.symm),getD_set_ne false (fun e=>hji e.symm)];simpa [qBj,hji] using h2
  ·have:=zR8 hsi (n:=ops.size);rw[if_pos hi'] at this;omega
  ·by_cases hji:j=i
   ·subst hji;rw[ho] at hoj;cases hoj;have hlt:=hE1 j o ho e he hb;have hse:=hafter e he hb;simp only[qBj];split
    ·rfl
    ·exact hse
   ·have hsj:sel j=true:=by simpa [qBj,hji] using hs
    have:=hcl j oj hsj hoj e he hb;simp only[qBj];split
    ·rfl
    ·exact this
  ·have e1:SF (aoD aos) (trV tr) (qBj sel i) fm ops.size=zAb (SF (aoD aos) (trV tr) sel fm ops.size) aos[i].dst (trV tr i):=by
    rw[jCt hsi (fun j hij hj hs t hD hD'=>((hun j hj (.inl ⟨hs,hij⟩)).1 t hD').2 hD),if_pos hi'];unfold aoD;rw[hao]
   have e2:SH (trW tr) (qBj sel i) hm ops.size=upd (SH (trW tr) sel hm ops.size) (trW tr i):=by
    rw[jCv hsi (fun j hij hj hs id hD hD'=>((hun j hj (.inl ⟨hs,hij⟩)).2 id hD').2 hD),if_pos hi']
   rw[e1,e2];exact R'
end Go.Eng
end
section
namespace Go.Eng
open List
def jM {α:Type}:List (Nat×α)→Nat→Option α
 | [],_=>none
 | (k,v)::r,t=>if k=t then some v else jM r t
def jSi {α:Type}:List (Nat×α)→Nat→α→List (Nat×α)
 | [],k,v=>[(k,v)]
 | (k',v')::r,k,v=>if k'=k then (k,v)::r else (k',v')::jSi r k v
def jEz (fs:List (Nat×V)):Option Nat→V→List (Nat×V)
 | some d,v=>(d,v)::fs
 | none,_=>fs
theorem zTy {fs:List (Nat×V)}{d:Option Nat}{v:V}:jM (jEz fs d v)=zAb (jM fs) d v:=by
 funext t;cases d with
 | none=>simp[jEz,zAb]
 | some d=>
  simp only[jEz,jM,zAb,Option.some.injEq]
def zCg:List (Nat×Ob)→Wr→List (Nat×Ob)
 | hs,[]=>hs
 | hs,(i,o)::r=>zCg ((i,o)::hs) r
theorem qH6 : ∀ {W:Wr} {hs:List (Nat×Ob)},jM (zCg hs W)=upd (jM hs) W
 | [],_=>rfl
 | (i,o)::r,hs=>by
  simp only[zCg,upd];rw[qH6];congr 1;funext j;rw[jM];by_cases h:i=j
  ·simp[h]
  ·simp[h,Ne.symm h]
def Q.wp {α:Type}(hs:List (Nat×Ob))(q:Q α)(K:α→List Nat→Prop):Prop := ∃ x l,q.run (jM hs)=some (x,l)∧K x l
section
variable {α γ:Type} {hs:List (Nat×Ob)} {K:α→List Nat→Prop}
def zQ7 {α:Type}(hs:List (Nat×Ob))(o:Option Ob)(id:Nat)(k:Ob→Q α)(K:α→List Nat→Prop):Prop:=
 match o with
 | some o=>(k o).wp hs (fun x l=>K x (id::l))
 | none=>False
def zCj {α:Type}(hs:List (Nat×Ob))(o:Option Ob)(id:Nat)(k:Q α)(K:α→List Nat→Prop):Prop:=
 match o with
 | some _=>False
 | none=>k.wp hs (fun x l=>K x (id::l))
def zI0 {α γ:Type}(hs:List (Nat×Ob))(o:Option γ)(f:γ→Q α)(K:α→List Nat→Prop):Prop:=
 match o with
 | some x=>(f x).wp hs K
 | none=>False
theorem Q.wp_ret {x:α}:(Q.ret x).wp hs K=K x []:=by
 apply propext;constructor
 ·rintro⟨y,l,h,hK⟩;obtain⟨rfl,rfl⟩:=qF h;exact hK
 ·exact fun h=>⟨x,[],rfl,h⟩
theorem Q.wp_fail:(Q.fail:Q α).wp hs K=False:=by
 apply propext;constructor
 ·rintro⟨y,l,h,hK⟩;cases h
 ·exact fun h=>h.elim
theorem Q.wp_get {id:Nat}{k:Ob→Q α}:(Q.get id k).wp hs K=zQ7 hs (jM hs id) id k K:=by
 apply propext;constructor
 ·rintro⟨y,l,h,hK⟩;obtain⟨o,l',h1,h2,rfl⟩:=vV h;rw[h1];exact⟨y,l',h2,hK⟩
 ·intro h;cases ho:jM hs id with
  | none=>rw[ho] at h;exact h.elim
  | some o=>
   rw[ho] at h;obtain⟨y,l,h1,h2⟩:=h;exact⟨y,id::l,by simp[Q.run,ho,h1],h2⟩
theorem Q.wp_free {id:Nat}{k:Q α}:(Q.free id k).wp hs K=zCj hs (jM hs id) id k K:=by
 apply propext;constructor
 ·rintro⟨y,l,h,hK⟩;obtain⟨h1,l',h2,rfl⟩:=qAc h;rw[h1];exact⟨y,l',h2,hK⟩
 ·intro h;cases ho:jM hs id with
  | some o=>rw[ho] at h;exact h.elim
  | none=>
   rw[ho] at h;obtain⟨y,l,h1,h2⟩:=h;exact⟨y,id::l,by simp[Q.run,ho,h1],h2⟩
theorem Q.wp_assert {b:Prop}[Decidable b]{q:Q α}:(Q.assert b q).wp hs K=(b∧q.wp hs K):=by
 apply propext;constructor
 ·rintro⟨y,l,h,hK⟩;obtain⟨h1,h2⟩:=qS h;exact⟨h1,y,l,h2,hK⟩
 ·rintro⟨h1,y,l,h,hK⟩;exact⟨y,l,by unfold Q.assert;rw[if_pos h1];exact h,hK⟩
theorem Q.wp_ite {b:Prop}[Decidable b]{p q:Q α}:(if b then p else q).wp hs K=((b→p.wp hs K)∧(¬ b→q.wp hs K)):=by
 by_cases h:b<;>simp[h]
theorem Q.wp_of_bind {o:Option γ}{f:γ→Q α}:((Q.of o).bind f).wp hs K=zI0 hs o f K:=by
 cases o with
 | none=>exact Q.wp_fail
 | some x=>rfl
theorem Q.wp_bind {q:Q γ}{f:γ→Q α}:(q.bind f).wp hs K=q.wp hs (fun x l=>(f x).wp hs (fun y l'=>K y (l++l'))):=by
 apply propext;constructor
 ·rintro⟨y,l,h,hK⟩;obtain⟨x,l1,l2,h1,h2,rfl⟩:=zC h;exact⟨x,l1,h1,y,l2,h2,hK⟩
 ·rintro⟨x,l1,h1,y,l2,h2,hK⟩;exact⟨y,l1++l2,by rw[Q.run_bind,h1];simp[h2],hK⟩
theorem zQ8 {id:Nat}{k:Ob→Q α}:zQ7 hs none id k K=False:=rfl
theorem zL5 {o:Ob}{id:Nat}{k:Q α}:zCj hs (some o) id k K=False:=rfl
theorem qZx {x:γ}{f:γ→Q α}:zI0 hs (some x) f K=(f x).wp hs K:=rfl
theorem zWo {f:γ→Q α}:zI0 hs none f K=False:=rfl
theorem jCh {b:Prop}[Decidable b]{o:Option γ}{f:γ→Q α}:zI0 hs (if b then o else none) f K=(b∧zI0 hs o f K):=by
 by_cases h:b<;>simp[h,zI0]
theorem zWm {b:Prop}[Decidable b]{o:Option γ}{f:γ→Q α}:zI0 hs (if b then none else o) f K=(¬ b∧zI0 hs o f K):=by
 by_cases h:b<;>simp[h,zI0]
@[congr] theorem Q.wp_congr {q q':Q α} (h:q=q'):q.wp hs K=q'.wp hs K:=by rw[h]
@[congr] theorem jJ7 {o o':Option Ob} {id:Nat} {k:Ob→Q α} (h:o=o'):zQ7 hs o id k K=zQ7 hs o' id k K:=by rw[h]
@[congr] theorem jE9 {o o':Option Ob} {id:Nat} {k:Q α} (h:o=o'):zCj hs o id k K=zCj hs o' id k K:=by rw[h]
@[congr] theorem jKr {o o':Option γ} {f:γ→Q α} (h:o=o'):zI0 hs o f K=zI0 hs o' f K:=by rw[h]
end
inductive AE where
 | normal
 | exit (id:Nat)
 | ret
 deriving DecidableEq
def AE.ex:AE→Exit
 | .normal=> .normal
 | .exit id=> .exit id
 | .ret=> .ret
inductive AC where
 | skip
 | ret
 | exit (id:Nat)
 | seq (a b:AC)
 | cond (c:qH0) (a b:AC)
 | condb (c:qH0) (a b:AC)
 | block (id:Nat) (a:AC)
 | loop (a:AC)
 | reg (nb:Nat) (anc:Option (List Nat)) (ops:List zZ)
 deriving Inhabited
abbrev Fs:=List (Nat×V)
abbrev Hs:=List (Nat×Ob)
abbrev qHw:=AE→Fs→Hs→Prop
def zFw (tab:Tab)(gl:Gl):List zZ→Nat→Fs→Hs→List (List Nat×List Nat)→(Fs→Hs→List (List Nat×List Nat)→Prop)→Prop
 | [],_,fs,hs,acc,K=>K fs hs acc
 | o::r,nb,fs,hs,acc,K=>(o.q tab gl (jM fs) nb).wp hs (fun p l=>zFw tab gl r (nb+16) (jEz fs o.dst p.1) (zCg hs p.2) (acc++[(kQ p.2,l)]) K)
def qLb (v:Option V)(A B:Prop):Prop:=
 match v with
 | some (.t (.bool b))=>(b=true→A)∧(b=false→B)
 | _=>False
def qVk (v:Option V)(A B:Prop):Prop:=
 match v with
 | some .bq=>A∧B
 | v=>qLb v A B
@[congr] theorem jF9 {v v':Option V} {A B:Prop} (h:v=v'):qLb v A B=qLb v' A B:=by rw[h]
theorem zO6 {A B:Prop}:qLb (some (.t (.bool true))) A B=A:=by simp[qLb]
@[congr] theorem jF7 {v v':Option V} {A B:Prop} (h:v=v'):qVk v A B=qVk v' A B:=by rw[h]
theorem zXy {A B:Prop}:qVk (some .bq) A B=(A∧B):=by simp[qVk]
theorem jF8 {x:T}{A B:Prop}:qVk (some (.t x)) A B=qLb (some (.t x)) A B:=by simp[qVk]
theorem zJq {A B:Prop}:qLb (some (.t (.bool false))) A B=B:=by simp[qLb]
def qJ (fs:Fs)(hs:Hs)(fs':Fs)(hs':Hs):Prop:=
 ∀ (cx:Cx) (β:Nat→Option BI) (F:Nat→Prop) (a:Act) (w:World),Rel cx β F (jM fs) (jM hs) a w → ∃ β' F',Rel cx β' F' (jM fs') (jM hs') a w
theorem qJ.refl {fs:Fs}{hs:Hs}:qJ fs hs fs hs:=fun _ β F _ _ R=>⟨β,F,R⟩
theorem qJ.trans {fs fs' fs'':Fs}{hs hs' hs'':Hs}(h:qJ fs hs fs' hs')(h':qJ fs' hs' fs'' hs''):qJ fs hs fs'' hs'':=fun cx β F a w R=>
 let ⟨β',F',R'⟩:=h cx β F a w R
 h' cx β' F' a w R'
def zRk (B:Fs→Hs→qHw→Prop)(fs:Fs)(hs:Hs)(Qx:qHw):Prop:=
 ∃ (ι:Type) (I:ι→Fs×Hs) (μ:ι→Nat) (i0:ι),qJ fs hs (I i0).1 (I i0).2∧
  ∀ i,B (I i).1 (I i).2 (fun e fs' hs'=>match e with | .normal => ∃ j,μ j<μ i∧qJ fs' hs' (I j).1 (I j).2 | e=>Qx e fs' hs')
@[congr] theorem jFr {B:Fs→Hs→qHw→Prop} {fs:Fs} {hs:Hs} {Qx:qHw}:zRk B fs hs Qx=zRk B fs hs Qx:=rfl
def yDu (tab:Tab)(gl:Gl)(nb:Nat)(anc:Option (List Nat))(ops:List zZ)(fs:Fs)(hs:Hs)(Qx:qHw):Prop:=
 zFw tab gl ops nb fs hs [] (fun fs' hs' acc=>(match anc with | none=>True | some l=>chk l acc=true)∧Qx .normal fs' hs')
def AC.wp (tab:Tab)(gl:Gl):AC→Fs→Hs→qHw→Prop
 | .skip,fs,hs,Qx=>Qx .normal fs hs
 | .ret,fs,hs,Qx=>Qx .ret fs hs
 | .exit id,fs,hs,Qx=>Qx (.exit id) fs hs
 | .seq a b,fs,hs,Qx=>a.wp tab gl fs hs (fun e fs' hs'=>match e with | .normal=>b.wp tab gl fs' hs' Qx | e=>Qx e fs' hs')
 | .cond c a b,fs,hs,Qx=>qLb (c.val gl (jM fs)) (a.wp tab gl fs hs Qx) (b.wp tab gl fs hs Qx)
 | .condb c a b,fs,hs,Qx=>qVk (c.val gl (jM fs)) (a.wp tab gl fs hs Qx) (b.wp tab gl fs hs Qx)
 | .block id a,fs,hs,Qx=>a.wp tab gl fs hs (fun e fs' hs'=>match e with | .exit id'=>(if id'=id then Qx .normal fs' hs' else Qx (.exit id') fs' hs') | e=>Qx e fs' hs')
 | .loop a,fs,hs,Qx=>zRk (fun fs hs K=>a.wp tab gl fs hs K) fs hs Qx
 | .reg nb anc ops,fs,hs,Qx=>yDu tab gl nb anc ops fs hs Qx
@[congr] theorem AC.wp_congr {tab:Tab} {gl:Gl} {c:AC} {fs fs':Fs} {hs hs':Hs} {Qx:qHw} (h1:fs=fs') (h2:hs=hs'):c.wp tab gl fs hs Qx=c.wp tab gl fs' hs' Qx:=by rw[h1,h2]
@[congr] theorem jKq {tab:Tab} {gl:Gl} {os:List zZ} {nb nb':Nat} {fs fs':Fs} {hs hs':Hs} {acc:List (List Nat×List Nat)} {K:Fs→Hs→List (List Nat×List Nat)→Prop} (h0:nb=nb') (h1:fs=fs') (h2:hs=hs') :
  zFw tab gl os nb fs hs acc K=zFw tab gl os nb' fs' hs' acc K:=by rw[h0,h1,h2]
def zXf (P:Program)(nt:Nat)(ops:Array Oper)(keeps:List Nat):Nat→List Oper→Option (List zZ)
 | _,[]=>some []
 | i,o::r=>(jKz P nt ops (keeps.contains i) o).bind fun x=>(zXf P nt ops keeps (i+1) r).map (x :: ·)
def jG5 (hints:List (Nat×List Nat))(id:Nat):List Nat:=(jM hints id).getD []
def ann (P:Program)(nt:Nat)(hints:List (Nat×List Nat)):Code→Option AC
 | .skip=>some .skip
 | .label _=>some .skip
 | .ret=>some .ret
 | .exit id=>some (.exit id)
 | .seq a b=>(ann P nt hints a).bind fun x=>(ann P nt hints b).map fun y=> .seq x y
 | .cond c a b=>(zZ3 c).bind fun o=>(ann P nt hints a).bind fun x=>(ann P nt hints b).map fun y=>match jM hints 900000 with | some _=> .condb o x y | none=> .cond o x y
 | .block id a=>(ann P nt hints a).map fun x=> .block id x
 | .loop a=>(ann P nt hints a).map fun x=> .loop x
 | .region id ops draw=>(zXf P nt ops (jG5 hints id) 0 ops.toList).bind fun aos=>
  if draw then (if zSr (jR9 ops.toList []) ops.toList&&zV5 (jR9 ops.toList []) aos then some (.reg (4096*(id+1)) (some (jR9 ops.toList [])) aos) else none)
  else some (.reg (4096*(id+1)) none aos)
 | _=>none
theorem qXi {P:Program}{nt:Nat}{ops:Array Oper}{keeps:List Nat} : ∀ {l:List Oper} {i:Nat} {aos:List zZ},zXf P nt ops keeps i l=some aos→l=ops.toList.drop i→i≤ops.size→zOv P nt ops i aos
 | [],i,aos,h,hl,hi=>by
  cases h;have:=congrArg List.length hl;simp at this;simp only[zOv];omega
 | o::r,i,aos,h,hl,hi=>by
  simp only[zXf,Option.bind_eq_some_iff,Option.map_eq_some_iff] at h;obtain⟨x,hx,xs,hxs,rfl⟩:=h;have hlt:i<ops.size:=by
   have:=congrArg List.length hl;simp at this;omega
  have h0:ops.toList.drop i=ops.toList[i]'(by simpa using hlt)::ops.toList.drop (i+1):=drop_eq_getElem_cons (by simpa using hlt);rw[h0] at hl;simp only[List.cons.injEq] at hl;refine⟨⟨o,keeps.contains i,?_,hx⟩,qXi hxs hl.2 hlt⟩;rw[hl.1];simp[hlt]
variable {β:Nat→Option BI} {F:Nat→Prop} {w:World} {cx:Cx} {a:Act}
theorem zFa {tab:Tab}{gl:Gl} : ∀ {aos:List zZ} {nb:Nat} {fs:Fs} {hs:Hs} {acc:List (List Nat×List Nat)} {K:Fs→Hs→List (List Nat×List Nat)→Prop},zFw tab gl aos nb fs hs acc K→
  ∃ tr fs' hs',Lex tab gl aos nb (jM fs) (jM hs) tr (jM fs') (jM hs')∧tr.length=aos.length∧K fs' hs' (acc++tr.map fun p=>(kQ p.2.1,p.2.2))
 | [],nb,fs,hs,acc,K,h=>⟨[],fs,hs,.nil,rfl,by simpa [zFw] using h⟩
 | o::r,nb,fs,hs,acc,K,h=>by
  obtain⟨⟨v,W⟩,l,hq,h⟩:=h;obtain⟨tr,fs',hs',h1,h2,h3⟩:=zFa h;refine⟨(v,W,l)::tr,fs',hs',.cons hq (by rw[←zTy,←qH6];exact h1),by simp[h2],?_⟩;simpa using h3
theorem zXx {anc:List Nat}{tr:List (V×Wr×List Nat)}(h:chk anc (tr.map fun p=>(kQ p.2.1,p.2.2))=true) : ∀ i j,i<j→j<tr.length→(anc.getD j 0).testBit i=true∨apartW (kQ (trW tr i),trL tr i) (kQ (trW tr j),trL tr j)=true:=by
 intro i j hij hj;have h1:=all_eq_true.1 h j (by simpa using hj);have h2:=all_eq_true.1 h1 i (by simpa using hij);rw[Bool.or_eq_true] at h2;rcases h2 with h2 | h2
 ·exact .inl h2
 ·refine .inr ?_;have e : ∀ k,k<tr.length→(tr.map fun p=>(kQ p.2.1,p.2.2)).getD k ([],[])=(kQ (trW tr k),trL tr k):=by
   intro k hk;simp[trW,trL,List.getD,hk]
  rw[e i oM,e j hj] at h2;exact h2
theorem zFp {P:Program}{Qx:Exit→Act→World→Prop}{a:Act}{w:World}{c:Code}{ι:Type}(I:ι→Act→World→Prop)(μ:ι→Nat)(i0:ι)(h₀:I i0 a w)
  (round : ∀ i a w,I i a w→c.wp P (Exit.then (fun a' w' => ∃ j,μ j<μ i∧I j a' w') Qx) a w):(Code.loop c).wp P Qx a w:=by
 intro b k cs;have key : ∀ n i a w,μ i=n→I i a w → ∃ e a' w',Qx e a' w'∧Arrives P (lone (b.at a (.code c :: .inLoop c::k)) cs w) b k cs e a' w':=by
  intro n
  induction n using Nat.strongRecOn with
  | _ n ih=>
   intro i a w hn hI;obtain⟨e,a₁,w₁,hq,harr⟩:=round i a w hI b (.inLoop c::k) cs;cases e with
   | normal=>
    obtain⟨j,hlt,hI₁⟩:=hq;obtain⟨e₂,a₂,w₂,hq₂,harr₂⟩:=ih (μ j) (hn▸hlt) j a₁ w₁ rfl hI₁;exact⟨e₂,a₂,w₂,hq₂,.of_steps (Steps.trans harr (.one step_inLoop)) harr₂⟩
   | exit id=>exact⟨_,a₁,w₁,hq,.pass (x:= .inLoop c) rfl (fun _ _=> .inl sM) harr⟩
   | goto l=>exact⟨_,a₁,w₁,hq,.pass (x:= .inLoop c) rfl (fun _ _=> .inl sM) harr⟩
   | ret=>exact⟨_,a₁,w₁,hq,.pass (x:= .inLoop c) rfl (fun _ _=> .inl sM) harr⟩
   | panic ch=>exact⟨_,a₁,w₁,hq,.pass (x:= .inLoop c) rfl (fun _ _=> .inl sM) harr⟩
   | outgrown=>exact⟨_,a₁,w₁,hq,.pass (x:= .inLoop c) rfl (fun _ _=> .inl sM) harr⟩
 obtain⟨e,a',w',hq,harr⟩:=key _ i0 a w rfl h₀;exact⟨e,a',w',hq,.of_steps (.one step_loop) harr⟩
theorem AC.sound {tab:Tab}(ht:qCc cx.P cx.gl tab)(hmx:cx.P.follows .mixedOrders=true){hints:List (Nat×List Nat)} : ∀ {c:Code} {ac:AC},ann cx.P cx.nt hints c=some ac→
  ∀ {fs:Fs} {hs:Hs} {Qa:qHw} {Qx:Exit→Act→World→Prop} {β:Nat→Option BI} {F:Nat→Prop} {a:Act} {w:World},ac.wp tab cx.gl fs hs Qa→Rel cx β F (jM fs) (jM hs) a w→
   (∀ e fs' hs' β' F' a' w',Qa e fs' hs'→Rel cx β' F' (jM fs') (jM hs') a' w'→Qx e.ex a' w')→c.wp cx.P Qx a w:=by
 intro c
 induction c with
 | skip=>intro ac h fs hs Qa Qx β F a w hw R hQ;cases h;exact wp_skip (hQ .normal _ _ _ _ _ _ hw R)
 | label l=>intro ac h fs hs Qa Qx β F a w hw R hQ;cases h;exact wp_label (hQ .normal _ _ _ _ _ _ hw R)
 | ret=>intro ac h fs hs Qa Qx β F a w hw R hQ;cases h;exact wp_ret (hQ .ret _ _ _ _ _ _ hw R)
 | exit id=>intro ac h fs hs Qa Qx β F a w hw R hQ;cases h;exact wp_exit (hQ (.exit id) _ _ _ _ _ _ hw R)
 | seq x y ihx ihy=>
  intro ac h fs hs Qa Qx β F a w hw R hQ;simp only[ann,Option.bind_eq_some_iff,Option.map_eq_some_iff] at h;obtain⟨cx',hx,cy,hy,rfl⟩:=h;refine wp_seq (ihx hx hw R (fun e fs' hs' β' F' a' w' hq R'=>?_));cases e with
  | normal=>exact ihy hy hq R' hQ
  | exit id=>exact hQ (.exit id) _ _ _ _ _ _ hq R'
  | ret=>exact hQ .ret _ _ _ _ _ _ hq R'
 | cond o x y ihx ihy=>
  intro ac h fs hs Qa Qx β F a w hw R hQ;simp only[ann,Option.bind_eq_some_iff,Option.map_eq_some_iff] at h;obtain⟨o',ho,cx',hx,cy,hy,h⟩:=h;have key : ∀ {Qa:qHw},qLb (o'.val cx.gl (jM fs)) (cx'.wp tab cx.gl fs hs Qa) (cy.wp tab cx.gl fs hs Qa)→(∀ e fs' hs' β' F' a' w',Qa e fs' hs'→Rel cx β' F' (jM fs') (jM hs') a' w'→Qx e.ex a' w')→(Code.cond o x y).wp cx.P Qx a w:=by
   intro Qa hw hQ;simp only[qLb] at hw;split at hw
   ·rename_i v b hv;have:=qX9 R ho hv;refine wp_cond_split (this.bool_inv) (fun e=>ihx hx (hw.1 e) R hQ) (fun e=>ihy hy (hw.2 e) R hQ)
   ·exact hw.elim
  cases hm:jM hints 900000 with
  | none=>
   rw[hm] at h;subst h;exact key hw hQ
  | some l=>
   rw[hm] at h;subst h;simp only[AC.wp,qVk] at hw;split at hw
   ·rename_i v hv;have:=qX9 R ho hv;generalize he:a.eval o=y0 at this;cases this with
    | bq b=>exact wp_cond_split he (fun _=>ihx hx hw.1 R hQ) (fun _=>ihy hy hw.2 R hQ)
   ·exact key hw hQ
 | block id x ih=>
  intro ac h fs hs Qa Qx β F a w hw R hQ;simp only[ann,Option.map_eq_some_iff] at h;obtain⟨x',hx,rfl⟩:=h;refine wp_block (ih hx hw R (fun e fs' hs' β' F' a' w' hq R'=>?_));cases e with
  | normal=>exact hQ .normal _ _ _ _ _ _ hq R'
  | exit id'=>
   simp only[AE.ex,Exit.inBlock];simp only at hq;split
   ·rename_i h1;rw[if_pos h1] at hq;exact hQ .normal _ _ _ _ _ _ hq R'
   ·rename_i h1;rw[if_neg h1] at hq;exact hQ (.exit id') _ _ _ _ _ _ hq R'
  | ret=>exact hQ .ret _ _ _ _ _ _ hq R'
 | loop x ih=>
  intro ac h fs hs Qa Qx β F a w hw R hQ;simp only[ann,Option.map_eq_some_iff] at h;obtain⟨x',hx,rfl⟩:=h;obtain⟨ι,I,μ,i0,h0,hr⟩:=hw;refine zFp (fun i a w => ∃ β F,Rel cx β F (jM (I i).1) (jM (I i).2) a w) μ i0 (h0 cx β F a w R) (fun i a w ⟨β1,F1,R1⟩=>?_);refine ih hx (hr i) R1 (fun e fs' hs' β' F' a' w' hq R'=>?_);cases e with
  | normal=>
   obtain⟨j,h1,h2⟩:=hq;exact⟨j,h1,h2 cx β' F' a' w' R'⟩
  | exit id=>exact hQ (.exit id) _ _ _ _ _ _ hq R'
  | ret=>exact hQ .ret _ _ _ _ _ _ hq R'
 | region id ops draw=>
  intro ac h fs hs Qa Qx β F a w hw R hQ;simp only[ann,Option.bind_eq_some_iff] at h;obtain⟨aos,haos,h⟩:=h;have hag:=qXi haos rfl (Nat.zero_le _);cases draw with
  | false=>
   simp only[Bool.false_eq_true,if_false] at h;cases h;obtain⟨tr,fs',hs',h1,h2,_,h3⟩:=zFa hw;exact wp_region (zTv ht hag h1 R (fun β' F' a' w' R'=>hQ .normal _ _ _ _ _ _ h3 R') _ rfl)
  | true=>
   simp only[if_true] at h;split at h
   ·rename_i hb;cases h;rw[Bool.and_eq_true] at hb;obtain⟨tr,fs',hs',h1,h2,h4,h3⟩:=zFa hw;simp only[nil_append] at h4;have hsz:ops.size=aos.length:=by
     have:=(qXd hag).1;omega
    refine wp_region_any hmx ?_;refine jG7 ht hag h1 hb.1 hb.2 (fun i j hij hj=>zXx h4 i j hij oM) (fun β' F' a' w' R'=>hQ .normal _ _ _ _ _ _ h3 R') ops.size _ (fun _=>false) β F a _ sM (fun i hi=>by simp[hi]) ?_ (fun i o h=>by cases h) ?_
    ·have : ∀ n,cnt (fun _=>false) n=n:=by
      intro n
      induction n with
      | zero=>rfl
      | succ n ih=>simp[cnt,ih]
     exact this _
    ·have e1 : ∀ n,SF (aoD aos) (trV tr) (fun _=>false) (jM fs) n=jM fs:=by
      intro n
      induction n with
      | zero=>rfl
      | succ n ih=>simp[SF,ih]
     have e2 : ∀ n,SH (trW tr) (fun _=>false) (jM hs) n=jM hs:=by
      intro n
      induction n with
      | zero=>rfl
      | succ n ih=>simp[SH,ih]
     rw[e1,e2];exact R.drew
   ·cases h
 | rangeFunc f ps x y _ _=>intro ac h;cases h
 | scope x _=>intro ac h;cases h
 | goto l=>intro ac h;cases h
 | refuse s=>intro ac h;cases h
end Go.Eng
end
