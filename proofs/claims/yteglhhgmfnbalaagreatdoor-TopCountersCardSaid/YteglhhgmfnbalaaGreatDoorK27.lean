/- A part of an abstract machine, its walks, their tie. -/
import Derived.Test.YteglhhgmfnbalaaGreatDoorK26
set_option linter.all false
section
set_option maxHeartbeats 64000000
set_option maxRecDepth 20000
namespace Go.Eng
open List
variable (tab:Tab)(gl:Gl)
variable {vv:V}{oo:List Ob}
def zVs (a b:Int):Int:=IntKind.i64.wrap ((BitVec.ofInt 64 a &&& BitVec.ofInt 64 b).toNat:Int)
theorem jTi {a b:Int}:qLz .and .i64 a .i64 b=some (.int .i64 (zVs a b)):=rfl
theorem zQ1 {d:List UInt8}:∀{l:List (List UInt8)}{k:Nat},(0<=fdL d l k)=(d∈l)
 |[],k=>by simp[fdL]
 |x::r,k=>by
  rw[fdL];split
  .rename_i h;subst h;simp
  .rename_i h;rw[zQ1 (l:=r)];simp only[mem_cons,eq_iff_iff];exact⟨.inr,λg=>g.resolve_left (λe=>h e.symm)⟩
def zWz:Ct where
 α:=Bool×Bool×Int
 aS x:=[.t (.bool x.1),.ref 0 0 0,.ref 1 0 0]
 ins x:=[.live 1 [.t (.bool x.2.1)] true true,.live 1 [.t (.int .i64 x.2.2)] true true]
 pre _:=True
 r _:= .tup []
 outs x:=[.live 1 [.t (.bool x.2.1)] true true,.live 1 [.t (.int .i64 (if x.2.1=true/\x.1=false then 16 else x.2.2))] true true]
 inj:=by
  rintro⟨a,b,c⟩ ⟨d,e,f⟩ h h2;simp only[List.cons.injEq,V.t.injEq,T.bool.injEq,T.int.injEq,Ob.live.injEq,true_and,and_true]at h h2;obtain rfl:=h;obtain⟨rfl,rfl⟩:=h2;exact⟨rfl,rfl⟩
theorem zNy {a b:Bool}{c:Int}:zWz.fs [.t (.bool a),.ref 0 0 0,.ref 1 0 0] [.live 1 [.t (.bool b)] true true,.live 1 [.t (.int .i64 c)] true true]=some (.tup [],[.live 1 [.t (.bool b)] true true,.live 1 [.t (.int .i64 (if b=true/\a=false then 16 else c))] true true]):=zWz.eq (a,b,c) trivial
theorem qTh (a b:Bool)(c:Int):qBm.1.wp tab gl (qD 0 [.t (.bool a),.ref 0 0 0,.ref 1 0 0]) (qD 0 [.live 1 [.t (.bool b)] true true,.live 1 [.t (.int .i64 c)] true true]) (qZ [] 2 (λr o=>r=.tup []/\o=[.live 1 [.t (.bool b)] true true,.live 1 [.t (.int .i64 (if b=true/\a=false then 16 else c))] true true])):=by
 cases a<;>cases b;all_goals simp(disch:=omega)only[go_sem,qBm]
def qDx (s:St)(x:Ses):Av->Ses×Av×Int
 |.reg s0 s1 _=>(if x.kd=2 then { x with up:=s.u } else x,.reg s0 s1 (rgD s.bk s0 s1),0)
 |.loc n=>({ x with lo:=zVs x.lo n },.loc n,0)
 |.cmd n=>({ x with cm:=n },.cmd n,0)
 |.aut=>({ x with av:=true },.aut,0)
 |.alt bs=>(x,.alt bs,if x.kd=2/\¬ x.dg∈bs then 16 else 0)
 |.idx n o od nm=>(x,.idx n o od nm,if x.kd=2/\¬ (s.a.ix.getD 0 default).da.getD 7 0<od.getD 7 0 then 16 else 0)
 |a=>(x,a,0)
def ckP (s:St)(x:Ses)(a:Av):Prop:=(x.kd=2\/x.kd=3)/\match a with
 |.reg _ _ _=>jS5 s.bk a/\(x.up = -1\/x.up=s.u)
 |.loc _=>True
 |.cmd n=>x.cm=0\/x.cm=n
 |.aut=>True
 |.alt bs=>bs.length<=8
 |.idx n o od nm=>x.kd=2/\∃v y,ctN s v/\y≠0/\n=257/\o=2/\od=z7 y/\nm=inF (cnI true (z7 v))
 |_=>False
def qOn:ECt where
 α:=St×Ses×Av
 β:=Ses×Av×Int
 aS:=λ(s,x,a)=>[.t (stA s),.t (jS x),.t (avA a)]
 pre:=λ(s,x,a)=>(RV s.bk/\0<=s.u)/\ckP s x a
 r:=λ(y,b,e)=>.tup [.t (jS y),.t (avA b),.t (.int .i64 e)]
 R:=λ(s,x,a)(y,b,e)=>(y,b,e)=qDx s x a
 inj:=by rintro⟨s,x,a⟩ ⟨s',x',a'⟩ e _;simp only[qBa,qL2,qT4]at e;obtain⟨rfl,rfl,rfl⟩:=e;rfl
theorem jPo {g:EF qOn}{s:St}{x:Ses}{a:Av}(hp:(RV s.bk/\0<=s.u)/\ckP s x a):∃(y:Ses)(b:Av)(e:Int),((y,b,e)=qDx s x a)/\qOn.fs g [.t (stA s),.t (jS x),.t (avA a)] []=some (.tup [.t (jS y),.t (avA b),.t (.int .i64 e)],[]):=by
 obtain⟨y,h1,h2⟩:=qOn.eq g (s,x,a) hp;exact⟨y.1,y.2.1,y.2.2,h1,h2⟩
theorem vA {s:St}{x:Ses}{a:Av}(y:Ses)(b:Av)(e:Int)(hR:(y,b,e)=qDx s x a)(hV:vv=.tup [.t (jS y),.t (avA b),.t (.int .i64 e)])(hO:oo=[]):qOn.K (s,x,a) vv oo:=⟨(y,b,e),hR,hV,hO⟩
theorem qYb (h1:LkC tab 269 zWz){g2}(h2:LkE tab 270 qOp g2){g3}(h3:LkE tab 271 qKo g3)(h6:tab.look 273=some (zKi 274).fs)(s:St)(x:Ses)(a:Av)(hp:(RV s.bk/\0<=s.u)/\ckP s x a) :
  jE.1.wp tab gl (qD 0 [.t (stA s),.t (jS x),.t (avA a)]) (qD 0 []) (qZ [(6,(some (8,true))),(7,(some (10,true))),(8,none)] 0 (qOn.K (s,x,a))):=by
 obtain⟨hv,hk,hc⟩:=hp;cases a with
 |reg s0 s1 d=>
  obtain⟨hq,hu⟩:=hc;obtain⟨y,b,e,⟨q1,q2,q3⟩,e1⟩:=jPq (g:=g2) (s:=s) (x:=x) (a:= .reg s0 s1 d) ⟨hv,hq,hu,hk⟩;obtain⟨m,hm,_⟩:=hq;cases hm;have q3:=q3 s1 rfl;subst q1 q3;have hF:qDx s x (.reg 0 s1 [])=(y,.reg 0 s1 (rgD s.bk 0 s1),0):=by rw[qDx,q2]
  clear q2;generalize rgD s.bk 0 s1=d at *;simp only[stA,jS,avA,avL,map_nil]at e1;simp(maxSteps:=9^9)(disch:=try exact dS)only[go_sem,jE,stA,jS,avA,avL,h2,e1,map_nil];.repeat first|exact(vA y (.reg 0 s1 d) 0 hF.symm rfl rfl)|refine⟨rfl,?_⟩
 |loc n=>
  simp(maxSteps:=9^9)(disch:=try exact dS)only[go_sem,jE,stA,jS,avA,avL,jTi,map_nil];.repeat first|exact(vA { x with lo:=zVs x.lo n } (.loc n) 0 rfl rfl rfl)|refine⟨rfl,?_⟩
 |aut=>
  simp(maxSteps:=9^9)(disch:=try exact dS)only[go_sem,jE,stA,jS,avA,avL,map_nil];.repeat first|exact(vA { x with av:=true } .aut 0 rfl rfl rfl)|refine⟨rfl,?_⟩
 |cmd n=>
  obtain⟨kd,no,dg,up,lo,cm,dl,av⟩:=x;simp only at hk hc;have r1:=@zNy true true 0;have r2:=@zNy true false 0;rw[if_neg (by decide)]at r1 r2;by_cases c0:cm=0
  .subst c0;rcases hk with rfl|rfl;all_goals simp(maxSteps:=9^9)(disch:=try exact dS)only[go_sem,jE,stA,jS,avA,avL,h1,r1,r2,map_nil]
   .repeat first|exact(vA ⟨2,no,dg,up,lo,n,dl,av⟩ (.cmd n) 0 rfl rfl rfl)|refine⟨rfl,?_⟩
   .repeat first|exact(vA ⟨3,no,dg,up,lo,n,dl,av⟩ (.cmd n) 0 rfl rfl rfl)|refine⟨rfl,?_⟩
  .obtain rfl:cm=n:=hc.resolve_left c0;have c1:(cm==0)=false:=by simpa using c0
   rcases hk with rfl|rfl;all_goals simp(maxSteps:=9^9)(disch:=try exact dS)only[go_sem,jE,stA,jS,avA,avL,h1,r1,r2,c0,c1,beq_self_eq_true,map_nil]
   .repeat first|exact(vA ⟨2,no,dg,up,lo,cm,dl,av⟩ (.cmd cm) 0 rfl rfl rfl)|refine⟨rfl,?_⟩
   .repeat first|exact(vA ⟨3,no,dg,up,lo,cm,dl,av⟩ (.cmd cm) 0 rfl rfl rfl)|refine⟨rfl,?_⟩
 |alt bs=>
  obtain⟨kd,no,dg,up,lo,cm,dl,av⟩:=x;simp only at hk hc;have e1:=@jK9 274 bs ⟨kd,no,dg,up,lo,cm,dl,av⟩ oM;simp only[zQ1]at e1;by_cases cm':dg∈bs
  .have r1:=@zNy true true 0;have r2:=@zNy true false 0;rw[if_neg (by decide)]at r1 r2;simp only[cm',decide_true,jS]at e1;rcases hk with rfl|rfl;all_goals simp(maxSteps:=9^9)(disch:=try exact dS)only[go_sem,jE,stA,jS,avA,avL,h1,h6,r1,r2,e1,map_nil]
   .repeat first|exact(vA ⟨2,no,dg,up,lo,cm,dl,av⟩ (.alt bs) 0 (by rw[qDx,if_neg (by simp[cm'])]) rfl rfl)|refine⟨rfl,?_⟩
   .repeat first|exact(vA ⟨3,no,dg,up,lo,cm,dl,av⟩ (.alt bs) 0 (by rw[qDx,if_neg sM]) rfl rfl)|refine⟨rfl,?_⟩
  .have r1:=@zNy false true 0;have r2:=@zNy false false 0;rw[if_pos (by decide)]at r1;rw[if_neg (by decide)]at r2;simp only[cm',decide_false,jS]at e1;rcases hk with rfl|rfl;all_goals simp(maxSteps:=9^9)(disch:=try exact dS)only[go_sem,jE,stA,jS,avA,avL,h1,h6,r1,r2,e1,map_nil]
   .repeat first|exact(vA ⟨2,no,dg,up,lo,cm,dl,av⟩ (.alt bs) 16 (by rw[qDx,if_pos ⟨rfl,cm'⟩]) rfl rfl)|refine⟨rfl,?_⟩
   .repeat first|exact(vA ⟨3,no,dg,up,lo,cm,dl,av⟩ (.alt bs) 0 (by rw[qDx,if_neg sM]) rfl rfl)|refine⟨rfl,?_⟩
 |idx n o od nm=>
  obtain⟨kd,no,dg,up,lo,cm,dl,av⟩:=x;obtain⟨h2,v,y,hv',hy,rfl,rfl,rfl,rfl⟩:=hc;simp only at h2;subst h2;obtain⟨e,q,e1⟩:=jPn (g:=g3) (s:=s) (a:= .idx 257 2 (z7 y) (inF (cnI true (z7 v)))) ⟨v,y,hv',hy,rfl⟩;have q:=q v y _ hv' rfl;have hF:qDx s ⟨2,no,dg,up,lo,cm,dl,av⟩ (.idx 257 2 (z7 y) (inF (cnI true (z7 v))))=(⟨2,no,dg,up,lo,cm,dl,av⟩,.idx 257 2 (z7 y) (inF (cnI true (z7 v))),e):=by
   rw[qDx,q,hv'.1];have hg:(List.getD [cnI true (z7 v)] 0 default).da.getD 7 0=v:=rfl;have hy7:(z7 y).getD 7 0=y:=rfl;rw[hg,hy7];by_cases c:v<y
   .rw[if_pos c,if_neg (λh=>h.2 c)]
   .rw[if_neg c,if_pos ⟨rfl,c⟩]
  clear q hv';generalize inF (cnI true (z7 v))=N at *;generalize z7 y=Y at *;simp only[stA,avA,avL,map_nil]at e1;simp(maxSteps:=9^9)(disch:=try exact dS)only[go_sem,jE,stA,jS,avA,avL,h3,e1,map_nil];.repeat first|exact(vA ⟨2,no,dg,up,lo,cm,dl,av⟩ (.idx 257 2 Y N) e hF.symm rfl rfl)|refine⟨rfl,?_⟩
 |apr _ _=>exact hc.elim
def asF (s:St)(h:Int)(a:Av):St×Int:=
 let x:=(qFm s h).2.1
 if(qDx s x a).2.2=0 then(exS s (qFm s h).1 (qDx s x a).1 (qDx s x a).2.1,0) else(default,(qDx s x a).2.2)
def fmP:Av->Prop
 |.reg s0 s1 d=>s0=0/\(0<=s1/\s1<=65535)/\d=[]
 |.apr _ _=>False
 |.idx .. => False
 |a=>a.Ok
def fmQ (a:Av):Prop:=fmP a\/∃od nm,a=.idx 257 2 od nm/\od.length=8/\nm.length=32
theorem jEd {s:St}{x:Ses}{a:Av}(h:fmQ a):(qDx s x a).2.1.Ok/\(qDx s x a).1.dg=x.dg:=by
 rcases h with h|⟨od,nm,rfl,h1,h2⟩
 rotate_left
 .exact⟨⟨oM,oM,h2⟩,rfl⟩
 cases a with
 |reg s0 s1 d=>
  obtain⟨rfl,h1,_⟩:=h;refine⟨⟨oM,h1,zAs⟩,?_⟩;simp only[qDx];split<;>rfl
 |loc n=>exact⟨h,rfl⟩
 |cmd n=>exact⟨h,rfl⟩
 |aut=>exact⟨h,rfl⟩
 |alt bs=>exact⟨h,rfl⟩
 |idx _ _ _ _=>exact h.elim
 |apr _ _=>exact h.elim
def qOm:ECt where
 α:=St×Int×Av
 β:=St×Int
 aS:=λ(s,h,a)=>[.t (stA s),.t (.int .i64 h),.t (avA a)]
 pre:=λ(s,h,a)=>(RV s.bk/\0<=s.u)/\(s.ses.length=3/\tmI h)/\(qFm s h).2.2=true/\fmQ a/\ckP s (qFm s h).2.1 a/\(qFm s h).2.1.dg.length=32
 r:=λ(t,e)=>.tup [.t (stA t),.t (.int .i64 e)]
 R:=λ(s,h,a)(t,e)=>(t,e)=asF s h a
 inj:=by rintro⟨s,h,a⟩ ⟨s',h',a'⟩ e _;simp only[qBa,qL2,qT4]at e;obtain⟨rfl,rfl,rfl⟩:=e;rfl
theorem jEa {g:EF qOm}{s:St}{h:Int}{a:Av}(hp:(RV s.bk/\0<=s.u)/\(s.ses.length=3/\tmI h)/\(qFm s h).2.2=true/\fmQ a/\ckP s (qFm s h).2.1 a/\(qFm s h).2.1.dg.length=32):∃(t:St)(e:Int),((t,e)=asF s h a)/\qOm.fs g [.t (stA s),.t (.int .i64 h),.t (avA a)] []=some (.tup [.t (stA t),.t (.int .i64 e)],[]):=by
 obtain⟨y,h1,h2⟩:=qOm.eq g (s,h,a) hp;exact⟨y.1,y.2,h1,h2⟩
theorem qAl {s:St}{h:Int}{a:Av}(t:St)(e:Int)(hR:(t,e)=asF s h a)(hV:vv=.tup [.t (stA t),.t (.int .i64 e)])(hO:oo=[]):qOm.K (s,h,a) vv oo:=⟨(t,e),hR,hV,hO⟩
theorem jDv {s:St}{h k:Int}{x:Ses}(e:(k,x,true)=qFm s h):k=h-768/\0<=k/\k<=2/\x=s.ses.getD k.toNat qDq/\(x.kd=2\/x.kd=3):=by
 unfold qFm at e;simp only[Prod.mk.injEq]at e;obtain⟨e1,e2,e3⟩:=e;have e3:=e3.symm;simp only[Bool.and_eq_true,Bool.or_eq_true,decide_eq_true_eq]at e3;have e4:(k,x,true)=qCu s h:=by rw[e1,e2];exact Prod.ext rfl (Prod.ext rfl e3.1.symm)
 obtain⟨q1,q2,q3,q4⟩:=jEe e4;exact⟨q1,q2,q3,q4,by rw[e2];exact e3.2⟩
theorem qUr {g1}(h1:LkE tab 179 qKp g1)(h2:LkC tab 235 qWc){g3}(h3:LkE tab 208 qKm g3){g4}(h4:LkE tab 236 qOn g4){g5}(h5:LkE tab 182 qIb g5)(s:St)(h:Int)(a:Av)(hp:(RV s.bk/\0<=s.u)/\(s.ses.length=3/\tmI h)/\(qFm s h).2.2=true/\fmQ a/\ckP s (qFm s h).2.1 a/\(qFm s h).2.1.dg.length=32) :
  zV.1.wp tab gl (qD 0 [.t (stA s),.t (.int .i64 h),.t (avA a)]) (qD 0 []) (qZ [(6,(some (30,true))),(7,none)] 0 (qOm.K (s,h,a))):=by
 obtain⟨hv,hl,hb,hf,hc,hd⟩:=hp;obtain⟨k,x,b,e,e1⟩:=jEc (g:=g1) (s:=s) (h:=h) hl;have hx:(qFm s h).2.1=x:=by rw[<-e]
 have hb':b=true:=by rw[<-e]at hb;exact hb
 subst hb';obtain⟨k1,k2,k3,k4,k5⟩:=jDv e;rw[hx]at hc hd;obtain⟨y,c,er,hR,e4⟩:=jPo (g:=g4) (s:=s) (x:=x) (a:=a) ⟨hv,hc⟩;have ok:=jEd (s:=s) (x:=x) hf;rw[<-hR]at ok;have e5:=jEb (g:=g5) (s:=s) (k:=k) (x:=y) (a:=c) ⟨hl.1,⟨k2,k3⟩,by rw[ok.2];exact hd,ok.1⟩;have hK:∀t e',(t,e')=(if er=0 then(exS s k y c,0) else(default,er))->(t,e')=asF s h a:=by
  intro t e' h';have h1:(qFm s h).1=k:=by rw[<-e]
  rw[h'];simp only[asF,hx,h1,<-hR]
 clear ok hb hx;have st:=zS3;rcases hf with hf|⟨od,nm,rfl,h8,h32⟩
 rotate_left
 .have pk:=qW3 (g:=g3) (a:= .idx 257 2 od nm) ⟨oM,oM,h32⟩;simp only[qDx,Prod.mk.injEq]at hR;obtain⟨_,rfl,hr⟩:=hR;clear hc hr;simp only[stA,jS,avA,avL,map_nil]at e1 e4 e5 pk;by_cases c0:er=0
  .subst c0;simp(maxSteps:=9^9)(disch:=try exact dS)only[go_sem,zV,stA,jS,avA,avL,h1,h2,h3,h4,h5,e1,e4,e5,pk,st,map_nil];.repeat first|exact(qAl (exS s k y (.idx 257 2 od nm)) 0 (hK _ _ rfl) rfl rfl)|refine⟨rfl,?_⟩
  .simp(maxSteps:=9^9)(disch:=try exact dS)only[go_sem,zV,stA,jS,avA,avL,h1,h2,h3,h4,h5,e1,e4,e5,pk,st,c0,map_nil];.repeat first|exact(qAl default er (hK _ _ (by rw[if_neg c0])) rfl rfl)|refine⟨rfl,?_⟩
 cases a
 case reg s0 s1 d=>
  obtain⟨rfl,hs1,rfl⟩:=hf;have pk:=qW3 (g:=g3) (a:= .reg 0 s1 z32) ⟨oM,hs1,qCn⟩;have tz:List.take 32 z32=z32:=rfl;simp only[qDx,Prod.mk.injEq]at hR;obtain⟨_,rfl,rfl⟩:=hR;generalize rgD s.bk 0 s1=d at *;simp only[stA,jS,avA,avL,map_nil]at e1 e4 e5 pk;simp(maxSteps:=9^9)(disch:=try exact dS)only[go_sem,zV,stA,jS,avA,avL,h1,h2,h3,h4,h5,e1,e4,e5,pk,st,tz,qCn,map_nil];.repeat first|exact(qAl (exS s k y (.reg 0 s1 d)) 0 (hK _ _ rfl) rfl rfl)|refine⟨rfl,?_⟩
 case idx=>exact hf.elim
 case apr=>exact hf.elim
 case alt bs=>
  have pk:=qW3 (g:=g3) (a:= .alt bs) hf;simp only[qDx,Prod.mk.injEq]at hR;obtain⟨_,rfl,hr⟩:=hR;clear hc;simp only[stA,jS,avA,avL,map_nil]at e1 e4 e5 pk;by_cases c0:er=0
  .subst c0;simp(maxSteps:=9^9)(disch:=try exact dS)only[go_sem,zV,stA,jS,avA,avL,h1,h2,h3,h4,h5,e1,e4,e5,pk,st,map_nil];.repeat first|exact(qAl (exS s k y (.alt bs)) 0 (hK _ _ rfl) rfl rfl)|refine⟨rfl,?_⟩
  .simp(maxSteps:=9^9)(disch:=try exact dS)only[go_sem,zV,stA,jS,avA,avL,h1,h2,h3,h4,h5,e1,e4,e5,pk,st,c0,map_nil];.repeat first|exact(qAl default er (hK _ _ (by rw[if_neg c0])) rfl rfl)|refine⟨rfl,?_⟩
 case aut=>
  have pk:=qW3 (g:=g3) (a:= .aut) hf;simp only[qDx,Prod.mk.injEq]at hR;obtain⟨_,rfl,rfl⟩:=hR;simp only[stA,jS,avA,avL,map_nil]at e1 e4 e5 pk;simp(maxSteps:=9^9)(disch:=try exact dS)only[go_sem,zV,stA,jS,avA,avL,h1,h2,h3,h4,h5,e1,e4,e5,pk,st,map_nil];.repeat first|exact(qAl (exS s k y .aut) 0 (hK _ _ rfl) rfl rfl)|refine⟨rfl,?_⟩
 case loc n=>
  have pk:=qW3 (g:=g3) (a:= .loc n) hf;simp only[qDx,Prod.mk.injEq]at hR;obtain⟨_,rfl,rfl⟩:=hR;simp only[stA,jS,avA,avL,map_nil]at e1 e4 e5 pk;simp(maxSteps:=9^9)(disch:=try exact dS)only[go_sem,zV,stA,jS,avA,avL,h1,h2,h3,h4,h5,e1,e4,e5,pk,st,map_nil];.repeat first|exact(qAl (exS s k y (.loc n)) 0 (hK _ _ rfl) rfl rfl)|refine⟨rfl,?_⟩
 case cmd n=>
  have pk:=qW3 (g:=g3) (a:= .cmd n) hf;simp only[qDx,Prod.mk.injEq]at hR;obtain⟨_,rfl,rfl⟩:=hR;clear hc;simp only[stA,jS,avA,avL,map_nil]at e1 e4 e5 pk;simp(maxSteps:=9^9)(disch:=try exact dS)only[go_sem,zV,stA,jS,avA,avL,h1,h2,h3,h4,h5,e1,e4,e5,pk,st,map_nil];.repeat first|exact(qAl (exS s k y (.cmd n)) 0 (hK _ _ rfl) rfl rfl)|refine⟨rfl,?_⟩
inductive Cm where
 |up
 |ev (i:Int) (d:List UInt8)
 |op (k:Int)
 |po (h:Int) (a:Av)
 |px (h:Int) (d:List UInt8)
 |pd (h:Int)
 |pr (h:Int) (po au da:List UInt8)
 |un (h s:Int) (v:List UInt8)
 |df
 |ic
 |ud
 |rd
 |ap (h:Int) (k r g:List UInt8)
 deriving Inhabited
def avN (h:Int):Av->List Int
 |.reg s0 s1 _=>[h,1,s0,s1,0,0]
 |.loc n=>[h,2,0,0,n,0]
 |.cmd n=>[h,3,0,0,n,0]
 |.idx _ o _ _=>[h,4,0,0,257,o]
 |.aut=>[h,7,0,0,0,0]
 |.alt _=>[h,8,0,0,0,0]
 |.apr _ _=>[h,9,0,0,0,0]
def avB:Av->List (List UInt8)
 |.reg _ _ d=>[d]
 |.idx _ _ od _=>[od]
 |.alt bs=>bs
 |_=>[]
def qC:Cm->Rq
 |.up=>⟨1,[],[],[0],[]⟩
 |.ev i d=>⟨7,[],[],[i],[d]⟩
 |.op k=>⟨16,[],[],[k],[]⟩
 |.po h a=>⟨17,[],[],avN h a,avB a⟩
 |.px h d=>⟨17,[],[],[h,4,0,0,257,2],[d]⟩
 |.pd h=>⟨20,[],[],[h],[]⟩
 |.pr h p au da=>⟨9,[h],[⟨0,[],[]⟩],[3,0,0],[p,au,da]⟩
 |.un h s v=>⟨13,[h],[⟨s,[],v⟩],[],[]⟩
 |.df=>⟨21,[1],[⟨0,[],[]⟩],[1,2,48,8],[[],[]]⟩
 |.ic=>⟨25,[1,257],[⟨0,[],[]⟩],[],[]⟩
 |.ud=>⟨22,[1],[⟨0,[],[]⟩],[1],[]⟩
 |.rd=>⟨24,[1,257],[⟨0,[],[]⟩],[0,8],[]⟩
 |.ap h k r g=>⟨19,[],[],[h],[k,r,g]⟩
def Cm.Ok:Cm->Prop
 |.up=>True
 |.ev i d=>(0<=i/\i<=15)/\d.length<=100
 |.op k=>2<=k/\k<=3
 |.po h a=>tmI h/\match a with
  |.reg s0 s1 d=>s0=0/\(0<=s1/\s1<=65535)/\d=[]
  |.loc n=>1<=n/\n<=31
  |.cmd n=>n=13
  |.idx _ o od nm=>o=2/\od.length=8/\nm=[]
  |.aut=>True
  |.alt bs=>(2<=bs.length/\bs.length<=3)/\∀b∈bs,b.length=32
  |.apr _ _=>False
 |.px h d=>tmI h/\d.length=8
 |.pd h=>tmI h
 |.pr h p au da=>(0<=h/\h<=2)/\p.length=32/\au.length<=32/\da.length<=60
 |.un h s v=>(0<=h/\h<=65535)/\(0<=s/\s<=65535)/\v.length<=32
 |.df=>True
 |.ic=>True
 |.ud=>True
 |.rd=>True
 |.ap h k r g=>tmI h/\k.length<=200/\r.length<=60/\g.length<=1000
def qFk (u:List UInt8):Pu:=⟨2,1,0,[],u⟩
def Pu.K2 (x:Pu):Prop:=(x.kd=3/\x.ar=0/\x.ht=0/\x.po.length=32/\x.un.length=32)\/∃u,x=qFk u/\u.length=17
def qO7 (x:Pu):List UInt8:=blL (blL [u8I x.kd,u8I x.ar,u8I x.ht] x.po) x.un
def zG1 (x:Pu):List UInt8:=kX 6 [qO7 x]
theorem zQy {x:Pu}(h:x.K2):(qO7 x).length<=71:=by
 unfold qO7;rw[jY,jY];rcases h with⟨_,_,_,h1,h2⟩|⟨u,rfl,h2⟩
 .rw[h1,h2];simp only[length_cons,length_nil];omega
 .show 3+2+0+2+u.length<=71;omega
theorem qPj {x:Pu}:(zG1 x).length=32:=qO
theorem jL4 {p u:List UInt8}:qO7 ⟨3,0,0,p,u⟩=zVt p u:=rfl
theorem jDp {p u:List UInt8}:zG1 ⟨3,0,0,p,u⟩=zLo p u:=rfl
theorem qMt {u:List UInt8}(h:u.length=17):qO7 (qFk u)=2::1::0::0::0::0::17::u:=by
 unfold qO7 qFk blL;simp only[h];rfl
def qO5:ECt where
 α:=Int
 β:=Int
 aS:=λk=>[.t (.int .i64 k)]
 pre:=λk=>k=2\/k=3
 r:=λr'=>.t (.int .i64 r')
 R:=λk r'=>r'=if k=2 then 17 else 32
theorem jEy {g:EF qO5}{k:Int}(hp:k=2\/k=3):qO5.fs g [.t (.int .i64 k)] []=some (.t (.int .i64 (if k=2 then 17 else 32)),[]):=fnQ qO5 k hp
theorem zGy {k:Int}(hV:vv=.t (.int .i64 (if k=2 then 17 else 32)))(hO:oo=[]):qO5.K k vv oo:=⟨_,rfl,hV,hO⟩
theorem qSt  (k:Int)(hp:k=2\/k=3) :
  kL.1.wp tab gl (qD 0 [.t (.int .i64 k)]) (qD 0 []) (qZ [(2,none)] 0 (qO5.K k)):=by
 rcases hp with rfl|rfl
 .simp(disch:=omega)only[go_sem,kL];.repeat first|exact(zGy rfl rfl)|refine⟨rfl,?_⟩
 .simp(disch:=omega)only[go_sem,kL];.repeat first|exact(zGy rfl rfl)|refine⟨rfl,?_⟩
theorem yD0:qLz .and .i64 1 .i64 4=some (.int .i64 0):=rfl
theorem yDz:qLz .and .i64 1 .i64 1=some (.int .i64 1):=rfl
def qIg:ECt where
 α:=Pu
 β:=Int
 aS:=λx=>[.t (puA x)]
 pre:=λx=>x.K2
 r:=λr'=>.t (.int .i64 r')
 R:=λx r'=>r'=0
theorem zVl {g:EF qIg}{x:Pu}(hp:x.K2):qIg.fs g [.t (puA x)] []=some (.t (.int .i64 (0)),[]):=fnQ qIg x hp
theorem zGx {x:Pu}(hV:vv=.t (.int .i64 (0)))(hO:oo=[]):qIg.K x vv oo:=⟨_,rfl,hV,hO⟩
theorem zF5 {g1}(h1:LkE tab 237 qO5 g1)(x:Pu)(hp:x.K2) :
  qDz.1.wp tab gl (qD 0 [.t (puA x)]) (qD 0 []) (qZ [(2,none)] 0 (qIg.K x)):=by
 have u2:=@jEy g1 2 (.inl rfl);have u3:=@jEy g1 3 (.inr rfl);rw[if_pos rfl]at u2;rw[if_neg (by decide)]at u3;obtain⟨kd,ar,ht,po,un⟩:=x;rcases hp with⟨rfl,rfl,rfl,h1',h2'⟩|⟨u,e,hu⟩
 .simp(disch:=omega)only[go_sem,qDz,puA,h1,u3,h1',h2',↓yDy,↓yDw];.repeat first|exact(zGx rfl rfl)|refine⟨rfl,?_⟩
 .cases e;simp(disch:=omega)only[go_sem,qDz,puA,h1,u2,hu,↓yD0,↓yDz];.repeat first|exact(zGx rfl rfl)|refine⟨rfl,?_⟩
def qIh:ECt where
 α:=Pu
 β:=List UInt8
 aS:=λx=>[.t (puA x)]
 pre:=λx=>x.K2
 r:=λr=>.sl 0 0 r.length
 outs:=λr=>[.live 1 ((r.map qA).map V.t) true false]
 R:=λx r=>r=qO7 x
theorem jEx {g:EF qIh}{x:Pu}(hp:x.K2):∃(r:List UInt8),(r=qO7 x)/\qIh.fs g [.t (puA x)] []=some (.sl 0 0 r.length,[.live 1 ((r.map qA).map V.t) true false]):=qIh.eq g x hp
theorem jYn {x:Pu}(r:List UInt8)(hR:r=qO7 x)(hV:vv=.sl 0 0 r.length)(hO:oo=[.live 1 ((r.map qA).map V.t) true false]):qIh.K x vv oo:=⟨r,hR,hV,hO⟩
theorem jCb {b x:List UInt8}(h:b.length<100000000/\x.length<=65535):qGu.fs [.t (.sl (b.map qA)),.t (.sl (x.map qA))] []=some (.sl 0 0 (blL b x).length,[.live 1 (((blL b x).map qA).map V.t) true false]):=by
 rw[jY];exact qAc h
theorem zC1 (h1:LkC tab 66 qGu)(x:Pu)(hp:x.K2) :
  qF8.1.wp tab gl (qD 0 [.t (puA x)]) (qD 0 []) (xO [] [(2,none)] 0 (qIh.K x)):=by
 have le:=zQy hp;have hb:x.po.length<=32/\x.un.length<=32:=by
  rcases hp with⟨_,_,_,h1,h2⟩|⟨u,rfl,hu⟩
  .omega
  .exact⟨Nat.zero_le _,by show u.length<=32;omega⟩
 have hE:blL (blL [u8I x.kd,u8I x.ar,u8I x.ht] x.po) x.un=qO7 x:=rfl;have b1:=jCb (b:=[u8I x.kd,u8I x.ar,u8I x.ht]) (x:=x.po) ⟨sM,oM⟩;have l1:(blL [u8I x.kd,u8I x.ar,u8I x.ht] x.po).length<=37:=by rw[jY];simp;omega
 generalize hB:blL [u8I x.kd,u8I x.ar,u8I x.ht] x.po=B at *;have b2:=jCb (b:=B) (x:=x.un) ⟨oM,oM⟩;rw[hE]at b2;have t1:List.take B.length B=B:=take_length;simp only[mcn]at b1;have hK:∀vv oo,vv=.sl 0 0 (qO7 x).length->oo=[.live 1 (((qO7 x).map qA).map V.t) true false]->qIh.K x vv oo:=λvv oo h g=>jYn (qO7 x) rfl h g
 generalize qO7 x=E at *;simp(disch:=omega)only[go_sem,qF8,puA,h1,u8w,b1,b2,t1];.repeat first|exact(hK _ _ rfl rfl)|refine⟨rfl,?_⟩
def qG2:ECt where
 α:=Pu
 β:=List UInt8
 aS:=λx=>[.t (puA x)]
 pre:=λx=>x.K2
 r:=λr'=>.t (.sl (r'.map qA))
 R:=λx r'=>r'=zG1 x
theorem zVm {g:EF qG2}{x:Pu}(hp:x.K2):qG2.fs g [.t (puA x)] []=some (.t (.sl ((zG1 x).map qA)),[]):=fnQ qG2 x hp
theorem jYo {x:Pu}(hV:vv=.t (.sl ((zG1 x).map qA)))(hO:oo=[]):qG2.K x vv oo:=⟨_,rfl,hV,hO⟩
theorem zI1 {g1}(h1:LkE tab 200 qIh g1)(h2:LkC tab 102 yP)(x:Pu)(hp:x.K2) :
  qJc.1.wp tab gl (qD 0 [.t (puA x)]) (qD 0 []) (qZ [(2,none)] 0 (qG2.K x)):=by
 obtain⟨E,q,e1⟩:=jEx (g:=g1) hp;have le:=zQy hp;have e2:=zEu (t:=6) (fs:=[E]) ⟨oM,by rw[q];exact zRl oM⟩;have hN:kX 6 [E]=zG1 x:=by rw[q];rfl
 have l2:(zG1 x).length=32:=qPj;have t1:List.take E.length E=E:=take_length;have t2:List.take 32 (zG1 x)=zG1 x:=take_of_length_le oM;rw[hN]at e2;rw[<-q]at le;have k6:((6:Nat):Int)=6:=rfl;simp only[mcn,qG,k6]at e2;have hK:∀vv,vv=.t (.sl ((zG1 x).map qA))->qG2.K x vv []:=λvv h=>jYo h rfl
 clear q hN;generalize zG1 x=N at *;simp only[puA]at e1;simp(disch:=omega)only[go_sem,qJc,puA,h1,h2,e1,t1,e2,t2,l2];.repeat first|exact(hK _ rfl)|refine⟨rfl,?_⟩
theorem jO5 {u:List UInt8}(h:u.length=17):qI (qO7 (qFk u),0,0) 1=(2,qO7 (qFk u),1,0)/\qI (qO7 (qFk u),1,0) 1=(1,qO7 (qFk u),2,0)/\qI (qO7 (qFk u),2,0) 1=(0,qO7 (qFk u),3,0)/\
  zF (qO7 (qFk u),3,0) 32=([],qO7 (qFk u),5,0)/\zF (qO7 (qFk u),5,0) 32=(u,qO7 (qFk u),24,0)/\xM (qO7 (qFk u),24,0)=0:=by
 have l:(qO7 (qFk u)).length=24:=by rw[qMt h];simp[h]
 refine⟨?_,?_,?_,?_,?_,?_⟩
 .rw[qMt h];simp[qI,beV]
 .rw[qMt h];simp[qI,beV]
 .rw[qMt h];simp[qI,beV]
 .exact qQw (p:=[2,1,0]) (x:=[]) (t:=0::17::u) (by rw[qMt h];rfl) sM (by decide)
 .have:=qQw (b:=qO7 (qFk u)) (p:=[2,1,0,0,0]) (x:=u) (t:=[]) (most:=32) (by rw[qMt h,h,append_nil];rfl) oM (by decide);rw[h]at this;exact this
 .rw[xM];simp[l]
def qO3:ECt where
 α:=List UInt8
 β:=Pu×Int
 aS:=λb=>[.t (.sl (b.map qA))]
 pre:=λb=>∃u:List UInt8,b=qO7 (qFk u)/\u.length=17
 r:=λ(x,e)=>.tup [.t (puA x),.t (.int .i64 e)]
 R:=λb (x,e)=>x=qFk (b.drop 7)/\e=0
theorem jSj {g:EF qO3}{b:List UInt8}(hp:∃u:List UInt8,b=qO7 (qFk u)/\u.length=17):∃(x:Pu)(e:Int),(x=qFk (b.drop 7)/\e=0)/\qO3.fs g [.t (.sl (b.map qA))] []=some (.tup [.t (puA x),.t (.int .i64 e)],[]):=by
 obtain⟨y,h1,h2⟩:=qO3.eq g b hp;exact⟨y.1,y.2,h1,h2⟩
theorem jYl {b:List UInt8}(x:Pu)(e:Int)(hR:x=qFk (b.drop 7)/\e=0)(hV:vv=.tup [.t (puA x),.t (.int .i64 e)])(hO:oo=[]):qO3.K b vv oo:=⟨(x,e),hR,hV,hO⟩
theorem zC0 (h1:LkC tab 83 qE5)(h2:LkC tab 109 qE4)(h3:LkC tab 110 qFw)(h4:LkC tab 91 qJx){g5}(h5:LkE tab 178 qIg g5)(b:List UInt8)(hp:∃u:List UInt8,b=qO7 (qFk u)/\u.length=17) :
  qF7.1.wp tab gl (qD 0 [.t (.sl (b.map qA))]) (qD 0 []) (qZ [(2,(some (5,true))),(3,none)] 0 (qO3.K b)):=by
 obtain⟨u,hb,hu⟩:=hp;have l:b.length=24:=by rw[hb,qMt hu];simp[hu]
 have hd:b.drop 7=u:=by rw[hb,qMt hu];rfl
 obtain⟨r1,r2,r3,r4,r5,r6⟩:=jO5 hu;rw[<-hb]at r1 r2 r3 r4 r5 r6;have e0:=qIm (b:=b) oM;have e1:=wW (s:=(b,0,0)) (k:=1) ⟨⟨Nat.zero_le _,by show b.length<_;omega⟩,oM,oM⟩;have e2:=wW (s:=(b,1,0)) (k:=1) ⟨⟨by show 1<=b.length;omega,by show b.length<_;omega⟩,oM,oM⟩;have e3:=wW (s:=(b,2,0)) (k:=1) ⟨⟨by show 2<=b.length;omega,by show b.length<_;omega⟩,oM,oM⟩;have e4:=qF2 (s:=(b,3,0)) (k:=32) ⟨⟨by show 3<=b.length;omega,by show b.length<_;omega⟩,oM⟩;have e5:=qF2 (s:=(b,5,0)) (k:=32) ⟨⟨by show 5<=b.length;omega,by show b.length<_;omega⟩,oM⟩;have e6:=qSn (s:=(b,24,0)) ⟨by show 24<=b.length;omega,by show b.length<_;omega⟩;rw[r1]at e1;rw[r2]at e2;rw[r3]at e3;rw[r4]at e4;rw[r5]at e5;rw[r6]at e6;have e7:=@zVl g5 (qFk u) (.inr ⟨u,rfl,hu⟩);have cz:((0:Nat):Int)=0:=rfl;have c1:((1:Nat):Int)=1:=rfl;have c32:((32:Nat):Int)=32:=rfl;have c2:((2:Nat):Int)=2:=rfl;have c3:((3:Nat):Int)=3:=rfl;have c5:((5:Nat):Int)=5:=rfl;have c24:((24:Nat):Int)=24:=rfl;simp only[rdO,cz,c1,c2,c3,c5,c24,c32,map_nil]at e0 e1 e2 e3 e4 e5 e6;simp only[puA,qFk,map_nil]at e7;clear r1 r2 r3 r4 r5 r6 hb;simp(disch:=omega)only[go_sem,qF7,h1,e0];refine qJ 4 ?_;simp(disch:=omega)only[go_sem,qF,h2,e1,e2,e3];refine qJ 3 ?_;simp(disch:=omega)only[go_sem,qF,h3,e4,e5,h4,e6,h5,e7];repeat refine aiG ?_
 exact jYl (qFk u) 0 ⟨by rw[hd],rfl⟩ rfl rfl
structure St.En (s:St):Prop where
 au:s.a.au=[[],[],[],[]]
 ix:s.a.ix=[]\/∃w d,s.a.ix=[cnI w d]/\d.length=8
 obs:s.obs.length=3/\∀x∈s.obs,x.Se
theorem St.Tp.en {s:St}(h:s.Tp):s.En:=⟨h.a.au,h.a.ix,h.obs⟩
def qHa (s:St)(h:Int):Fo×Int:=
 if 0<=h/\h<=3 then(⟨hnF h,[],[],false⟩,0)
 else if(qRw s h).2=0 then(⟨inF (s.a.ix.getD (qRw s h).1.toNat default),[],[],true⟩,0)
 else if(qBb s h).2=0 then(⟨zLo (qBb s h).1.p.po (qBb s h).1.p.un,(qBb s h).1.s.au,(qBb s h).1.p.po,true⟩,0)
 else(default,7)
theorem zQz {s:St}(e:s.obs.length=3/\∀x∈s.obs,x.Se){h:Int}(h0:(qBb s h).2=0):∃po un au sd da hh,(qBb s h).1=⟨⟨3,0,0,po,un⟩,⟨au,sd,da⟩,hh⟩/\po.length=32/\un.length=32/\au.length<=32/\da.length<=128:=by
 unfold qBb at *;split
 .rw[if_pos ‹_›]at h0;cases h0
 rename_i c;rw[if_neg c]at h0;split
 .rw[if_pos ‹_›]at h0;cases h0
 rename_i c2;have hn:(h-512).toNat<s.obs.length:=oM;have hm:s.obs.getD (h-512).toNat default∈s.obs:=by
  rw[getD_eq_getElem?_getD,getElem?_eq_getElem hn];exact getElem_mem hn
 have hs:=e.2 _ hm;generalize s.obs.getD (h-512).toNat default=x at *;obtain⟨⟨kd,ar,ht,po,un⟩,⟨au,sd,da⟩,hh⟩:=x;obtain⟨hd|⟨q1,q2,q3,q4,q5⟩,q6,q7⟩:=hs
 .rw[hd]at c2;exact absurd rfl c2
 .refine⟨po,un,au,sd,da,hh,?_,q4,q5,q6,q7⟩;rw[show kd=3 from q1,show ar=0 from q2,show ht=0 from q3]
theorem zEm {s:St}(e:s.a.ix=[]\/∃w d,s.a.ix=[cnI w d]/\d.length=8){h:Int}(h0:(qRw s h).2=0):h=257/\(qRw s h).1=0/\∃w d,s.a.ix=[cnI w d]/\d.length=8:=by
 rcases e with e|⟨w,d,e,hd⟩
 .simp[qRw,e,ixP]at h0
 .have hI:ixP s.a.ix h 0=if h=257 then 0 else -1:=by rw[e];simp only[ixP,cnI];by_cases c:h=257<;>simp[c]
  by_cases c:h=257
  .rw[if_pos c]at hI;exact⟨c,by rw[qRw,hI];rfl,w,d,e,hd⟩
  .rw[if_neg c]at hI;rw[qRw,hI]at h0;cases h0
theorem qU9 {s:St}(e:s.En):s.a.ix.length<=6/\∀x∈s.a.ix,0<=x.n/\x.n<=255:=by
 rcases e.ix with e|⟨w,d,e,hd⟩
 .simp[e]
 .rw[e];refine⟨sM,λx hx=>?_⟩;obtain rfl:=mem_singleton.1 hx;simp[cnI]
theorem yC1:qLz .and .i64 48 .i64 64=some (.int .i64 0):=rfl
theorem yDx:qLz .and .i64 0 .i64 2=some (.int .i64 0):=rfl
def qGv:ECt where
 α:=St×Int
 β:=Fo×Int
 aS:=λ(s,h)=>[.t (stA s),.t (.int .i64 h)]
 pre:=λ(s,h)=>s.En/\tmI h
 r:=λ(x,e)=>.tup [.t (foA x),.t (.int .i64 e)]
 R:=λ(s,h)(x,e)=>(x,e)=qHa s h
theorem zK9 {g:EF qGv}{s:St}{h:Int}(hp:s.En/\tmI h):∃(x:Fo)(e:Int),((x,e)=qHa s h)/\qGv.fs g [.t (stA s),.t (.int .i64 h)] []=some (.tup [.t (foA x),.t (.int .i64 e)],[]):=by
 obtain⟨y,h1,h2⟩:=qGv.eq g (s,h) hp;exact⟨y.1,y.2,h1,h2⟩
theorem qL9 {s:St}{h:Int}(x:Fo)(e:Int)(hR:(x,e)=qHa s h)(hV:vv=.tup [.t (foA x),.t (.int .i64 e)])(hO:oo=[]):qGv.K (s,h) vv oo:=⟨(x,e),hR,hV,hO⟩
theorem zC6 {g1}(h1:LkE tab 133 qE7 g1){g2}(h2:LkE tab 132 qGw g2){g3}(h3:LkE tab 230 qNr g3){g4}(h4:LkE tab 176 qH5 g4){g5}(h5:LkE tab 183 qG2 g5)(s:St)(h:Int)(hp:s.En/\tmI h) :
  kF.1.wp tab gl (qD 0 [.t (stA s),.t (.int .i64 h)]) (qD 0 []) (qZ [(4,(some (4,true))),(5,none)] 0 (qGv.K (s,h))):=by
 obtain⟨he,ht⟩:=hp;obtain⟨i,ei,q1,c1⟩:=zEn (g:=g1) (s:=s) (h:=h) ⟨(qU9 he).1,(qU9 he).2,ht⟩;obtain⟨x,ex,q2,c2⟩:=zLa (g:=g2) (s:=s) (h:=h) ⟨he.obs.1,ht⟩;have k1:(qRw s h).2=ei:=by rw[<-q1]
 have k2:(qBb s h).2=ex:=by rw[<-q2]
 have k3:(qBb s h).1=x:=by rw[<-q2]
 by_cases d0:0<=h/\h<=3
 .have c3:=jMe (g:=g3) d0;obtain⟨n,rfl⟩:=Int.eq_ofNat_of_zero_le d0.1;have hg:s.a.au[n]?=some []:=by
   rw[he.au];rcases(by omega:n=0\/n=1\/n=2\/n=3)with rfl|rfl|rfl|rfl<;>rfl
  have hl:s.a.au.length=4:=by rw[he.au];rfl
  have hF:qHa s n=(⟨hnF n,[],[],false⟩,0):=by rw[qHa,if_pos d0]
  simp only[stA,qBy]at c1 c2;simp(maxSteps:=9^9)(disch:=try exact dS)only[go_sem,kF,stA,qBy,h1,h2,h3,c1,c2,c3,d0,hl,hg,oms];.repeat first|exact(qL9 ⟨hnF n,[],[],false⟩ 0 hF.symm rfl rfl)|refine⟨rfl,?_⟩
 have hb:3<h:=oM;by_cases d1:ei=0
 .subst d1;obtain⟨rfl,hi,w,d,hix,hd⟩:=zEm he.ix k1;have ki:i=0:=by rw[<-hi,<-q1]
  subst ki;have c4:=zR2 (g:=g4) (x:=cnI w d) (by simp[cnI]);have hF:qHa s 257=(⟨inF (cnI w d),[],[],true⟩,0):=by rw[qHa,if_neg d0,if_pos k1,hi,hix];rfl
  simp only[stA,hix,ixA,cnI,qBy,mcn]at c1 c2 c4;simp(maxSteps:=9^9)(disch:=try exact dS)only[go_sem,kF,stA,qBy,hix,ixA,cnI,h1,h2,h4,c1,c2,c4,yC1,mcn];.repeat first|exact(qL9 ⟨inF (cnI w d),[],[],true⟩ 0 hF.symm rfl rfl)|refine⟨rfl,?_⟩
 by_cases d2:ex=0
 .subst d2;obtain⟨po,un,au,sd,da,hh,hx,l1,l2,l3,l4⟩:=zQz he.obs k2;have c5:=zVm (g:=g5) (x:=⟨3,0,0,po,un⟩) (.inl ⟨rfl,rfl,rfl,l1,l2⟩);rw[jDp]at c5;simp only[puA]at c5;have hF:qHa s h=(⟨zLo po un,au,po,true⟩,0):=by rw[qHa,if_neg d0,if_neg (by rw[k1];exact d1),if_pos k2,hx]
  rw[k3]at hx;subst hx;simp only[stA,qBy]at c1 c2;simp(maxSteps:=9^9)(disch:=try exact dS)only[go_sem,kF,stA,qBy,h1,h2,h5,c1,c2,c5,d1,yDx,yC1];.repeat first|exact(qL9 ⟨zLo po un,au,po,true⟩ 0 hF.symm rfl rfl)|refine⟨rfl,?_⟩
 .have hF:qHa s h=(default,7):=by rw[qHa,if_neg d0,if_neg (by rw[k1];exact d1),if_neg (by rw[k2];exact d2)]
  simp only[stA,qBy]at c1 c2;simp(maxSteps:=9^9)(disch:=try exact dS)only[go_sem,kF,stA,qBy,h1,h2,c1,c2,d1,d2];.repeat first|exact(qL9 default 7 hF.symm rfl rfl)|refine⟨rfl,?_⟩
def qNo:ECt where
 α:=St×Int
 β:=List UInt8×Int
 aS:=λ(s,h)=>[.t (stA s),.t (.int .i64 h)]
 pre:=λ(s,h)=>s.En/\tmI h
 r:=λ(x,e)=>.tup [.t (.sl (x.map qA)),.t (.int .i64 e)]
 R:=λ(s,h)(x,e)=>(x,e)=((qHa s h).1.nm,(qHa s h).2)
theorem zAd {g:EF qNo}{s:St}{h:Int}(hp:s.En/\tmI h):∃(x:List UInt8)(e:Int),((x,e)=((qHa s h).1.nm,(qHa s h).2))/\qNo.fs g [.t (stA s),.t (.int .i64 h)] []=some (.tup [.t (.sl (x.map qA)),.t (.int .i64 e)],[]):=by
 obtain⟨y,h1,h2⟩:=qNo.eq g (s,h) hp;exact⟨y.1,y.2,h1,h2⟩
theorem zW8 {s:St}{h:Int}(x:List UInt8)(e:Int)(hR:(x,e)=((qHa s h).1.nm,(qHa s h).2))(hV:vv=.tup [.t (.sl (x.map qA)),.t (.int .i64 e)])(hO:oo=[]):qNo.K (s,h) vv oo:=⟨(x,e),hR,hV,hO⟩
def qJ7:ECt where
 α:=St×Int
 β:=List UInt8×Int
 aS:=λ(s,h)=>[.t (stA s),.t (.int .i64 h)]
 pre:=λ(s,h)=>s.En/\tmI h
 r:=λ(x,e)=>.tup [.t (.sl (x.map qA)),.t (.int .i64 e)]
 R:=λ(s,h)(x,e)=>(x,e)=((qHa s h).1.va,(qHa s h).2)
theorem jCz {g:EF qJ7}{s:St}{h:Int}(hp:s.En/\tmI h):∃(x:List UInt8)(e:Int),((x,e)=((qHa s h).1.va,(qHa s h).2))/\qJ7.fs g [.t (stA s),.t (.int .i64 h)] []=some (.tup [.t (.sl (x.map qA)),.t (.int .i64 e)],[]):=by
 obtain⟨y,h1,h2⟩:=qJ7.eq g (s,h) hp;exact⟨y.1,y.2,h1,h2⟩
theorem zXb {s:St}{h:Int}(x:List UInt8)(e:Int)(hR:(x,e)=((qHa s h).1.va,(qHa s h).2))(hV:vv=.tup [.t (.sl (x.map qA)),.t (.int .i64 e)])(hO:oo=[]):qJ7.K (s,h) vv oo:=⟨(x,e),hR,hV,hO⟩
def qNp:ECt where
 α:=St×Int
 β:=List UInt8×Int
 aS:=λ(s,h)=>[.t (stA s),.t (.int .i64 h)]
 pre:=λ(s,h)=>s.En/\tmI h
 r:=λ(x,e)=>.tup [.t (.sl (x.map qA)),.t (.int .i64 e)]
 R:=λ(s,h)(x,e)=>(x,e)=((qHa s h).1.po,(qHa s h).2)
theorem jLz {g:EF qNp}{s:St}{h:Int}(hp:s.En/\tmI h):∃(x:List UInt8)(e:Int),((x,e)=((qHa s h).1.po,(qHa s h).2))/\qNp.fs g [.t (stA s),.t (.int .i64 h)] []=some (.tup [.t (.sl (x.map qA)),.t (.int .i64 e)],[]):=by
 obtain⟨y,h1,h2⟩:=qNp.eq g (s,h) hp;exact⟨y.1,y.2,h1,h2⟩
theorem zW9 {s:St}{h:Int}(x:List UInt8)(e:Int)(hR:(x,e)=((qHa s h).1.po,(qHa s h).2))(hV:vv=.tup [.t (.sl (x.map qA)),.t (.int .i64 e)])(hO:oo=[]):qNp.K (s,h) vv oo:=⟨(x,e),hR,hV,hO⟩
def qNq:ECt where
 α:=St×Int
 β:=Bool
 aS:=λ(s,h)=>[.t (stA s),.t (.int .i64 h)]
 pre:=λ(s,h)=>s.En/\tmI h
 r:=λr'=>.t (.bool r')
 R:=λ(s,h) r'=>r'=(qHa s h).1.pr
theorem jL0 {g:EF qNq}{s:St}{h:Int}(hp:s.En/\tmI h):qNq.fs g [.t (stA s),.t (.int .i64 h)] []=some (.t (.bool ((qHa s h).1.pr)),[]):=fnQ qNq (s,h) hp
theorem zXa {s:St}{h:Int}(hV:vv=.t (.bool ((qHa s h).1.pr)))(hO:oo=[]):qNq.K (s,h) vv oo:=⟨_,rfl,hV,hO⟩
theorem zC5 {g1}(h1:LkE tab 166 qGv g1)(s:St)(h:Int)(hp:s.En/\tmI h) :
  qGd.1.wp tab gl (qD 0 [.t (stA s),.t (.int .i64 h)]) (qD 0 []) (qZ [(4,none),(5,none)] 0 (qNo.K (s,h))):=by
 obtain⟨x,e,q,c⟩:=zK9 (g:=g1) hp;simp only[stA,foA]at c;simp(disch:=omega)only[go_sem,qGd,stA,h1,c];.repeat first|exact(zW8 x.nm e (by rw[<-q]) rfl rfl)|refine⟨rfl,?_⟩
theorem qY9 {g1}(h1:LkE tab 166 qGv g1)(s:St)(h:Int)(hp:s.En/\tmI h) :
  qEn.1.wp tab gl (qD 0 [.t (stA s),.t (.int .i64 h)]) (qD 0 []) (qZ [(4,none),(5,none)] 0 (qJ7.K (s,h))):=by
 obtain⟨x,e,q,c⟩:=zK9 (g:=g1) hp;simp only[stA,foA]at c;simp(disch:=omega)only[go_sem,qEn,stA,h1,c];.repeat first|exact(zXb x.va e (by rw[<-q]) rfl rfl)|refine⟨rfl,?_⟩
theorem qXy {g1}(h1:LkE tab 166 qGv g1)(s:St)(h:Int)(hp:s.En/\tmI h) :
  qDc.1.wp tab gl (qD 0 [.t (stA s),.t (.int .i64 h)]) (qD 0 []) (qZ [(4,none),(5,none)] 0 (qNp.K (s,h))):=by
 obtain⟨x,e,q,c⟩:=zK9 (g:=g1) hp;simp only[stA,foA]at c;simp(disch:=omega)only[go_sem,qDc,stA,h1,c];.repeat first|exact(zW9 x.po e (by rw[<-q]) rfl rfl)|refine⟨rfl,?_⟩
theorem qRf {g1}(h1:LkE tab 166 qGv g1)(s:St)(h:Int)(hp:s.En/\tmI h) :
  qAt.1.wp tab gl (qD 0 [.t (stA s),.t (.int .i64 h)]) (qD 0 []) (qZ [(4,none)] 0 (qNq.K (s,h))):=by
 obtain⟨x,e,q,c⟩:=zK9 (g:=g1) hp;simp only[stA,foA]at c;simp(disch:=omega)only[go_sem,qAt,stA,h1,c];.repeat first|exact(zXa (by rw[<-q]) rfl)|refine⟨rfl,?_⟩
structure Ckr where
 s:St
 q:Rq
 a:Az
 h:Int
 deriving Inhabited
def ckA (c:Ckr):T:= .agg [.sl (c.s.a.sd.map bsT),.sl (c.s.a.au.map bsT),.sl (c.s.a.en.map qA),.int .i64 c.s.a.act,.int .i64 c.s.a.res,.int .i64 c.s.a.rst,.int .i64 c.s.a.clk,.bool c.s.a.ord,.sl (c.s.a.bk.map vU),.int .i64 c.s.a.u,.int .i64 c.s.a.mc,.sl (c.s.a.ix.map ixA),
 .int .i64 c.s.a.lk.fa,.int .i64 c.s.a.lk.mx,.int .i64 c.s.a.lk.rc,.int .i64 c.s.a.lk.si,.int .i64 c.s.a.lk.cl,.int .i64 c.s.a.lk.pe,.sl (c.s.a.ks.map lvA),
 .bool c.s.on,.bool c.s.off,.sl (c.s.bk.map vU),.int .i64 c.s.u,.int .i64 c.s.clk,.bool c.s.safe,.int .i64 c.s.dr,.sl (c.s.ses.map jS),.sl (c.s.obs.map qBy),.sl (c.s.rl.map iT),.sl (c.s.wl.map iT),
 .int .i64 c.q.co,.sl (c.q.hs.map iT),.sl (c.q.au.map azA),.sl (c.q.ns.map iT),.sl (c.q.bl.map bsT),.int .i64 c.a.s,.sl (c.a.no.map qA),.sl (c.a.va.map qA),.int .i64 c.h]
theorem jT1:EI ckA:=qAh (by
 rintro⟨s,q,⟨⟩,_⟩ ⟨t,r,⟨⟩,_⟩ h;have hs:stA s=stA t:=by
  simp only[ckA,qBa]at h;simp only[stA,qBa];simp only[h,and_self]
 have hq:rqA q=rqA r:=by
  simp only[ckA,qBa]at h;simp only[rqA,qBa];simp only[h,and_self]
 obtain rfl:=(jI4.1 s t).mp hs;obtain rfl:=(jH8.1 q r).mp hq;simp only[ckA,qBa]at h;obtain⟨rfl,rfl,rfl,rfl⟩:=h;rfl)
theorem jF0:EI ckA:=jT1
def qNy:ECt where
 α:=Ckr
 β:=Int
 aS:=λc=>[.t (ckA c)]
 pre:=λc=>True
 r:=λr'=>.t (.int .i64 r')
 R:=λc r'=>r'=c.s.clk
 inj:=by rintro c c' e _;simp only[qBa,qL2,jF0]at e;obtain rfl:=e;rfl
theorem jM9 {g:EF qNy}{c:Ckr}:qNy.fs g [.t (ckA c)] []=some (.t (.int .i64 (c.s.clk)),[]):=fnQ qNy c trivial
theorem zX5 {c:Ckr}(hV:vv=.t (.int .i64 (c.s.clk)))(hO:oo=[]):qNy.K c vv oo:=⟨_,rfl,hV,hO⟩
theorem qG7  (c:Ckr) :
  vH.1.wp tab gl (qD 0 [.t (ckA c)]) (qD 0 []) (qZ [(2,none)] 0 (qNy.K c)):=by
 simp(disch:=omega)only[go_sem,vH,ckA];.repeat first|exact(zX5 rfl rfl)|refine⟨rfl,?_⟩
def qOj:ECt where
 α:=Int
 β:=Bool
 aS:=λk=>[.t (.int .i64 k)]
 pre:=λk=>True
 r:=λr'=>.t (.bool r')
 R:=λk r'=>r'=decide (k=24\/k=28\/k=18)
theorem jOw {g:EF qOj}{k:Int}:qOj.fs g [.t (.int .i64 k)] []=some (.t (.bool (decide (k=24\/k=28\/k=18))),[]):=fnQ qOj k trivial
theorem jWm {k:Int}(hV:vv=.t (.bool (decide (k=24\/k=28\/k=18))))(hO:oo=[]):qOj.K k vv oo:=⟨_,rfl,hV,hO⟩
theorem qSv  (k:Int) :
  qBd.1.wp tab gl (qD 0 [.t (.int .i64 k)]) (qD 0 []) (qZ [(2,none)] 0 (qOj.K k)):=by
 simp +contextual(disch:=omega)only[go_sem,qBd,↓vO,↓kC,qT3]
 (repeat' (first|apply And.intro|intro _))<;>(try rfl)
 all_goals(refine jWm ?_ rfl;simp_all<;>rfl)
def qKz:ECt where
 α:=Int×Int×Int
 β:=Int
 aS:=λ(k,r,w)=>[.t (.int .i64 k),.t (.int .i64 r),.t (.int .i64 w)]
 pre:=λ(k,r,w)=>k=25\/k=13\/k=21\/k=9\/k=24
 r:=λr'=>.t (.int .i64 r')
 R:=λ(k,r,w) r'=>r'=(if k=24 then r else w)
theorem jEm {g:EF qKz}{k r w:Int}(hp:k=25\/k=13\/k=21\/k=9\/k=24):qKz.fs g [.t (.int .i64 k),.t (.int .i64 r),.t (.int .i64 w)] []=some (.t (.int .i64 ((if k=24 then r else w))),[]):=fnQ qKz (k,r,w) hp
theorem zVf {k r w:Int}(hV:vv=.t (.int .i64 ((if k=24 then r else w))))(hO:oo=[]):qKz.K (k,r,w) vv oo:=⟨_,rfl,hV,hO⟩
theorem qSw {g1}(h1:LkE tab 248 qOj g1)(k r w:Int)(hp:k=25\/k=13\/k=21\/k=9\/k=24) :
  kM.1.wp tab gl (qD 0 [.t (.int .i64 k),.t (.int .i64 r),.t (.int .i64 w)]) (qD 0 []) (qZ [(6,none)] 0 (qKz.K (k,r,w))):=by
 have e:=@jOw g1 k;by_cases c:k=24
 .subst c;rw[show decide ((24:Int)=24\/(24:Int)=28\/(24:Int)=18)=true by decide]at e;simp(disch:=omega)only[go_sem,kM,h1,e];.repeat first|exact(zVf rfl rfl)|refine⟨rfl,?_⟩
 .have hK:∀vv,vv=.t (.int .i64 w)->qKz.K (k,r,w) vv []:=λvv h=>zVf (by rw[if_neg c];exact h) rfl
  rw[show decide (k=24\/k=28\/k=18)=false by simp;omega]at e;simp(disch:=omega)only[go_sem,kM,h1,e];.repeat first|exact(hK _ rfl)|refine⟨rfl,?_⟩
def qKf:ECt where
 α:=Ckr×Int
 β:=Int×Bool
 aS:=λ(c,h)=>[.t (ckA c),.t (.int .i64 h)]
 pre:=λ(c,h)=>c.s.En/\tmI h
 r:=λ(n,b)=>.tup [.t (.int .i64 n),.t (.bool b)]
 R:=λ(c,h)(n,b)=>(n,b)=if(qRw c.s h).2=0 then(48,true) else(0,false)
 inj:=by rintro⟨c,h⟩ ⟨c',h'⟩ e _;simp only[qBa,qL2,jF0]at e;obtain⟨rfl,rfl⟩:=e;rfl
theorem zLg {g:EF qKf}{c:Ckr}{h:Int}(hp:c.s.En/\tmI h):∃(n:Int)(b:Bool),((n,b)=if(qRw c.s h).2=0 then(48,true) else(0,false))/\qKf.fs g [.t (ckA c),.t (.int .i64 h)] []=some (.tup [.t (.int .i64 n),.t (.bool b)],[]):=by
 obtain⟨y,h1,h2⟩:=qKf.eq g (c,h) hp;exact⟨y.1,y.2,h1,h2⟩
theorem zEz {c:Ckr}{h:Int}(n:Int)(b:Bool)(hR:(n,b)=if(qRw c.s h).2=0 then(48,true) else(0,false))(hV:vv=.tup [.t (.int .i64 n),.t (.bool b)])(hO:oo=[]):qKf.K (c,h) vv oo:=⟨(n,b),hR,hV,hO⟩
theorem qHj {g1}(h1:LkE tab 133 qE7 g1)(c:Ckr)(h:Int)(hp:c.s.En/\tmI h) :
  yI.1.wp tab gl (qD 0 [.t (ckA c),.t (.int .i64 h)]) (qD 0 []) (qZ [(4,none),(5,none)] 0 (qKf.K (c,h))):=by
 obtain⟨he,ht⟩:=hp;obtain⟨i,ei,q1,c1⟩:=zEn (g:=g1) (s:=c.s) (h:=h) ⟨(qU9 he).1,(qU9 he).2,ht⟩;have k1:(qRw c.s h).2=ei:=by rw[<-q1]
 by_cases d1:ei=0
 .subst d1;obtain⟨rfl,hi,w,d,hix,hd⟩:=zEm he.ix k1;have ki:i=0:=by rw[<-hi,<-q1]
  subst ki;simp only[stA,hix,ixA,cnI,mcn]at c1;simp(disch:=omega)only[go_sem,yI,ckA,hix,ixA,cnI,h1,c1,mcn];.repeat first|exact(zEz 48 true (by rw[if_pos k1]) rfl rfl)|refine⟨rfl,?_⟩
 .simp only[stA]at c1;simp(disch:=omega)only[go_sem,yI,ckA,h1,c1,d1];.repeat first|exact(zEz 0 false (by rw[if_neg (by rw[k1];exact d1)]) rfl rfl)|refine⟨rfl,?_⟩
def qN2:ECt where
 α:=Lk×Int
 β:=Lk
 aS:=λ(l,n)=>[.t (lkA l),.t (.int .i64 n)]
 pre:=λ(l,n)=>l.fa=0
 r:=λr'=>.t (lkA r')
 R:=λ(l,n) r'=>r' = { l with si:=n }
theorem jNk {g:EF qN2}{l:Lk}{n:Int}(hp:l.fa=0):qN2.fs g [.t (lkA l),.t (.int .i64 n)] []=some (.t (lkA ({ l with si:=n })),[]):=fnQ qN2 (l,n) hp
theorem zE1 {l:Lk}{n:Int}(hV:vv=.t (lkA ({ l with si:=n })))(hO:oo=[]):qN2.K (l,n) vv oo:=⟨_,rfl,hV,hO⟩
theorem qS1  (l:Lk)(n:Int)(hp:l.fa=0) :
  kP.1.wp tab gl (qD 0 [.t (lkA l),.t (.int .i64 n)]) (qD 0 []) (qZ [(4,(some (6,true)))] 0 (qN2.K (l,n))):=by
 obtain⟨fa,mx,rc,si,cl,pe⟩:=l;simp only at hp;subst hp;by_cases c:n<si
 .simp(disch:=omega)only[go_sem,kP,lkA,c];.repeat first|exact(zE1 rfl rfl)|refine⟨rfl,?_⟩
 .simp(disch:=omega)only[go_sem,kP,lkA,c];.repeat first|exact(zE1 rfl rfl)|refine⟨rfl,?_⟩
def qN3:ECt where
 α:=Lk×Int
 β:=Bool
 aS:=λ(l,n)=>[.t (lkA l),.t (.int .i64 n)]
 pre:=λ(l,n)=>l.fa=0/\1<=l.mx
 r:=λr'=>.t (.bool r')
 R:=λ(l,n) r'=>r'=false
theorem jNl {g:EF qN3}{l:Lk}{n:Int}(hp:l.fa=0/\1<=l.mx):qN3.fs g [.t (lkA l),.t (.int .i64 n)] []=some (.t (.bool (false)),[]):=fnQ qN3 (l,n) hp
theorem zYd {l:Lk}{n:Int}(hV:vv=.t (.bool (false)))(hO:oo=[]):qN3.K (l,n) vv oo:=⟨_,rfl,hV,hO⟩
theorem qUj {g1}(h1:LkE tab 284 qN2 g1)(l:Lk)(n:Int)(hp:l.fa=0/\1<=l.mx) :
  qB7.1.wp tab gl (qD 0 [.t (lkA l),.t (.int .i64 n)]) (qD 0 []) (qZ [(4,none)] 0 (qN3.K (l,n))):=by
 obtain⟨h0,h1'⟩:=hp;have e:=jNk (g:=g1) (l:=l) (n:=n) h0;obtain⟨fa,mx,rc,si,cl,pe⟩:=l;simp only at h0 h1';subst h0;simp only[lkA]at e;simp(disch:=omega)only[go_sem,qB7,lkA,h1,e];.repeat first|exact(zYd rfl rfl)|refine⟨rfl,?_⟩
def vlP (c:Ckr):Prop:=c.s.En/\(0<=c.h/\c.h<=2)/\((c.q=qC .df/\c.h=1)\/(c.q=qC .ic/\c.h=1/\(qRw c.s 257).2=0)\/(c.q=qC .ud/\c.h=1)\/(c.q=qC .rd/\c.h=1/\(qRw c.s 257).2=0)\/∃po au da,c.q=qC (.pr c.h po au da))/\c.a=⟨0,[],[]⟩
theorem jKg:qLz .and .i64 48 .i64 16=some (.int .i64 16):=rfl
theorem jKh:qLz .and .i64 48 .i64 32=some (.int .i64 32):=rfl
def qNz:ECt where
 α:=Ckr
 β:=Bool
 aS:=λc=>[.t (ckA c)]
 pre:=λc=>vlP c
 r:=λb=>.t (.bool b)
 R:=λc b=>b=false
 inj:=by rintro c c' e _;simp only[qBa,qL2,jF0]at e;obtain rfl:=e;rfl
theorem jNa {g:EF qNz}{c:Ckr}(hp:vlP c):∃(b:Bool),(b=false)/\qNz.fs g [.t (ckA c)] []=some (.t (.bool b),[]):=qNz.eq g c hp
theorem qD8 {c:Ckr}(b:Bool)(hR:b=false)(hV:vv=.t (.bool b))(hO:oo=[]):qNz.K c vv oo:=⟨b,hR,hV,hO⟩
theorem qDr {g1}(h1:LkE tab 132 qGw g1){g2}(h2:LkE tab 192 qKf g2){g3}(h3:LkE tab 193 qKz g3)(c:Ckr)(hp:vlP c) :
  qY.1.wp tab gl (qD 0 [.t (ckA c)]) (qD 0 []) (qZ [(2,none)] 0 (qNz.K c)):=by
 obtain⟨he,hh,hq,ha⟩:=hp;obtain⟨x,ex,q2,c2⟩:=zLa (g:=g1) (s:=c.s) (h:=c.h) ⟨he.obs.1,oM⟩;obtain⟨n,b,q3,c3⟩:=zLg (g:=g2) (c:=c) (h:=c.h) ⟨he,oM⟩;have k2:ex=7:=by rw[qBb,if_pos oM]at q2;cases q2;rfl
 have k3:b=false:=by
  by_cases c0:(qRw c.s c.h).2=0
  .have:=(zEm he.ix c0).1;omega
  .rw[if_neg c0]at q3;cases q3;rfl
 subst k2 k3;rcases hq with⟨hq,hh1⟩|⟨hq,h1',hx⟩|⟨hq,hh1⟩|⟨hq,h1',hx⟩|⟨po,au,da,hq⟩
 .simp only[stA,qBy,ckA,hq,ha,qC,azA,mcn,iT,qG]at c2 c3;by_cases ch:c.h=1
  .simp only[ch]at c2 c3;simp(maxSteps:=9^9)(disch:=try exact dS)only[go_sem,qY,ckA,qBy,hq,ha,ch,qC,azA,mcn,iT,qG,h1,h2,c2,c3];.repeat first|exact(qD8 false rfl rfl rfl)|refine⟨rfl,?_⟩
  .exact absurd hh1 ch
 .obtain⟨n',b',q4,c4⟩:=zLg (g:=g2) (c:=c) (h:=257) ⟨he,oM⟩;rw[if_pos hx]at q4;cases q4;have c5:=jEm (g:=g3) (k:=25) (r:=16) (w:=32) (.inl rfl);rw[if_neg (by decide)]at c5;simp only[stA,qBy,ckA,hq,h1',ha,qC,azA,mcn,iT,qG]at c2 c3 c4;simp(maxSteps:=9^9)(disch:=try exact dS)only[go_sem,qY,ckA,qBy,hq,h1',ha,qC,azA,mcn,iT,qG,h1,h2,h3,c2,c3,c4,c5,jKh];.repeat first|exact(qD8 false rfl rfl rfl)|refine⟨rfl,?_⟩
 .simp only[stA,qBy,ckA,hq,ha,qC,azA,mcn,iT,qG]at c2 c3;by_cases ch:c.h=1
  .simp only[ch]at c2 c3;simp(maxSteps:=9^9)(disch:=try exact dS)only[go_sem,qY,ckA,qBy,hq,ha,ch,qC,azA,mcn,iT,qG,h1,h2,c2,c3];.repeat first|exact(qD8 false rfl rfl rfl)|refine⟨rfl,?_⟩
  .exact absurd hh1 ch
 .obtain⟨n',b',q4,c4⟩:=zLg (g:=g2) (c:=c) (h:=257) ⟨he,oM⟩;rw[if_pos hx]at q4;cases q4;have c5:=jEm (g:=g3) (k:=24) (r:=16) (w:=32) (.inr (.inr (.inr (.inr rfl))));rw[if_pos rfl]at c5;simp only[stA,qBy,ckA,hq,h1',ha,qC,azA,mcn,iT,qG]at c2 c3 c4;simp(maxSteps:=9^9)(disch:=try exact dS)only[go_sem,qY,ckA,qBy,hq,h1',ha,qC,azA,mcn,iT,qG,h1,h2,h3,c2,c3,c4,c5,jKg];.repeat first|exact(qD8 false rfl rfl rfl)|refine⟨rfl,?_⟩
 .simp only[stA,qBy,ckA,hq,ha,qC,azA,mcn,iT,qG]at c2 c3;by_cases ch:c.h=1
  .simp only[ch]at c2 c3;simp(maxSteps:=9^9)(disch:=try exact dS)only[go_sem,qY,ckA,qBy,hq,ha,ch,qC,azA,mcn,iT,qG,h1,h2,c2,c3];.repeat first|exact(qD8 false rfl rfl rfl)|refine⟨rfl,?_⟩
  .have ch':(c.h==1)=false:=by simpa using ch
   simp(maxSteps:=9^9)(disch:=try exact dS)only[go_sem,qY,ckA,qBy,hq,ha,ch,ch',qC,azA,mcn,iT,qG,h1,h2,c2,c3];.repeat first|exact(qD8 false rfl rfl rfl)|refine⟨rfl,?_⟩
def qKh:ECt where
 α:=Ckr
 β:=Bool
 aS:=λc=>[.t (ckA c)]
 pre:=λc=>c.s.En/\(tmI c.h/\c.h≠3)/\c.s.a.lk.fa=0/\1<=c.s.a.lk.mx
 r:=λb=>.t (.bool b)
 R:=λc b=>b=false
 inj:=by rintro c c' e _;simp only[qBa,qL2,jF0]at e;obtain rfl:=e;rfl
theorem jDi {g:EF qKh}{c:Ckr}(hp:c.s.En/\(tmI c.h/\c.h≠3)/\c.s.a.lk.fa=0/\1<=c.s.a.lk.mx):∃(b:Bool),(b=false)/\qKh.fs g [.t (ckA c)] []=some (.t (.bool b),[]):=qKh.eq g c hp
theorem zX7 {c:Ckr}(b:Bool)(hR:b=false)(hV:vv=.t (.bool b))(hO:oo=[]):qKh.K c vv oo:=⟨b,hR,hV,hO⟩
theorem qFo {g1}(h1:LkE tab 194 qNy g1){g3}(h3:LkE tab 243 qNq g3){g4}(h4:LkE tab 244 qN3 g4)(c:Ckr)(hp:c.s.En/\(tmI c.h/\c.h≠3)/\c.s.a.lk.fa=0/\1<=c.s.a.lk.mx) :
  vC.1.wp tab gl (qD 0 [.t (ckA c)]) (qD 0 []) (qZ [(2,none)] 0 (qKh.K c)):=by
 obtain⟨he,⟨ht,h3'⟩,hf,hm⟩:=hp;have c2:=jNl (g:=g4) (l:=c.s.a.lk) (n:=c.s.clk) ⟨hf,hm⟩;have c3:=jM9 (g:=g1) (c:=c);have c1:=jL0 (g:=g3) (s:=c.s) (h:=c.h) ⟨he,ht⟩;cases hP:(qHa c.s c.h).1.pr;all_goals
  simp only[hP,stA,ckA,lkA]at c1 c2 c3;simp(disch:=omega)only[go_sem,vC,ckA,lkA,h1,h3,h4,c1,c2,c3,h3'];.repeat first|exact(zX7 false rfl rfl rfl)|refine⟨rfl,?_⟩
def qKg:ECt where
 α:=Ckr×List UInt8×List UInt8
 β:=St×Int
 aS:=λ(c,a,b)=>[.t (ckA c),.t (.sl (a.map qA)),.t (.sl (b.map qA))]
 pre:=λ(c,a,b)=>a=b/\a.length<=1000
 r:=λ(t,e)=>.tup [.t (stA t),.t (.int .i64 e)]
 R:=λ(c,a,b)(t,e)=>t=c.s/\e=0
 inj:=by rintro⟨c,a,b⟩ ⟨c',a',b'⟩ e _;simp only[qBa,qL2,jF0]at e;obtain⟨rfl,rfl,rfl⟩:=e;rfl
theorem jDh {g:EF qKg}{c:Ckr}{a b:List UInt8}(hp:a=b/\a.length<=1000):∃(t:St)(e:Int),(t=c.s/\e=0)/\qKg.fs g [.t (ckA c),.t (.sl (a.map qA)),.t (.sl (b.map qA))] []=some (.tup [.t (stA t),.t (.int .i64 e)],[]):=by
 obtain⟨y,h1,h2⟩:=qKg.eq g (c,a,b) hp;exact⟨y.1,y.2,h1,h2⟩
theorem zX6 {c:Ckr}{a b:List UInt8}(t:St)(e:Int)(hR:t=c.s/\e=0)(hV:vv=.tup [.t (stA t),.t (.int .i64 e)])(hO:oo=[]):qKg.K (c,a,b) vv oo:=⟨(t,e),hR,hV,hO⟩
theorem qFj (h1:LkC tab 245 zBt)(c:Ckr)(a b:List UInt8)(hp:a=b/\a.length<=1000) :
  yU.1.wp tab gl (qD 0 [.t (ckA c),.t (.sl (a.map qA)),.t (.sl (b.map qA))]) (qD 0 []) (qZ [(6,(some (30,true))),(7,none)] 0 (qKg.K (c,a,b))):=by
 obtain⟨rfl,hl⟩:=hp;have e:=jIl (a:=a) (b:=a) ⟨oM,oM⟩;simp only[decide_true,beq_self_eq_true]at e;simp(disch:=omega)only[go_sem,yU,ckA,h1,e];.repeat first|exact(zX6 c.s 0 ⟨rfl,rfl⟩ rfl rfl)|refine⟨rfl,?_⟩
def qN1:ECt where
 α:=Ckr×Ses
 β:=St×Int
 aS:=λ(c,x)=>[.t (ckA c),.t (jS x)]
 pre:=λ(c,x)=>(vlP c/\c.s.a.lk.fa=0/\1<=c.s.a.lk.mx)/\x=qDq
 r:=λ(t,e)=>.tup [.t (stA t),.t (.int .i64 e)]
 R:=λ(c,x)(t,e)=>t=c.s/\e=0
 inj:=by rintro⟨c,x⟩ ⟨c',x'⟩ e _;simp only[qBa,qL2,jF0]at e;obtain⟨rfl,rfl⟩:=e;rfl
theorem jNc {g:EF qN1}{c:Ckr}{x:Ses}(hp:(vlP c/\c.s.a.lk.fa=0/\1<=c.s.a.lk.mx)/\x=qDq):∃(t:St)(e:Int),(t=c.s/\e=0)/\qN1.fs g [.t (ckA c),.t (jS x)] []=some (.tup [.t (stA t),.t (.int .i64 e)],[]):=by
 obtain⟨y,h1,h2⟩:=qN1.eq g (c,x) hp;exact⟨y.1,y.2,h1,h2⟩
theorem zX8 {c:Ckr}{x:Ses}(t:St)(e:Int)(hR:t=c.s/\e=0)(hV:vv=.tup [.t (stA t),.t (.int .i64 e)])(hO:oo=[]):qN1.K (c,x) vv oo:=⟨(t,e),hR,hV,hO⟩
theorem qFi {g1}(h1:LkE tab 185 qNz g1){g2}(h2:LkE tab 186 qKh g2){g3}(h3:LkE tab 187 qJ7 g3){g4}(h4:LkE tab 188 qKg g4)(c:Ckr)(x:Ses)(hp:(vlP c/\c.s.a.lk.fa=0/\1<=c.s.a.lk.mx)/\x=qDq) :
  yT.1.wp tab gl (qD 0 [.t (ckA c),.t (jS x)]) (qD 0 []) (qZ [(4,(some (30,true))),(5,none)] 0 (qN1.K (c,x))):=by
 obtain⟨⟨hV,hf,hm⟩,rfl⟩:=hp;have hV':=hV;obtain⟨he,hh,hq,ha⟩:=hV';obtain⟨b,rfl,c1⟩:=jNa (g:=g1) hV;obtain⟨b,rfl,c2⟩:=jDi (g:=g2) (c:=c) ⟨he,⟨oM,oM⟩,hf,hm⟩;obtain⟨v,ev,q3,c3⟩:=jCz (g:=g3) (s:=c.s) (h:=c.h) ⟨he,oM⟩;rw[qHa,if_pos oM]at q3;cases q3;obtain⟨t,e,⟨rfl,rfl⟩,c4⟩:=jDh (g:=g4) (c:=c) (a:=[]) (b:=[]) ⟨rfl,sM⟩;simp only[stA,ckA,ha,map_nil]at c1 c2 c3 c4;simp(maxSteps:=9^9)(disch:=try exact dS)only[go_sem,yT,ckA,jS,qDq,ha,h1,h2,h3,h4,c1,c2,c3,c4,map_nil];.repeat first|exact(zX8 c.s 0 ⟨rfl,rfl⟩ rfl rfl)|refine⟨rfl,?_⟩
end Go.Eng
end
