/- A part of an abstract machine, its walks, their tie. -/
import Derived.Test.YtlhjonbjbiafaaaGreatDoorU26
import Derived.Test.YtlhjonbjbiafaaaGreatDoorU22
import Derived.Test.YtlhjonbjbiafaaaGreatDoorU16
set_option linter.all false
section
set_option maxHeartbeats 64000000
set_option maxRecDepth 20000
namespace Go.Eng
variable (tab:Tab) (gl:Gl)
variable {vv:V} {oo:List Ob}
def sOb (x:Ses):Ob:= .live 8 [.t (jX x)] true true
theorem zEs {x y:Ses}(h:sOb x=sOb y):x=y:=by
 simp only[sOb,Ob.live.injEq,List.cons.injEq,V.t.injEq,zHq,true_and,and_true] at h;exact h
def zAt:Ct where
 α:=List UInt8×Ses
 aS x:=[.t (.sl (x.1.map qA)),.ref 0 0 0]
 ins x:=[sOb x.2]
 pre _:=True
 r x:= .t (.bool (decide (x.1=x.2.dg)))
 outs x:=[sOb x.2]
 inj:=by
  rintro⟨a,b⟩ ⟨c,d⟩ h h2;simp only[List.cons.injEq,V.t.injEq,T.sl.injEq,and_true,jB] at h h2;obtain rfl:=h;obtain rfl:=zEs h2;exact⟨rfl,rfl⟩
theorem zU8 {b:List UInt8}{x:Ses}:zAt.fs [.t (.sl (b.map qA)),.ref 0 0 0] [.live 8 [.t (jX x)] true true]=some (.t (.bool (decide (b=x.dg))),[.live 8 [.t (jX x)] true true]):=zAt.eq (b,x) trivial
theorem qQc (b:List UInt8)(x:Ses):qAu.1.wp tab gl (qF 0 [.t (.sl (b.map qA)),.ref 0 0 0]) (qF 0 [sOb x]) (zD [(3,none)] 1 (fun r o=>r = .t (.bool (decide (b=x.dg)))∧o=[sOb x])):=by
 simp(maxSteps:=9^9)(disch:=try exact dS)only[go_sem,qAu,sOb,jX]
def fdL (d:List UInt8):List (List UInt8)→Nat→Int
 | [],_ => -1
 | x::r,k=>if x=d then (k:Int) else fdL d r (k+1)
def zGl (n:Nat):Ct where
 α:=List (List UInt8)×Ses
 aS x:=[.t (.sl (x.1.map bsT)),.fn n [.ref 0 0 0]]
 ins x:=[sOb x.2]
 pre x:=x.1.length≤1000
 r x:= .t (.int .i64 (fdL x.2.dg x.1 0))
 outs x:=[sOb x.2]
 inj:=by
  rintro⟨a,b⟩ ⟨c,d⟩ h h2;simp only[List.cons.injEq,V.t.injEq,T.sl.injEq,and_true,qB1] at h h2;obtain rfl:=h;obtain rfl:=zEs h2;exact⟨rfl,rfl⟩
theorem jD1 {n:Nat}{l:List (List UInt8)}{x:Ses}(h:l.length≤1000):(zGl n).fs [.t (.sl (l.map bsT)),.fn n [.ref 0 0 0]] [.live 8 [.t (jX x)] true true]=some (.t (.int .i64 (fdL x.dg l 0)),[.live 8 [.t (jX x)] true true]):=(zGl n).eq (l,x) h
theorem qKa (n:Nat)(hn:tab.look n=some zAt.fs)(l:List (List UInt8))(x:Ses)(h:l.length≤1000):jE.1.wp tab gl (qF 0 [.t (.sl (l.map bsT)),.fn n [.ref 0 0 0]]) (qF 0 [sOb x]) (zD [(4,none)] 1 (fun r o=>r = .t (.int .i64 (fdL x.dg l 0))∧o=[sOb x])):=by
 simp(maxSteps:=9^9)(disch:=try exact dS)only[go_sem,jE,sOb];refine jV (σ:=Nat) (fun k=>k≤l.length∧fdL x.dg (l.drop k) k=fdL x.dg l 0) (fun k=>l.length-k) (fun k=>[(0,.t (.sl (l.map bsT))),(1,.fn n [.ref 0 0 0]),(7,.t (.int .i64 l.length)),(8,.t (.int .i64 k))]) (fun _=>[(0,.live 8 [.t (jX x)] true true)]) 0 ⟨oM,rfl⟩ (qJ.rd id ?_ ?_ rfl) ?_
 ·simp(maxSteps:=9^9)(disch:=try exact dS)only[go_sem,id]
 ·simp(maxSteps:=9^9)(disch:=try exact dS)only[go_sem,id]
 rintro k ⟨hk,hF⟩;by_cases hlt:k<l.length
 ·obtain⟨b,hg,hm,hd⟩:=qX hlt;rw[hd,fdL] at hF;by_cases c:b=x.dg
  ·rw[if_pos c] at hF;have e := @zU8 b x;rw[show decide (b=x.dg)=true by simpa using c] at e;simp only[jX] at e;simp(maxSteps:=9^9)(disch:=try exact dS)only[go_sem,jX,hlt,hg,oms,hn,e];exact hF
  ·rw[if_neg c] at hF;have e := @zU8 b x;rw[show decide (b=x.dg)=false by simpa using c] at e;simp only[jX] at e;simp(maxSteps:=9^9)(disch:=try exact dS)only[go_sem,jX,hlt,hg,oms,hn,e];refine qMg.of (k+1) ⟨oM,hF⟩ oM (qJ.rd id ?_ ?_ rfl);all_goals simp(maxSteps:=9^9)(disch:=try exact dS)only[go_sem,id,jX]
 ·rw[show l.drop k=[] from List.drop_eq_nil_of_le oM,fdL] at hF;have e:k=l.length:=oM;subst e;simp(maxSteps:=9^9)(disch:=try exact dS)only[go_sem,hlt];exact hF
def zGi (n:Nat):Ct where
 α:=List (List UInt8)×Ses
 aS x:=[.t (.sl (x.1.map bsT)),.fn n [.ref 0 0 0]]
 ins x:=[sOb x.2]
 pre x:=x.1.length≤1000
 r x:= .t (.bool (decide (0≤fdL x.2.dg x.1 0)))
 outs x:=[sOb x.2]
 inj:=by
  rintro⟨a,b⟩ ⟨c,d⟩ h h2;simp only[List.cons.injEq,V.t.injEq,T.sl.injEq,and_true,qB1] at h h2;obtain rfl:=h;obtain rfl:=zEs h2;exact⟨rfl,rfl⟩
theorem jCu {n:Nat}{l:List (List UInt8)}{x:Ses}(h:l.length≤1000):(zGi n).fs [.t (.sl (l.map bsT)),.fn n [.ref 0 0 0]] [.live 8 [.t (jX x)] true true]=some (.t (.bool (decide (0≤fdL x.dg l 0))),[.live 8 [.t (jX x)] true true]):=(zGi n).eq (l,x) h
theorem qG9 (n:Nat)(h1:tab.look 309=some (zGl n).fs)(l:List (List UInt8))(x:Ses)(h:l.length≤1000):zI.1.wp tab gl (qF 0 [.t (.sl (l.map bsT)),.fn n [.ref 0 0 0]]) (qF 0 [sOb x]) (zD [(4,none)] 1 (fun r o=>r = .t (.bool (decide (0≤fdL x.dg l 0)))∧o=[sOb x])):=by
 have e := @jD1 n l x h;simp only[jX] at e;by_cases c:0≤fdL x.dg l 0
 ·simp(maxSteps:=9^9)(disch:=try exact dS)only[go_sem,zI,sOb,jX,h1,e,c]
  trace_state
 ·simp(maxSteps:=9^9)(disch:=try exact dS)only[go_sem,zI,sOb,jX,h1,e,c]
  trace_state
def zF7 (a b:Int):Int:=IntKind.i64.wrap ((BitVec.ofInt 64 a &&& BitVec.ofInt 64 b).toNat:Int)
theorem jI0 {a b:Int}:qOw .and .i64 a .i64 b=some (.int .i64 (zF7 a b)):=rfl
theorem zLl {d:List UInt8} : ∀ {l:List (List UInt8)} {k:Nat},(0≤fdL d l k)=(d∈l)
 | [],k=>by simp[fdL]
 | x::r,k=>by
  rw[fdL];split
  ·rename_i h;subst h;simp
  ·rename_i h;rw[zLl (l:=r)];simp only[List.mem_cons,eq_iff_iff];exact⟨.inr,fun g=>g.resolve_left (fun e=>h e.symm)⟩
def zQj:Ct where
 α:=Bool×Bool×Int
 aS x:=[.t (.bool x.1),.ref 0 0 0,.ref 1 0 0]
 ins x:=[.live 1 [.t (.bool x.2.1)] true true,.live 1 [.t (.int .i64 x.2.2)] true true]
 pre _:=True
 r _:= .tup []
 outs x:=[.live 1 [.t (.bool x.2.1)] true true,.live 1 [.t (.int .i64 (if x.2.1=true∧x.1=false then 16 else x.2.2))] true true]
 inj:=by
  rintro⟨a,b,c⟩ ⟨d,e,f⟩ h h2;simp only[List.cons.injEq,V.t.injEq,T.bool.injEq,T.int.injEq,Ob.live.injEq,true_and,and_true] at h h2;obtain rfl:=h;obtain⟨rfl,rfl⟩:=h2;exact⟨rfl,rfl⟩
theorem zIx {a b:Bool}{c:Int}:zQj.fs [.t (.bool a),.ref 0 0 0,.ref 1 0 0] [.live 1 [.t (.bool b)] true true,.live 1 [.t (.int .i64 c)] true true]=some (.tup [],[.live 1 [.t (.bool b)] true true,.live 1 [.t (.int .i64 (if b=true∧a=false then 16 else c))] true true]):=zQj.eq (a,b,c) trivial
theorem qQb (a b:Bool)(c:Int):qAt.1.wp tab gl (qF 0 [.t (.bool a),.ref 0 0 0,.ref 1 0 0]) (qF 0 [.live 1 [.t (.bool b)] true true,.live 1 [.t (.int .i64 c)] true true]) (zD [] 2 (fun r o=>r = .tup []∧o=[.live 1 [.t (.bool b)] true true,.live 1 [.t (.int .i64 (if b=true∧a=false then 16 else c))] true true])):=by
 cases a<;>cases b;all_goals simp(maxSteps:=9^9)(disch:=try exact dS)only[go_sem,qAt]
def qA9 (s:St)(x:Ses):Av→Ses×Av×Int
 | .reg s0 s1 _=>(if x.kd=2 then { x with up:=s.u } else x,.reg s0 s1 (rgD s.bk s0 s1),0)
 | .loc n=>({ x with lo:=zF7 x.lo n },.loc n,0)
 | .cmd n=>({ x with cm:=n },.cmd n,0)
 | .aut=>({ x with av:=true },.aut,0)
 | .alt bs=>(x,.alt bs,if x.kd=2 ∧ ¬ x.dg∈bs then 16 else 0)
 | a=>(x,a,0)
def ckP (s:St)(x:Ses)(a:Av):Prop:=(x.kd=2∨x.kd=3)∧match a with
 | .reg _ _ _=>jIr s.bk a∧(x.up = -1∨x.up=s.u)
 | .loc _=>True
 | .cmd n=>x.cm=0∨x.cm=n
 | .aut=>True
 | .alt bs=>bs.length≤8
 | _=>False
def qLz:ECt where
 α:=St×Ses×Av
 β:=Ses×Av×Int
 aS:=fun (s,x,a)=>[.t (stA s),.t (jX x),.t (avA a)]
 pre:=fun (s,x,a)=>(RV s.bk∧0≤s.u)∧ckP s x a
 r:=fun (y,b,e)=> .tup [.t (jX y),.t (avA b),.t (.int .i64 e)]
 R:=fun (s,x,a) (y,b,e)=>(y,b,e)=qA9 s x a
 inj:=by rintro⟨s,x,a⟩ ⟨s',x',a'⟩ e _;simp only[qAf,qJ3,qRv] at e;obtain⟨rfl,rfl,rfl⟩:=e;rfl
theorem jFu {g:EF qLz}{s:St}{x:Ses}{a:Av}(hp:(RV s.bk∧0≤s.u)∧ckP s x a) : ∃ (y:Ses) (b:Av) (e:Int),((y,b,e)=qA9 s x a)∧qLz.fs g [.t (stA s),.t (jX x),.t (avA a)] []=some (.tup [.t (jX y),.t (avA b),.t (.int .i64 e)],[]):=by
 obtain⟨y,h1,h2⟩:=qLz.eq g (s,x,a) hp;exact⟨y.1,y.2.1,y.2.2,h1,h2⟩
theorem vT {s:St}{x:Ses}{a:Av}(y:Ses)(b:Av)(e:Int)(hR:(y,b,e)=qA9 s x a)(hV:vv = .tup [.t (jX y),.t (avA b),.t (.int .i64 e)])(hO:oo=[]):qLz.K (s,x,a) vv oo:=⟨(y,b,e),hR,hV,hO⟩
theorem qUv (h1:LkC tab 279 zQj){g2}(h2:LkE tab 280 qL1 g2)(h5:LkC tab 284 zAt)(h6:tab.look 283=some (zGi 284).fs)(s:St)(x:Ses)(a:Av)(hp:(RV s.bk∧0≤s.u)∧ckP s x a) :
  jI.1.wp tab gl (qF 0 [.t (stA s),.t (jX x),.t (avA a)]) (qF 0 []) (zD [(6,(some (8,true))),(7,(some (10,true))),(8,none)] 0 (qLz.K (s,x,a))):=by
 obtain⟨hv,hk,hc⟩:=hp;cases a with
 | reg s0 s1 d=>
  obtain⟨hq,hu⟩:=hc;obtain⟨y,b,e,⟨q1,q2,q3⟩,e1⟩:=jFw (g:=g2) (s:=s) (x:=x) (a:= .reg s0 s1 d) ⟨hv,hq,hu,hk⟩;obtain⟨m,hm,_⟩:=hq;cases hm;have q3:=q3 s1 rfl;subst q1 q3;have hF:qA9 s x (.reg 0 s1 [])=(y,.reg 0 s1 (rgD s.bk 0 s1),0):=by rw[qA9,q2]
  clear q2;generalize rgD s.bk 0 s1=d at *;simp only[stA,jX,avA,avL,List.map_nil] at e1;simp(maxSteps:=9^9)(disch:=try exact dS)only[go_sem,jI,stA,jX,avA,avL,h2,e1,List.map_nil];first | exact (vT y (.reg 0 s1 d) 0 hF.symm rfl rfl) | exact⟨rfl,(vT y (.reg 0 s1 d) 0 hF.symm rfl rfl)⟩ | exact⟨rfl,rfl,(vT y (.reg 0 s1 d) 0 hF.symm rfl rfl)⟩ | exact⟨rfl,rfl,rfl,(vT y (.reg 0 s1 d) 0 hF.symm rfl rfl)⟩
 | loc n=>
  simp(maxSteps:=9^9)(disch:=try exact dS)only[go_sem,jI,stA,jX,avA,avL,jI0,List.map_nil];first | exact (vT { x with lo:=zF7 x.lo n } (.loc n) 0 rfl rfl rfl) | exact⟨rfl,(vT { x with lo:=zF7 x.lo n } (.loc n) 0 rfl rfl rfl)⟩ | exact⟨rfl,rfl,(vT { x with lo:=zF7 x.lo n } (.loc n) 0 rfl rfl rfl)⟩ | exact⟨rfl,rfl,rfl,(vT { x with lo:=zF7 x.lo n } (.loc n) 0 rfl rfl rfl)⟩
 | aut=>
  simp(maxSteps:=9^9)(disch:=try exact dS)only[go_sem,jI,stA,jX,avA,avL,List.map_nil];first | exact (vT { x with av:=true } .aut 0 rfl rfl rfl) | exact⟨rfl,(vT { x with av:=true } .aut 0 rfl rfl rfl)⟩ | exact⟨rfl,rfl,(vT { x with av:=true } .aut 0 rfl rfl rfl)⟩ | exact⟨rfl,rfl,rfl,(vT { x with av:=true } .aut 0 rfl rfl rfl)⟩
 | cmd n=>
  obtain⟨kd,no,dg,up,lo,cm,dl,av⟩:=x;simp only at hk hc;have r1 := @zIx true true 0;have r2 := @zIx true false 0;rw[if_neg (by decide)] at r1 r2;by_cases c0:cm=0
  ·subst c0;rcases hk with rfl | rfl;all_goals simp(maxSteps:=9^9)(disch:=try exact dS)only[go_sem,jI,stA,jX,avA,avL,h1,r1,r2,List.map_nil]
   ·first | exact (vT ⟨2,no,dg,up,lo,n,dl,av⟩ (.cmd n) 0 rfl rfl rfl) | exact⟨rfl,(vT ⟨2,no,dg,up,lo,n,dl,av⟩ (.cmd n) 0 rfl rfl rfl)⟩ | exact⟨rfl,rfl,(vT ⟨2,no,dg,up,lo,n,dl,av⟩ (.cmd n) 0 rfl rfl rfl)⟩ | exact⟨rfl,rfl,rfl,(vT ⟨2,no,dg,up,lo,n,dl,av⟩ (.cmd n) 0 rfl rfl rfl)⟩
   ·first | exact (vT ⟨3,no,dg,up,lo,n,dl,av⟩ (.cmd n) 0 rfl rfl rfl) | exact⟨rfl,(vT ⟨3,no,dg,up,lo,n,dl,av⟩ (.cmd n) 0 rfl rfl rfl)⟩ | exact⟨rfl,rfl,(vT ⟨3,no,dg,up,lo,n,dl,av⟩ (.cmd n) 0 rfl rfl rfl)⟩ | exact⟨rfl,rfl,rfl,(vT ⟨3,no,dg,up,lo,n,dl,av⟩ (.cmd n) 0 rfl rfl rfl)⟩
  ·obtain rfl:cm=n:=hc.resolve_left c0;have c1:(cm==0)=false:=by simpa using c0
   rcases hk with rfl | rfl;all_goals simp(maxSteps:=9^9)(disch:=try exact dS)only[go_sem,jI,stA,jX,avA,avL,h1,r1,r2,c0,c1,beq_self_eq_true,List.map_nil]
   ·first | exact (vT ⟨2,no,dg,up,lo,cm,dl,av⟩ (.cmd cm) 0 rfl rfl rfl) | exact⟨rfl,(vT ⟨2,no,dg,up,lo,cm,dl,av⟩ (.cmd cm) 0 rfl rfl rfl)⟩ | exact⟨rfl,rfl,(vT ⟨2,no,dg,up,lo,cm,dl,av⟩ (.cmd cm) 0 rfl rfl rfl)⟩ | exact⟨rfl,rfl,rfl,(vT ⟨2,no,dg,up,lo,cm,dl,av⟩ (.cmd cm) 0 rfl rfl rfl)⟩
   ·first | exact (vT ⟨3,no,dg,up,lo,cm,dl,av⟩ (.cmd cm) 0 rfl rfl rfl) | exact⟨rfl,(vT ⟨3,no,dg,up,lo,cm,dl,av⟩ (.cmd cm) 0 rfl rfl rfl)⟩ | exact⟨rfl,rfl,(vT ⟨3,no,dg,up,lo,cm,dl,av⟩ (.cmd cm) 0 rfl rfl rfl)⟩ | exact⟨rfl,rfl,rfl,(vT ⟨3,no,dg,up,lo,cm,dl,av⟩ (.cmd cm) 0 rfl rfl rfl)⟩
 | alt bs=>
  obtain⟨kd,no,dg,up,lo,cm,dl,av⟩:=x;simp only at hk hc;have e1 := @jCu 284 bs ⟨kd,no,dg,up,lo,cm,dl,av⟩ oM;simp only[zLl] at e1;by_cases cm':dg∈bs
  ·have r1 := @zIx true true 0;have r2 := @zIx true false 0;rw[if_neg (by decide)] at r1 r2;simp only[cm',decide_true,jX] at e1;rcases hk with rfl | rfl;all_goals simp(maxSteps:=9^9)(disch:=try exact dS)only[go_sem,jI,stA,jX,avA,avL,h1,h6,r1,r2,e1,List.map_nil]
   ·first | exact (vT ⟨2,no,dg,up,lo,cm,dl,av⟩ (.alt bs) 0 (by rw[qA9,if_neg (by simp[cm'])]) rfl rfl) | exact⟨rfl,(vT ⟨2,no,dg,up,lo,cm,dl,av⟩ (.alt bs) 0 (by rw[qA9,if_neg (by simp[cm'])]) rfl rfl)⟩ | exact⟨rfl,rfl,(vT ⟨2,no,dg,up,lo,cm,dl,av⟩ (.alt bs) 0 (by rw[qA9,if_neg (by simp[cm'])]) rfl rfl)⟩ | exact⟨rfl,rfl,rfl,(vT ⟨2,no,dg,up,lo,cm,dl,av⟩ (.alt bs) 0 (by rw[qA9,if_neg (by simp[cm'])]) rfl rfl)⟩
   ·first | exact (vT ⟨3,no,dg,up,lo,cm,dl,av⟩ (.alt bs) 0 (by rw[qA9,if_neg sM]) rfl rfl) | exact⟨rfl,(vT ⟨3,no,dg,up,lo,cm,dl,av⟩ (.alt bs) 0 (by rw[qA9,if_neg sM]) rfl rfl)⟩ | exact⟨rfl,rfl,(vT ⟨3,no,dg,up,lo,cm,dl,av⟩ (.alt bs) 0 (by rw[qA9,if_neg sM]) rfl rfl)⟩ | exact⟨rfl,rfl,rfl,(vT ⟨3,no,dg,up,lo,cm,dl,av⟩ (.alt bs) 0 (by rw[qA9,if_neg sM]) rfl rfl)⟩
  ·have r1 := @zIx false true 0;have r2 := @zIx false false 0;rw[if_pos (by decide)] at r1;rw[if_neg (by decide)] at r2;simp only[cm',decide_false,jX] at e1;rcases hk with rfl | rfl;all_goals simp(maxSteps:=9^9)(disch:=try exact dS)only[go_sem,jI,stA,jX,avA,avL,h1,h6,r1,r2,e1,List.map_nil]
   ·first | exact (vT ⟨2,no,dg,up,lo,cm,dl,av⟩ (.alt bs) 16 (by rw[qA9,if_pos ⟨rfl,cm'⟩]) rfl rfl) | exact⟨rfl,(vT ⟨2,no,dg,up,lo,cm,dl,av⟩ (.alt bs) 16 (by rw[qA9,if_pos ⟨rfl,cm'⟩]) rfl rfl)⟩ | exact⟨rfl,rfl,(vT ⟨2,no,dg,up,lo,cm,dl,av⟩ (.alt bs) 16 (by rw[qA9,if_pos ⟨rfl,cm'⟩]) rfl rfl)⟩ | exact⟨rfl,rfl,rfl,(vT ⟨2,no,dg,up,lo,cm,dl,av⟩ (.alt bs) 16 (by rw[qA9,if_pos ⟨rfl,cm'⟩]) rfl rfl)⟩
   ·first | exact (vT ⟨3,no,dg,up,lo,cm,dl,av⟩ (.alt bs) 0 (by rw[qA9,if_neg sM]) rfl rfl) | exact⟨rfl,(vT ⟨3,no,dg,up,lo,cm,dl,av⟩ (.alt bs) 0 (by rw[qA9,if_neg sM]) rfl rfl)⟩ | exact⟨rfl,rfl,(vT ⟨3,no,dg,up,lo,cm,dl,av⟩ (.alt bs) 0 (by rw[qA9,if_neg sM]) rfl rfl)⟩ | exact⟨rfl,rfl,rfl,(vT ⟨3,no,dg,up,lo,cm,dl,av⟩ (.alt bs) 0 (by rw[qA9,if_neg sM]) rfl rfl)⟩
 | idx _ _ _=>exact hc.elim
 | apr _ _=>exact hc.elim
def asF (s:St)(h:Int)(a:Av):St×Int:=
 let x:=(qJx s h).2.1
 if (qA9 s x a).2.2=0 then (exS s (qJx s h).1 (qA9 s x a).1 (qA9 s x a).2.1,0) else (default,(qA9 s x a).2.2)
def fmP:Av→Prop
 | .reg s0 s1 d=>s0=0∧(0≤s1∧s1≤65535)∧d=[]
 | .apr _ _=>False
 | .idx _ _ _=>False
 | a=>a.Ok
theorem zWh {s:St}{x:Ses}{a:Av}(h:fmP a):(qA9 s x a).2.1.Ok∧(qA9 s x a).1.dg=x.dg:=by
 cases a with
 | reg s0 s1 d=>
  obtain⟨rfl,h1,_⟩:=h;refine⟨⟨oM,h1,qW2⟩,?_⟩;simp only[qA9];split<;>rfl
 | loc n=>exact⟨h,rfl⟩
 | cmd n=>exact⟨h,rfl⟩
 | aut=>exact⟨h,rfl⟩
 | alt bs=>exact⟨h,rfl⟩
 | idx _ _ _=>exact h.elim
 | apr _ _=>exact h.elim
def qLy:ECt where
 α:=St×Int×Av
 β:=St×Int
 aS:=fun (s,h,a)=>[.t (stA s),.t (.int .i64 h),.t (avA a)]
 pre:=fun (s,h,a)=>(RV s.bk∧0≤s.u)∧(s.ses.length=3∧tmI h)∧(qJx s h).2.2=true∧fmP a∧ckP s (qJx s h).2.1 a∧(qJx s h).2.1.dg.length=32
 r:=fun (t,e)=> .tup [.t (stA t),.t (.int .i64 e)]
 R:=fun (s,h,a) (t,e)=>(t,e)=asF s h a
 inj:=by rintro⟨s,h,a⟩ ⟨s',h',a'⟩ e _;simp only[qAf,qJ3,qRv] at e;obtain⟨rfl,rfl,rfl⟩:=e;rfl
theorem jFt {g:EF qLy}{s:St}{h:Int}{a:Av}(hp:(RV s.bk∧0≤s.u)∧(s.ses.length=3∧tmI h)∧(qJx s h).2.2=true∧fmP a∧ckP s (qJx s h).2.1 a∧(qJx s h).2.1.dg.length=32) : ∃ (t:St) (e:Int),((t,e)=asF s h a)∧qLy.fs g [.t (stA s),.t (.int .i64 h),.t (avA a)] []=some (.tup [.t (stA t),.t (.int .i64 e)],[]):=by
 obtain⟨y,h1,h2⟩:=qLy.eq g (s,h,a) hp;exact⟨y.1,y.2,h1,h2⟩
theorem qCz {s:St}{h:Int}{a:Av}(t:St)(e:Int)(hR:(t,e)=asF s h a)(hV:vv = .tup [.t (stA t),.t (.int .i64 e)])(hO:oo=[]):qLy.K (s,h,a) vv oo:=⟨(t,e),hR,hV,hO⟩
theorem jE3 {s:St}{h k:Int}{x:Ses}(e:(k,x,true)=qJx s h):k=h-768∧0≤k∧k≤2∧x=s.ses.getD k.toNat qB5∧(x.kd=2∨x.kd=3):=by
 unfold qJx at e;simp only[Prod.mk.injEq] at e;obtain⟨e1,e2,e3⟩:=e;have e3:=e3.symm;simp only[Bool.and_eq_true,Bool.or_eq_true,decide_eq_true_eq] at e3;have e4:(k,x,true)=qBw s h:=by rw[e1,e2];exact Prod.ext rfl (Prod.ext rfl e3.1.symm)
 obtain⟨q1,q2,q3,q4⟩:=zWi e4;exact⟨q1,q2,q3,q4,by rw[e2];exact e3.2⟩
theorem qRe {g1}(h1:LkE tab 189 qL3 g1)(h2:LkC tab 245 qS3){g3}(h3:LkE tab 218 qIu g3){g4}(h4:LkE tab 246 qLz g4){g5}(h5:LkE tab 192 qIw g5)(s:St)(h:Int)(a:Av)(hp:(RV s.bk∧0≤s.u)∧(s.ses.length=3∧tmI h)∧(qJx s h).2.2=true∧fmP a∧ckP s (qJx s h).2.1 a∧(qJx s h).2.1.dg.length=32) :
  jM.1.wp tab gl (qF 0 [.t (stA s),.t (.int .i64 h),.t (avA a)]) (qF 0 []) (zD [(6,(some (30,true))),(7,none)] 0 (qLy.K (s,h,a))):=by
 obtain⟨hv,hl,hb,hf,hc,hd⟩:=hp;obtain⟨k,x,b,e,e1⟩:=jFz (g:=g1) (s:=s) (h:=h) hl;have hx:(qJx s h).2.1=x:=by rw[←e]
 have hb':b=true:=by rw[←e] at hb;exact hb
 subst hb';obtain⟨k1,k2,k3,k4,k5⟩:=jE3 e;rw[hx] at hc hd;obtain⟨y,c,er,hR,e4⟩:=jFu (g:=g4) (s:=s) (x:=x) (a:=a) ⟨hv,hc⟩;have ok:=zWh (s:=s) (x:=x) hf;rw[←hR] at ok;have e5:=jFx (g:=g5) (s:=s) (k:=k) (x:=y) (a:=c) ⟨hl.1,⟨k2,k3⟩,by rw[ok.2];exact hd,ok.1⟩;have hK : ∀ t e',(t,e')=(if er=0 then (exS s k y c,0) else (default,er))→(t,e')=asF s h a:=by
  intro t e' h';have h1:(qJx s h).1=k:=by rw[←e]
  rw[h'];simp only[asF,hx,h1,←hR]
 clear ok hb hx;have st:=zNb;cases a
 case reg s0 s1 d=>
  obtain⟨rfl,hs1,rfl⟩:=hf;have pk:=qWz (g:=g3) (a:= .reg 0 s1 z32) ⟨oM,hs1,qAd⟩;have tz:List.take 32 z32=z32:=rfl;simp only[qA9,Prod.mk.injEq] at hR;obtain⟨_,rfl,rfl⟩:=hR;generalize rgD s.bk 0 s1=d at *;simp only[stA,jX,avA,avL,List.map_nil] at e1 e4 e5 pk;simp(maxSteps:=9^9)(disch:=try exact dS)only[go_sem,jM,stA,jX,avA,avL,h1,h2,h3,h4,h5,e1,e4,e5,pk,st,tz,qAd,List.map_nil];first | exact (qCz (exS s k y (.reg 0 s1 d)) 0 (hK _ _ rfl) rfl rfl) | exact⟨rfl,(qCz (exS s k y (.reg 0 s1 d)) 0 (hK _ _ rfl) rfl rfl)⟩ | exact⟨rfl,rfl,(qCz (exS s k y (.reg 0 s1 d)) 0 (hK _ _ rfl) rfl rfl)⟩ | exact⟨rfl,rfl,rfl,(qCz (exS s k y (.reg 0 s1 d)) 0 (hK _ _ rfl) rfl rfl)⟩
 case idx=>exact hf.elim
 case apr=>exact hf.elim
 case alt bs=>
  have pk:=qWz (g:=g3) (a:= .alt bs) hf;simp only[qA9,Prod.mk.injEq] at hR;obtain⟨_,rfl,hr⟩:=hR;clear hc;simp only[stA,jX,avA,avL,List.map_nil] at e1 e4 e5 pk;by_cases c0:er=0
  ·subst c0;simp(maxSteps:=9^9)(disch:=try exact dS)only[go_sem,jM,stA,jX,avA,avL,h1,h2,h3,h4,h5,e1,e4,e5,pk,st,List.map_nil];first | exact (qCz (exS s k y (.alt bs)) 0 (hK _ _ rfl) rfl rfl) | exact⟨rfl,(qCz (exS s k y (.alt bs)) 0 (hK _ _ rfl) rfl rfl)⟩ | exact⟨rfl,rfl,(qCz (exS s k y (.alt bs)) 0 (hK _ _ rfl) rfl rfl)⟩ | exact⟨rfl,rfl,rfl,(qCz (exS s k y (.alt bs)) 0 (hK _ _ rfl) rfl rfl)⟩
  ·simp(maxSteps:=9^9)(disch:=try exact dS)only[go_sem,jM,stA,jX,avA,avL,h1,h2,h3,h4,h5,e1,e4,e5,pk,st,c0,List.map_nil];first | exact (qCz default er (hK _ _ (by rw[if_neg c0])) rfl rfl) | exact⟨rfl,(qCz default er (hK _ _ (by rw[if_neg c0])) rfl rfl)⟩ | exact⟨rfl,rfl,(qCz default er (hK _ _ (by rw[if_neg c0])) rfl rfl)⟩ | exact⟨rfl,rfl,rfl,(qCz default er (hK _ _ (by rw[if_neg c0])) rfl rfl)⟩
 case aut=>
  have pk:=qWz (g:=g3) (a:= .aut) hf;simp only[qA9,Prod.mk.injEq] at hR;obtain⟨_,rfl,rfl⟩:=hR;simp only[stA,jX,avA,avL,List.map_nil] at e1 e4 e5 pk;simp(maxSteps:=9^9)(disch:=try exact dS)only[go_sem,jM,stA,jX,avA,avL,h1,h2,h3,h4,h5,e1,e4,e5,pk,st,List.map_nil];first | exact (qCz (exS s k y .aut) 0 (hK _ _ rfl) rfl rfl) | exact⟨rfl,(qCz (exS s k y .aut) 0 (hK _ _ rfl) rfl rfl)⟩ | exact⟨rfl,rfl,(qCz (exS s k y .aut) 0 (hK _ _ rfl) rfl rfl)⟩ | exact⟨rfl,rfl,rfl,(qCz (exS s k y .aut) 0 (hK _ _ rfl) rfl rfl)⟩
 case loc n=>
  have pk:=qWz (g:=g3) (a:= .loc n) hf;simp only[qA9,Prod.mk.injEq] at hR;obtain⟨_,rfl,rfl⟩:=hR;simp only[stA,jX,avA,avL,List.map_nil] at e1 e4 e5 pk;simp(maxSteps:=9^9)(disch:=try exact dS)only[go_sem,jM,stA,jX,avA,avL,h1,h2,h3,h4,h5,e1,e4,e5,pk,st,List.map_nil];first | exact (qCz (exS s k y (.loc n)) 0 (hK _ _ rfl) rfl rfl) | exact⟨rfl,(qCz (exS s k y (.loc n)) 0 (hK _ _ rfl) rfl rfl)⟩ | exact⟨rfl,rfl,(qCz (exS s k y (.loc n)) 0 (hK _ _ rfl) rfl rfl)⟩ | exact⟨rfl,rfl,rfl,(qCz (exS s k y (.loc n)) 0 (hK _ _ rfl) rfl rfl)⟩
 case cmd n=>
  have pk:=qWz (g:=g3) (a:= .cmd n) hf;simp only[qA9,Prod.mk.injEq] at hR;obtain⟨_,rfl,rfl⟩:=hR;clear hc;simp only[stA,jX,avA,avL,List.map_nil] at e1 e4 e5 pk;simp(maxSteps:=9^9)(disch:=try exact dS)only[go_sem,jM,stA,jX,avA,avL,h1,h2,h3,h4,h5,e1,e4,e5,pk,st,List.map_nil];first | exact (qCz (exS s k y (.cmd n)) 0 (hK _ _ rfl) rfl rfl) | exact⟨rfl,(qCz (exS s k y (.cmd n)) 0 (hK _ _ rfl) rfl rfl)⟩ | exact⟨rfl,rfl,(qCz (exS s k y (.cmd n)) 0 (hK _ _ rfl) rfl rfl)⟩ | exact⟨rfl,rfl,rfl,(qCz (exS s k y (.cmd n)) 0 (hK _ _ rfl) rfl rfl)⟩
inductive Cm where
 | up
 | ev (i:Int) (d:List UInt8)
 | op (k:Int)
 | po (h:Int) (a:Av)
 | pd (h:Int)
 | pr (h:Int) (po au da:List UInt8)
 | un (h s:Int) (v:List UInt8)
 | df
 | ic
 | ap (h:Int) (k r g:List UInt8)
 deriving Inhabited
def avN (h:Int):Av→List Int
 | .reg s0 s1 _=>[h,1,s0,s1,0,0]
 | .loc n=>[h,2,0,0,n,0]
 | .cmd n=>[h,3,0,0,n,0]
 | .idx o _ _=>[h,4,0,0,257,o]
 | .aut=>[h,7,0,0,0,0]
 | .alt _=>[h,8,0,0,0,0]
 | .apr _ _=>[h,9,0,0,0,0]
def avB:Av→List (List UInt8)
 | .reg _ _ d=>[d]
 | .idx _ od _=>[od]
 | .alt bs=>bs
 | _=>[]
def qC:Cm→Rq
 | .up=>⟨1,[],[],[0],[]⟩
 | .ev i d=>⟨7,[],[],[i],[d]⟩
 | .op k=>⟨16,[],[],[k],[]⟩
 | .po h a=>⟨17,[],[],avN h a,avB a⟩
 | .pd h=>⟨20,[],[],[h],[]⟩
 | .pr h p au da=>⟨9,[h],[⟨0,[],[]⟩],[3,0,0],[p,au,da]⟩
 | .un h s v=>⟨13,[h],[⟨s,[],v⟩],[],[]⟩
 | .df=>⟨21,[1],[⟨0,[],[]⟩],[1,2,48,8],[[],[]]⟩
 | .ic=>⟨25,[1,257],[⟨0,[],[]⟩],[],[]⟩
 | .ap h k r g=>⟨19,[],[],[h],[k,r,g]⟩
def Cm.Ok:Cm→Prop
 | .up=>True
 | .ev i d=>(0≤i∧i≤15)∧d.length≤100
 | .op k=>2≤k∧k≤3
 | .po h a=>tmI h∧match a with
  | .reg s0 s1 d=>s0=0∧(0≤s1∧s1≤65535)∧d=[]
  | .loc n=>1≤n∧n≤31
  | .cmd n=>n=13
  | .idx o od nm=>o=2∧od.length=8∧nm=[]
  | .aut=>True
  | .alt bs=>(2≤bs.length∧bs.length≤3) ∧ ∀ b∈bs,b.length=32
  | .apr _ _=>False
 | .pd h=>tmI h
 | .pr h p au da=>(0≤h∧h≤2)∧p.length=32∧au.length≤32∧da.length≤60
 | .un h s v=>(0≤h∧h≤65535)∧(0≤s∧s≤65535)∧v.length≤32
 | .df=>True
 | .ic=>True
 | .ap h k r g=>tmI h∧k.length≤200∧r.length≤60∧g.length≤1000
structure St.En (s:St):Prop where
 au:s.a.au=[[],[],[],[]]
 ix:s.a.ix=[] ∨ ∃ w d,s.a.ix=[cnI w d]∧d.length=8
 obs:s.obs.length=3 ∧ ∀ x∈s.obs,x.Se
theorem St.Tp.en {s:St}(h:s.Tp):s.En:=⟨h.a.au,h.a.ix,h.obs⟩
def qHj (s:St)(h:Int):Fo×Int:=
 if 0≤h∧h≤3 then (⟨hnF h,[],[],false⟩,0)
 else if (qX8 s h).2=0 then (⟨inF (s.a.ix.getD (qX8 s h).1.toNat default),[],[],true⟩,0)
 else if (qA5 s h).2=0 then (⟨qYi (qA5 s h).1.p.po (qA5 s h).1.p.un,(qA5 s h).1.s.au,(qA5 s h).1.p.po,true⟩,0)
 else (default,7)
theorem zLj {s:St}(e:s.obs.length=3 ∧ ∀ x∈s.obs,x.Se){h:Int}(h0:(qA5 s h).2=0) : ∃ po un au sd da hh,(qA5 s h).1=⟨⟨3,0,0,po,un⟩,⟨au,sd,da⟩,hh⟩∧po.length=32∧un.length=32∧au.length≤32∧da.length≤128:=by
 unfold qA5 at *;split
 ·rw[if_pos ‹_›] at h0;cases h0
 rename_i c;rw[if_neg c] at h0;split
 ·rw[if_pos ‹_›] at h0;cases h0
 rename_i c2;have hn:(h-512).toNat<s.obs.length:=oM;have hm:s.obs.getD (h-512).toNat default∈s.obs:=by
  rw[List.getD_eq_getElem?_getD,List.getElem?_eq_getElem hn];exact List.getElem_mem hn
 have hs:=e.2 _ hm;generalize s.obs.getD (h-512).toNat default=x at *;obtain⟨⟨kd,ar,ht,po,un⟩,⟨au,sd,da⟩,hh⟩:=x;obtain⟨hd | ⟨q1,q2,q3,q4,q5⟩,q6,q7⟩:=hs
 ·rw[hd] at c2;exact absurd rfl c2
 ·refine⟨po,un,au,sd,da,hh,?_,q4,q5,q6,q7⟩;rw[show kd=3 from q1,show ar=0 from q2,show ht=0 from q3]
theorem zAy {s:St}(e:s.a.ix=[] ∨ ∃ w d,s.a.ix=[cnI w d]∧d.length=8){h:Int}(h0:(qX8 s h).2=0):h=257∧(qX8 s h).1=0 ∧ ∃ w d,s.a.ix=[cnI w d]∧d.length=8:=by
 rcases e with e | ⟨w,d,e,hd⟩
 ·simp[qX8,e,ixP] at h0
 ·have hI:ixP s.a.ix h 0=if h=257 then 0 else -1:=by rw[e];simp only[ixP,cnI];by_cases c:h=257<;>simp[c]
  by_cases c:h=257
  ·rw[if_pos c] at hI;exact⟨c,by rw[qX8,hI];rfl,w,d,e,hd⟩
  ·rw[if_neg c] at hI;rw[qX8,hI] at h0;cases h0
theorem qRx {s:St}(e:s.En):s.a.ix.length≤6 ∧ ∀ x∈s.a.ix,0≤x.n∧x.n≤255:=by
 rcases e.ix with e | ⟨w,d,e,hd⟩
 ·simp[e]
 ·rw[e];refine⟨sM,fun x hx=>?_⟩;obtain rfl:=List.mem_singleton.1 hx;simp[cnI]
theorem jP1:qOw .and .i64 48 .i64 64=some (.int .i64 0):=rfl
theorem jQi:qOw .and .i64 0 .i64 2=some (.int .i64 0):=rfl
def qE7:ECt where
 α:=St×Int
 β:=Fo×Int
 aS:=fun (s,h)=>[.t (stA s),.t (.int .i64 h)]
 pre:=fun (s,h)=>s.En∧tmI h
 r:=fun (x,e)=> .tup [.t (foA x),.t (.int .i64 e)]
 R:=fun (s,h) (x,e)=>(x,e)=qHj s h
theorem zGw {g:EF qE7}{s:St}{h:Int}(hp:s.En∧tmI h) : ∃ (x:Fo) (e:Int),((x,e)=qHj s h)∧qE7.fs g [.t (stA s),.t (.int .i64 h)] []=some (.tup [.t (foA x),.t (.int .i64 e)],[]):=by
 obtain⟨y,h1,h2⟩:=qE7.eq g (s,h) hp;exact⟨y.1,y.2,h1,h2⟩
theorem qJ2 {s:St}{h:Int}(x:Fo)(e:Int)(hR:(x,e)=qHj s h)(hV:vv = .tup [.t (foA x),.t (.int .i64 e)])(hO:oo=[]):qE7.K (s,h) vv oo:=⟨(x,e),hR,hV,hO⟩
theorem qZj {g1}(h1:LkE tab 143 qE8 g1){g2}(h2:LkE tab 142 qE9 g2){g3}(h3:LkE tab 240 qLa g3){g4}(h4:LkE tab 186 qIm g4)(h5:LkC tab 193 qS2)(s:St)(h:Int)(hp:s.En∧tmI h) :
  wW.1.wp tab gl (qF 0 [.t (stA s),.t (.int .i64 h)]) (qF 0 []) (zD [(4,(some (4,true))),(5,none)] 0 (qE7.K (s,h))):=by
 obtain⟨he,ht⟩:=hp;obtain⟨i,ei,q1,c1⟩:=zVg (g:=g1) (s:=s) (h:=h) ⟨(qRx he).1,(qRx he).2,ht⟩;obtain⟨x,ex,q2,c2⟩:=zGy (g:=g2) (s:=s) (h:=h) ⟨he.obs.1,ht⟩;have k1:(qX8 s h).2=ei:=by rw[←q1]
 have k2:(qA5 s h).2=ex:=by rw[←q2]
 have k3:(qA5 s h).1=x:=by rw[←q2]
 by_cases d0:0≤h∧h≤3
 ·have c3:=jDo (g:=g3) d0;obtain⟨n,rfl⟩:=Int.eq_ofNat_of_zero_le d0.1;have hg:s.a.au[n]?=some []:=by
   rw[he.au];rcases (by omega:n=0∨n=1∨n=2∨n=3) with rfl | rfl | rfl | rfl<;>rfl
  have hl:s.a.au.length=4:=by rw[he.au];rfl
  have hF:qHj s n=(⟨hnF n,[],[],false⟩,0):=by rw[qHj,if_pos d0]
  simp only[stA,qBv] at c1 c2;simp(maxSteps:=9^9)(disch:=try exact dS)only[go_sem,wW,stA,qBv,h1,h2,h3,c1,c2,c3,d0,hl,hg,oms];first | exact (qJ2 ⟨hnF n,[],[],false⟩ 0 hF.symm rfl rfl) | exact⟨rfl,(qJ2 ⟨hnF n,[],[],false⟩ 0 hF.symm rfl rfl)⟩ | exact⟨rfl,rfl,(qJ2 ⟨hnF n,[],[],false⟩ 0 hF.symm rfl rfl)⟩ | exact⟨rfl,rfl,rfl,(qJ2 ⟨hnF n,[],[],false⟩ 0 hF.symm rfl rfl)⟩
 have hb:3<h:=oM;by_cases d1:ei=0
 ·subst d1;obtain⟨rfl,hi,w,d,hix,hd⟩:=zAy he.ix k1;have ki:i=0:=by rw[←hi,←q1]
  subst ki;have c4:=jD2 (g:=g4) (x:=cnI w d) (by simp[cnI]);have hF:qHj s 257=(⟨inF (cnI w d),[],[],true⟩,0):=by rw[qHj,if_neg d0,if_pos k1,hi,hix];rfl
  simp only[stA,hix,ixA,cnI,qBv,mcn] at c1 c2 c4;simp(maxSteps:=9^9)(disch:=try exact dS)only[go_sem,wW,stA,qBv,hix,ixA,cnI,h1,h2,h4,c1,c2,c4,jP1,mcn];first | exact (qJ2 ⟨inF (cnI w d),[],[],true⟩ 0 hF.symm rfl rfl) | exact⟨rfl,(qJ2 ⟨inF (cnI w d),[],[],true⟩ 0 hF.symm rfl rfl)⟩ | exact⟨rfl,rfl,(qJ2 ⟨inF (cnI w d),[],[],true⟩ 0 hF.symm rfl rfl)⟩ | exact⟨rfl,rfl,rfl,(qJ2 ⟨inF (cnI w d),[],[],true⟩ 0 hF.symm rfl rfl)⟩
 by_cases d2:ex=0
 ·subst d2;obtain⟨po,un,au,sd,da,hh,hx,l1,l2,l3,l4⟩:=zLj he.obs k2;have c5:=zM8 (p:=po) (u:=un) ⟨l1,l2⟩;have hF:qHj s h=(⟨qYi po un,au,po,true⟩,0):=by rw[qHj,if_neg d0,if_neg (by rw[k1];exact d1),if_pos k2,hx]
  rw[k3] at hx;subst hx;simp only[stA,qBv] at c1 c2;simp(maxSteps:=9^9)(disch:=try exact dS)only[go_sem,wW,stA,qBv,h1,h2,h5,c1,c2,c5,d1,jQi,jP1];first | exact (qJ2 ⟨qYi po un,au,po,true⟩ 0 hF.symm rfl rfl) | exact⟨rfl,(qJ2 ⟨qYi po un,au,po,true⟩ 0 hF.symm rfl rfl)⟩ | exact⟨rfl,rfl,(qJ2 ⟨qYi po un,au,po,true⟩ 0 hF.symm rfl rfl)⟩ | exact⟨rfl,rfl,rfl,(qJ2 ⟨qYi po un,au,po,true⟩ 0 hF.symm rfl rfl)⟩
 ·have hF:qHj s h=(default,7):=by rw[qHj,if_neg d0,if_neg (by rw[k1];exact d1),if_neg (by rw[k2];exact d2)]
  simp only[stA,qBv] at c1 c2;simp(maxSteps:=9^9)(disch:=try exact dS)only[go_sem,wW,stA,qBv,h1,h2,c1,c2,d1,d2];first | exact (qJ2 default 7 hF.symm rfl rfl) | exact⟨rfl,(qJ2 default 7 hF.symm rfl rfl)⟩ | exact⟨rfl,rfl,(qJ2 default 7 hF.symm rfl rfl)⟩ | exact⟨rfl,rfl,rfl,(qJ2 default 7 hF.symm rfl rfl)⟩
def qGi:ECt where
 α:=St×Int
 β:=List UInt8×Int
 aS:=fun (s,h)=>[.t (stA s),.t (.int .i64 h)]
 pre:=fun (s,h)=>s.En∧tmI h
 r:=fun (x,e)=> .tup [.t (.sl (x.map qA)),.t (.int .i64 e)]
 R:=fun (s,h) (x,e)=>(x,e)=((qHj s h).1.nm,(qHj s h).2)
theorem zVe {g:EF qGi}{s:St}{h:Int}(hp:s.En∧tmI h) : ∃ (x:List UInt8) (e:Int),((x,e)=((qHj s h).1.nm,(qHj s h).2))∧qGi.fs g [.t (stA s),.t (.int .i64 h)] []=some (.tup [.t (.sl (x.map qA)),.t (.int .i64 e)],[]):=by
 obtain⟨y,h1,h2⟩:=qGi.eq g (s,h) hp;exact⟨y.1,y.2,h1,h2⟩
theorem zQo {s:St}{h:Int}(x:List UInt8)(e:Int)(hR:(x,e)=((qHj s h).1.nm,(qHj s h).2))(hV:vv = .tup [.t (.sl (x.map qA)),.t (.int .i64 e)])(hO:oo=[]):qGi.K (s,h) vv oo:=⟨(x,e),hR,hV,hO⟩
def qIl:ECt where
 α:=St×Int
 β:=List UInt8×Int
 aS:=fun (s,h)=>[.t (stA s),.t (.int .i64 h)]
 pre:=fun (s,h)=>s.En∧tmI h
 r:=fun (x,e)=> .tup [.t (.sl (x.map qA)),.t (.int .i64 e)]
 R:=fun (s,h) (x,e)=>(x,e)=((qHj s h).1.va,(qHj s h).2)
theorem zVf {g:EF qIl}{s:St}{h:Int}(hp:s.En∧tmI h) : ∃ (x:List UInt8) (e:Int),((x,e)=((qHj s h).1.va,(qHj s h).2))∧qIl.fs g [.t (stA s),.t (.int .i64 h)] []=some (.tup [.t (.sl (x.map qA)),.t (.int .i64 e)],[]):=by
 obtain⟨y,h1,h2⟩:=qIl.eq g (s,h) hp;exact⟨y.1,y.2,h1,h2⟩
theorem zQr {s:St}{h:Int}(x:List UInt8)(e:Int)(hR:(x,e)=((qHj s h).1.va,(qHj s h).2))(hV:vv = .tup [.t (.sl (x.map qA)),.t (.int .i64 e)])(hO:oo=[]):qIl.K (s,h) vv oo:=⟨(x,e),hR,hV,hO⟩
def qK9:ECt where
 α:=St×Int
 β:=List UInt8×Int
 aS:=fun (s,h)=>[.t (stA s),.t (.int .i64 h)]
 pre:=fun (s,h)=>s.En∧tmI h
 r:=fun (x,e)=> .tup [.t (.sl (x.map qA)),.t (.int .i64 e)]
 R:=fun (s,h) (x,e)=>(x,e)=((qHj s h).1.po,(qHj s h).2)
theorem jDc {g:EF qK9}{s:St}{h:Int}(hp:s.En∧tmI h) : ∃ (x:List UInt8) (e:Int),((x,e)=((qHj s h).1.po,(qHj s h).2))∧qK9.fs g [.t (stA s),.t (.int .i64 h)] []=some (.tup [.t (.sl (x.map qA)),.t (.int .i64 e)],[]):=by
 obtain⟨y,h1,h2⟩:=qK9.eq g (s,h) hp;exact⟨y.1,y.2,h1,h2⟩
theorem zQp {s:St}{h:Int}(x:List UInt8)(e:Int)(hR:(x,e)=((qHj s h).1.po,(qHj s h).2))(hV:vv = .tup [.t (.sl (x.map qA)),.t (.int .i64 e)])(hO:oo=[]):qK9.K (s,h) vv oo:=⟨(x,e),hR,hV,hO⟩
def qIk:ECt where
 α:=St×Int
 β:=Bool
 aS:=fun (s,h)=>[.t (stA s),.t (.int .i64 h)]
 pre:=fun (s,h)=>s.En∧tmI h
 r:=fun r'=> .t (.bool r')
 R:=fun (s,h) r'=>r'=(qHj s h).1.pr
theorem jDd {g:EF qIk}{s:St}{h:Int}(hp:s.En∧tmI h):qIk.fs g [.t (stA s),.t (.int .i64 h)] []=some (.t (.bool ((qHj s h).1.pr)),[]):=fnQ qIk (s,h) hp
theorem zQq {s:St}{h:Int}(hV:vv = .t (.bool ((qHj s h).1.pr)))(hO:oo=[]):qIk.K (s,h) vv oo:=⟨_,rfl,hV,hO⟩
theorem qZi {g1}(h1:LkE tab 176 qE7 g1)(s:St)(h:Int)(hp:s.En∧tmI h) :
  qEr.1.wp tab gl (qF 0 [.t (stA s),.t (.int .i64 h)]) (qF 0 []) (zD [(4,none),(5,none)] 0 (qGi.K (s,h))):=by
 obtain⟨x,e,q,c⟩:=zGw (g:=g1) hp;simp only[stA,foA] at c;simp(maxSteps:=9^9)(disch:=try exact dS)only[go_sem,qEr,stA,h1,c];first | exact (zQo x.nm e (by rw[←q]) rfl rfl) | exact⟨rfl,(zQo x.nm e (by rw[←q]) rfl rfl)⟩ | exact⟨rfl,rfl,(zQo x.nm e (by rw[←q]) rfl rfl)⟩ | exact⟨rfl,rfl,rfl,(zQo x.nm e (by rw[←q]) rfl rfl)⟩
theorem qVp {g1}(h1:LkE tab 176 qE7 g1)(s:St)(h:Int)(hp:s.En∧tmI h) :
  qDa.1.wp tab gl (qF 0 [.t (stA s),.t (.int .i64 h)]) (qF 0 []) (zD [(4,none),(5,none)] 0 (qIl.K (s,h))):=by
 obtain⟨x,e,q,c⟩:=zGw (g:=g1) hp;simp only[stA,foA] at c;simp(maxSteps:=9^9)(disch:=try exact dS)only[go_sem,qDa,stA,h1,c];first | exact (zQr x.va e (by rw[←q]) rfl rfl) | exact⟨rfl,(zQr x.va e (by rw[←q]) rfl rfl)⟩ | exact⟨rfl,rfl,(zQr x.va e (by rw[←q]) rfl rfl)⟩ | exact⟨rfl,rfl,rfl,(zQr x.va e (by rw[←q]) rfl rfl)⟩
theorem qUm {g1}(h1:LkE tab 176 qE7 g1)(s:St)(h:Int)(hp:s.En∧tmI h) :
  qCd.1.wp tab gl (qF 0 [.t (stA s),.t (.int .i64 h)]) (qF 0 []) (zD [(4,none),(5,none)] 0 (qK9.K (s,h))):=by
 obtain⟨x,e,q,c⟩:=zGw (g:=g1) hp;simp only[stA,foA] at c;simp(maxSteps:=9^9)(disch:=try exact dS)only[go_sem,qCd,stA,h1,c];first | exact (zQp x.po e (by rw[←q]) rfl rfl) | exact⟨rfl,(zQp x.po e (by rw[←q]) rfl rfl)⟩ | exact⟨rfl,rfl,(zQp x.po e (by rw[←q]) rfl rfl)⟩ | exact⟨rfl,rfl,rfl,(zQp x.po e (by rw[←q]) rfl rfl)⟩
theorem qOc {g1}(h1:LkE tab 176 qE7 g1)(s:St)(h:Int)(hp:s.En∧tmI h) :
  xO.1.wp tab gl (qF 0 [.t (stA s),.t (.int .i64 h)]) (qF 0 []) (zD [(4,none)] 0 (qIk.K (s,h))):=by
 obtain⟨x,e,q,c⟩:=zGw (g:=g1) hp;simp only[stA,foA] at c;simp(maxSteps:=9^9)(disch:=try exact dS)only[go_sem,xO,stA,h1,c];first | exact (zQq (by rw[←q]) rfl) | exact⟨rfl,(zQq (by rw[←q]) rfl)⟩ | exact⟨rfl,rfl,(zQq (by rw[←q]) rfl)⟩ | exact⟨rfl,rfl,rfl,(zQq (by rw[←q]) rfl)⟩
structure Ckr where
 s:St
 q:Rq
 a:Az
 h:Int
 deriving Inhabited
def ckA (c:Ckr):T:= .agg [.sl (c.s.a.sd.map bsT),.sl (c.s.a.au.map bsT),.sl (c.s.a.en.map qA),.int .i64 c.s.a.act,.int .i64 c.s.a.res,.int .i64 c.s.a.rst,.int .i64 c.s.a.clk,.bool c.s.a.ord,.sl (c.s.a.bk.map wQ),.int .i64 c.s.a.u,.int .i64 c.s.a.mc,.sl (c.s.a.ix.map ixA),
 .int .i64 c.s.a.lk.fa,.int .i64 c.s.a.lk.mx,.int .i64 c.s.a.lk.rc,.int .i64 c.s.a.lk.si,.int .i64 c.s.a.lk.cl,.int .i64 c.s.a.lk.pe,.sl (c.s.a.ks.map lvA),
 .bool c.s.on,.bool c.s.off,.sl (c.s.bk.map wQ),.int .i64 c.s.u,.int .i64 c.s.clk,.bool c.s.safe,.int .i64 c.s.dr,.sl (c.s.ses.map jX),.sl (c.s.obs.map qBv),.sl (c.s.rl.map iT),.sl (c.s.wl.map iT),
 .int .i64 c.q.co,.sl (c.q.hs.map iT),.sl (c.q.au.map azA),.sl (c.q.ns.map iT),.sl (c.q.bl.map bsT),.int .i64 c.a.s,.sl (c.a.no.map qA),.sl (c.a.va.map qA),.int .i64 c.h]
theorem jJi:EI ckA:=xB (by
 rintro⟨s,q,⟨⟩,_⟩ ⟨t,r,⟨⟩,_⟩ h;have hs:stA s=stA t:=by
  simp only[ckA,qAf] at h;simp only[stA,qAf];simp only[h,and_self]
 have hq:rqA q=rqA r:=by
  simp only[ckA,qAf] at h;simp only[rqA,qAf];simp only[h,and_self]
 obtain rfl:=(jAt.1 s t).mp hs;obtain rfl:=(zZ1.1 q r).mp hq;simp only[ckA,qAf] at h;obtain⟨rfl,rfl,rfl,rfl⟩:=h;rfl)
theorem zXt:EI ckA:=jJi
def qGk:ECt where
 α:=Ckr
 β:=Int
 aS:=fun c=>[.t (ckA c)]
 pre:=fun c=>True
 r:=fun r'=> .t (.int .i64 r')
 R:=fun c r'=>r'=c.s.clk
 inj:=by rintro c c' e _;simp only[qAf,qJ3,zXt] at e;obtain rfl:=e;rfl
theorem jD7 {g:EF qGk}{c:Ckr}:qGk.fs g [.t (ckA c)] []=some (.t (.int .i64 (c.s.clk)),[]):=fnQ qGk c trivial
theorem zRi {c:Ckr}(hV:vv = .t (.int .i64 (c.s.clk)))(hO:oo=[]):qGk.K c vv oo:=⟨_,rfl,hV,hO⟩
theorem qFh  (c:Ckr) :
  vI.1.wp tab gl (qF 0 [.t (ckA c)]) (qF 0 []) (zD [(2,none)] 0 (qGk.K c)):=by
 simp(maxSteps:=9^9)(disch:=try exact dS)only[go_sem,vI,ckA];first | exact (zRi rfl rfl) | exact⟨rfl,(zRi rfl rfl)⟩ | exact⟨rfl,rfl,(zRi rfl rfl)⟩ | exact⟨rfl,rfl,rfl,(zRi rfl rfl)⟩
def qLx:ECt where
 α:=Int
 β:=Bool
 aS:=fun k=>[.t (.int .i64 k)]
 pre:=fun k=>True
 r:=fun r'=> .t (.bool r')
 R:=fun k r'=>r'=decide (k=24∨k=28∨k=18)
theorem jE7 {g:EF qLx}{k:Int}:qLx.fs g [.t (.int .i64 k)] []=some (.t (.bool (decide (k=24∨k=28∨k=18))),[]):=fnQ qLx k trivial
theorem jKo {k:Int}(hV:vv = .t (.bool (decide (k=24∨k=28∨k=18))))(hO:oo=[]):qLx.K k vv oo:=⟨_,rfl,hV,hO⟩
theorem qPt  (k:Int) :
  qAi.1.wp tab gl (qF 0 [.t (.int .i64 k)]) (qF 0 []) (zD [(2,none)] 0 (qLx.K k)):=by
 simp +contextual(maxSteps:=9^9)(disch:=try exact dS)only[go_sem,qAi,↓kB,↓xA,qU8]
 (repeat' (first | apply And.intro | intro _))<;>(try rfl)
 all_goals (refine jKo ?_ rfl;simp_all<;>rfl)
def qI4:ECt where
 α:=Int×Int×Int
 β:=Int
 aS:=fun (k,r,w)=>[.t (.int .i64 k),.t (.int .i64 r),.t (.int .i64 w)]
 pre:=fun (k,r,w)=>k=25∨k=13∨k=21∨k=9
 r:=fun r'=> .t (.int .i64 r')
 R:=fun (k,r,w) r'=>r'=w
theorem jH5 {g:EF qI4}{k r w:Int}(hp:k=25∨k=13∨k=21∨k=9):qI4.fs g [.t (.int .i64 k),.t (.int .i64 r),.t (.int .i64 w)] []=some (.t (.int .i64 (w)),[]):=fnQ qI4 (k,r,w) hp
theorem zUn {k r w:Int}(hV:vv = .t (.int .i64 (w)))(hO:oo=[]):qI4.K (k,r,w) vv oo:=⟨_,rfl,hV,hO⟩
theorem qPu {g1}(h1:LkE tab 258 qLx g1)(k r w:Int)(hp:k=25∨k=13∨k=21∨k=9) :
  qAj.1.wp tab gl (qF 0 [.t (.int .i64 k),.t (.int .i64 r),.t (.int .i64 w)]) (qF 0 []) (zD [(6,none)] 0 (qI4.K (k,r,w))):=by
 have e := @jE7 g1 k;rw[show decide (k=24∨k=28∨k=18)=false by simp;omega] at e;simp(maxSteps:=9^9)(disch:=try exact dS)only[go_sem,qAj,h1,e];first | exact (zUn rfl rfl) | exact⟨rfl,(zUn rfl rfl)⟩ | exact⟨rfl,rfl,(zUn rfl rfl)⟩ | exact⟨rfl,rfl,rfl,(zUn rfl rfl)⟩
def qIp:ECt where
 α:=Ckr×Int
 β:=Int×Bool
 aS:=fun (c,h)=>[.t (ckA c),.t (.int .i64 h)]
 pre:=fun (c,h)=>c.s.En∧tmI h
 r:=fun (n,b)=> .tup [.t (.int .i64 n),.t (.bool b)]
 R:=fun (c,h) (n,b)=>(n,b)=if (qX8 c.s h).2=0 then (48,true) else (0,false)
 inj:=by rintro⟨c,h⟩ ⟨c',h'⟩ e _;simp only[qAf,qJ3,zXt] at e;obtain⟨rfl,rfl⟩:=e;rfl
theorem zMk {g:EF qIp}{c:Ckr}{h:Int}(hp:c.s.En∧tmI h) : ∃ (n:Int) (b:Bool),((n,b)=if (qX8 c.s h).2=0 then (48,true) else (0,false))∧qIp.fs g [.t (ckA c),.t (.int .i64 h)] []=some (.tup [.t (.int .i64 n),.t (.bool b)],[]):=by
 obtain⟨y,h1,h2⟩:=qIp.eq g (c,h) hp;exact⟨y.1,y.2,h1,h2⟩
theorem zBa {c:Ckr}{h:Int}(n:Int)(b:Bool)(hR:(n,b)=if (qX8 c.s h).2=0 then (48,true) else (0,false))(hV:vv = .tup [.t (.int .i64 n),.t (.bool b)])(hO:oo=[]):qIp.K (c,h) vv oo:=⟨(n,b),hR,hV,hO⟩
theorem qFw {g1}(h1:LkE tab 143 qE8 g1)(c:Ckr)(h:Int)(hp:c.s.En∧tmI h) :
  yH.1.wp tab gl (qF 0 [.t (ckA c),.t (.int .i64 h)]) (qF 0 []) (zD [(4,none),(5,none)] 0 (qIp.K (c,h))):=by
 obtain⟨he,ht⟩:=hp;obtain⟨i,ei,q1,c1⟩:=zVg (g:=g1) (s:=c.s) (h:=h) ⟨(qRx he).1,(qRx he).2,ht⟩;have k1:(qX8 c.s h).2=ei:=by rw[←q1]
 by_cases d1:ei=0
 ·subst d1;obtain⟨rfl,hi,w,d,hix,hd⟩:=zAy he.ix k1;have ki:i=0:=by rw[←hi,←q1]
  subst ki;simp only[stA,hix,ixA,cnI,mcn] at c1;simp(maxSteps:=9^9)(disch:=try exact dS)only[go_sem,yH,ckA,hix,ixA,cnI,h1,c1,mcn];first | exact (zBa 48 true (by rw[if_pos k1]) rfl rfl) | exact⟨rfl,(zBa 48 true (by rw[if_pos k1]) rfl rfl)⟩ | exact⟨rfl,rfl,(zBa 48 true (by rw[if_pos k1]) rfl rfl)⟩ | exact⟨rfl,rfl,rfl,(zBa 48 true (by rw[if_pos k1]) rfl rfl)⟩
 ·simp only[stA] at c1;simp(maxSteps:=9^9)(disch:=try exact dS)only[go_sem,yH,ckA,h1,c1,d1];first | exact (zBa 0 false (by rw[if_neg (by rw[k1];exact d1)]) rfl rfl) | exact⟨rfl,(zBa 0 false (by rw[if_neg (by rw[k1];exact d1)]) rfl rfl)⟩ | exact⟨rfl,rfl,(zBa 0 false (by rw[if_neg (by rw[k1];exact d1)]) rfl rfl)⟩ | exact⟨rfl,rfl,rfl,(zBa 0 false (by rw[if_neg (by rw[k1];exact d1)]) rfl rfl)⟩
def qLh:ECt where
 α:=Lk×Int
 β:=Lk
 aS:=fun (l,n)=>[.t (lkA l),.t (.int .i64 n)]
 pre:=fun (l,n)=>l.fa=0
 r:=fun r'=> .t (lkA r')
 R:=fun (l,n) r'=>r' = { l with si:=n }
theorem jEb {g:EF qLh}{l:Lk}{n:Int}(hp:l.fa=0):qLh.fs g [.t (lkA l),.t (.int .i64 n)] []=some (.t (lkA ({ l with si:=n })),[]):=fnQ qLh (l,n) hp
theorem zBc {l:Lk}{n:Int}(hV:vv = .t (lkA ({ l with si:=n })))(hO:oo=[]):qLh.K (l,n) vv oo:=⟨_,rfl,hV,hO⟩
theorem qPy  (l:Lk)(n:Int)(hp:l.fa=0) :
  kF.1.wp tab gl (qF 0 [.t (lkA l),.t (.int .i64 n)]) (qF 0 []) (zD [(4,(some (6,true)))] 0 (qLh.K (l,n))):=by
 obtain⟨fa,mx,rc,si,cl,pe⟩:=l;simp only at hp;subst hp;by_cases c:n<si
 ·simp(maxSteps:=9^9)(disch:=try exact dS)only[go_sem,kF,lkA,c];first | exact (zBc rfl rfl) | exact⟨rfl,(zBc rfl rfl)⟩ | exact⟨rfl,rfl,(zBc rfl rfl)⟩ | exact⟨rfl,rfl,rfl,(zBc rfl rfl)⟩
 ·simp(maxSteps:=9^9)(disch:=try exact dS)only[go_sem,kF,lkA,c];first | exact (zBc rfl rfl) | exact⟨rfl,(zBc rfl rfl)⟩ | exact⟨rfl,rfl,(zBc rfl rfl)⟩ | exact⟨rfl,rfl,rfl,(zBc rfl rfl)⟩
def qLi:ECt where
 α:=Lk×Int
 β:=Bool
 aS:=fun (l,n)=>[.t (lkA l),.t (.int .i64 n)]
 pre:=fun (l,n)=>l.fa=0∧1≤l.mx
 r:=fun r'=> .t (.bool r')
 R:=fun (l,n) r'=>r'=false
theorem jEc {g:EF qLi}{l:Lk}{n:Int}(hp:l.fa=0∧1≤l.mx):qLi.fs g [.t (lkA l),.t (.int .i64 n)] []=some (.t (.bool (false)),[]):=fnQ qLi (l,n) hp
theorem zRp {l:Lk}{n:Int}(hV:vv = .t (.bool (false)))(hO:oo=[]):qLi.K (l,n) vv oo:=⟨_,rfl,hV,hO⟩
theorem qRa {g1}(h1:LkE tab 294 qLh g1)(l:Lk)(n:Int)(hp:l.fa=0∧1≤l.mx) :
  qBf.1.wp tab gl (qF 0 [.t (lkA l),.t (.int .i64 n)]) (qF 0 []) (zD [(4,none)] 0 (qLi.K (l,n))):=by
 obtain⟨h0,h1'⟩:=hp;have e:=jEb (g:=g1) (l:=l) (n:=n) h0;obtain⟨fa,mx,rc,si,cl,pe⟩:=l;simp only at h0 h1';subst h0;simp only[lkA] at e;simp(maxSteps:=9^9)(disch:=try exact dS)only[go_sem,qBf,lkA,h1,e];first | exact (zRp rfl rfl) | exact⟨rfl,(zRp rfl rfl)⟩ | exact⟨rfl,rfl,(zRp rfl rfl)⟩ | exact⟨rfl,rfl,rfl,(zRp rfl rfl)⟩
def vlP (c:Ckr):Prop:=c.s.En∧(0≤c.h∧c.h≤2)∧((c.q=qC .df∧c.h=1)∨(c.q=qC .ic∧c.h=1∧(qX8 c.s 257).2=0) ∨ ∃ po au da,c.q=qC (.pr c.h po au da))∧c.a=⟨0,[],[]⟩
theorem jB8:qOw .and .i64 48 .i64 32=some (.int .i64 32):=rfl
def qLe:ECt where
 α:=Ckr
 β:=Bool
 aS:=fun c=>[.t (ckA c)]
 pre:=fun c=>vlP c
 r:=fun b=> .t (.bool b)
 R:=fun c b=>b=false
 inj:=by rintro c c' e _;simp only[qAf,qJ3,zXt] at e;obtain rfl:=e;rfl
theorem jD8 {g:EF qLe}{c:Ckr}(hp:vlP c) : ∃ (b:Bool),(b=false)∧qLe.fs g [.t (ckA c)] []=some (.t (.bool b),[]):=qLe.eq g c hp
theorem qJ4 {c:Ckr}(b:Bool)(hR:b=false)(hV:vv = .t (.bool b))(hO:oo=[]):qLe.K c vv oo:=⟨b,hR,hV,hO⟩
theorem qCm {g1}(h1:LkE tab 142 qE9 g1){g2}(h2:LkE tab 202 qIp g2){g3}(h3:LkE tab 203 qI4 g3)(c:Ckr)(hp:vlP c) :
  zH.1.wp tab gl (qF 0 [.t (ckA c)]) (qF 0 []) (zD [(2,none)] 0 (qLe.K c)):=by
 obtain⟨he,hh,hq,ha⟩:=hp;obtain⟨x,ex,q2,c2⟩:=zGy (g:=g1) (s:=c.s) (h:=c.h) ⟨he.obs.1,oM⟩;obtain⟨n,b,q3,c3⟩:=zMk (g:=g2) (c:=c) (h:=c.h) ⟨he,oM⟩;have k2:ex=7:=by rw[qA5,if_pos oM] at q2;cases q2;rfl
 have k3:b=false:=by
  by_cases c0:(qX8 c.s c.h).2=0
  ·have:=(zAy he.ix c0).1;omega
  ·rw[if_neg c0] at q3;cases q3;rfl
 subst k2 k3;rcases hq with⟨hq,hh1⟩ | ⟨hq,h1',hx⟩ | ⟨po,au,da,hq⟩
 ·simp only[stA,qBv,ckA,hq,ha,qC,azA,mcn,iT,qO] at c2 c3;by_cases ch:c.h=1
  ·simp only[ch] at c2 c3;simp(maxSteps:=9^9)(disch:=try exact dS)only[go_sem,zH,ckA,qBv,hq,ha,ch,qC,azA,mcn,iT,qO,h1,h2,c2,c3];first | exact (qJ4 false rfl rfl rfl) | exact⟨rfl,(qJ4 false rfl rfl rfl)⟩ | exact⟨rfl,rfl,(qJ4 false rfl rfl rfl)⟩ | exact⟨rfl,rfl,rfl,(qJ4 false rfl rfl rfl)⟩
  ·exact absurd hh1 ch
 ·obtain⟨n',b',q4,c4⟩:=zMk (g:=g2) (c:=c) (h:=257) ⟨he,oM⟩;rw[if_pos hx] at q4;cases q4;have c5:=jH5 (g:=g3) (k:=25) (r:=16) (w:=32) (.inl rfl);simp only[stA,qBv,ckA,hq,h1',ha,qC,azA,mcn,iT,qO] at c2 c3 c4;simp(maxSteps:=9^9)(disch:=try exact dS)only[go_sem,zH,ckA,qBv,hq,h1',ha,qC,azA,mcn,iT,qO,h1,h2,h3,c2,c3,c4,c5,jB8];first | exact (qJ4 false rfl rfl rfl) | exact⟨rfl,(qJ4 false rfl rfl rfl)⟩ | exact⟨rfl,rfl,(qJ4 false rfl rfl rfl)⟩ | exact⟨rfl,rfl,rfl,(qJ4 false rfl rfl rfl)⟩
 ·simp only[stA,qBv,ckA,hq,ha,qC,azA,mcn,iT,qO] at c2 c3;by_cases ch:c.h=1
  ·simp only[ch] at c2 c3;simp(maxSteps:=9^9)(disch:=try exact dS)only[go_sem,zH,ckA,qBv,hq,ha,ch,qC,azA,mcn,iT,qO,h1,h2,c2,c3];first | exact (qJ4 false rfl rfl rfl) | exact⟨rfl,(qJ4 false rfl rfl rfl)⟩ | exact⟨rfl,rfl,(qJ4 false rfl rfl rfl)⟩ | exact⟨rfl,rfl,rfl,(qJ4 false rfl rfl rfl)⟩
  ·have ch':(c.h==1)=false:=by simpa using ch
   simp(maxSteps:=9^9)(disch:=try exact dS)only[go_sem,zH,ckA,qBv,hq,ha,ch,ch',qC,azA,mcn,iT,qO,h1,h2,c2,c3];first | exact (qJ4 false rfl rfl rfl) | exact⟨rfl,(qJ4 false rfl rfl rfl)⟩ | exact⟨rfl,rfl,(qJ4 false rfl rfl rfl)⟩ | exact⟨rfl,rfl,rfl,(qJ4 false rfl rfl rfl)⟩
def qIr:ECt where
 α:=Ckr
 β:=Bool
 aS:=fun c=>[.t (ckA c)]
 pre:=fun c=>c.s.En∧(tmI c.h∧c.h≠3)∧c.s.a.lk.fa=0∧1≤c.s.a.lk.mx
 r:=fun b=> .t (.bool b)
 R:=fun c b=>b=false
 inj:=by rintro c c' e _;simp only[qAf,qJ3,zXt] at e;obtain rfl:=e;rfl
theorem zVx {g:EF qIr}{c:Ckr}(hp:c.s.En∧(tmI c.h∧c.h≠3)∧c.s.a.lk.fa=0∧1≤c.s.a.lk.mx) : ∃ (b:Bool),(b=false)∧qIr.fs g [.t (ckA c)] []=some (.t (.bool b),[]):=qIr.eq g c hp
theorem zRk {c:Ckr}(b:Bool)(hR:b=false)(hV:vv = .t (.bool b))(hO:oo=[]):qIr.K c vv oo:=⟨b,hR,hV,hO⟩
theorem qD3 {g1}(h1:LkE tab 204 qGk g1){g3}(h3:LkE tab 253 qIk g3){g4}(h4:LkE tab 254 qLi g4)(c:Ckr)(hp:c.s.En∧(tmI c.h∧c.h≠3)∧c.s.a.lk.fa=0∧1≤c.s.a.lk.mx) :
  yY.1.wp tab gl (qF 0 [.t (ckA c)]) (qF 0 []) (zD [(2,none)] 0 (qIr.K c)):=by
 obtain⟨he,⟨ht,h3'⟩,hf,hm⟩:=hp;have c2:=jEc (g:=g4) (l:=c.s.a.lk) (n:=c.s.clk) ⟨hf,hm⟩;have c3:=jD7 (g:=g1) (c:=c);have c1:=jDd (g:=g3) (s:=c.s) (h:=c.h) ⟨he,ht⟩;cases hP:(qHj c.s c.h).1.pr;all_goals
  simp only[hP,stA,ckA,lkA] at c1 c2 c3;simp(maxSteps:=9^9)(disch:=try exact dS)only[go_sem,yY,ckA,lkA,h1,h3,h4,c1,c2,c3,h3'];first | exact (zRk false rfl rfl rfl) | exact⟨rfl,(zRk false rfl rfl rfl)⟩ | exact⟨rfl,rfl,(zRk false rfl rfl rfl)⟩ | exact⟨rfl,rfl,rfl,(zRk false rfl rfl rfl)⟩
def qIq:ECt where
 α:=Ckr×List UInt8×List UInt8
 β:=St×Int
 aS:=fun (c,a,b)=>[.t (ckA c),.t (.sl (a.map qA)),.t (.sl (b.map qA))]
 pre:=fun (c,a,b)=>a=b∧a.length≤1000
 r:=fun (t,e)=> .tup [.t (stA t),.t (.int .i64 e)]
 R:=fun (c,a,b) (t,e)=>t=c.s∧e=0
 inj:=by rintro⟨c,a,b⟩ ⟨c',a',b'⟩ e _;simp only[qAf,qJ3,zXt] at e;obtain⟨rfl,rfl,rfl⟩:=e;rfl
theorem zVv {g:EF qIq}{c:Ckr}{a b:List UInt8}(hp:a=b∧a.length≤1000) : ∃ (t:St) (e:Int),(t=c.s∧e=0)∧qIq.fs g [.t (ckA c),.t (.sl (a.map qA)),.t (.sl (b.map qA))] []=some (.tup [.t (stA t),.t (.int .i64 e)],[]):=by
 obtain⟨y,h1,h2⟩:=qIq.eq g (c,a,b) hp;exact⟨y.1,y.2,h1,h2⟩
theorem zRj {c:Ckr}{a b:List UInt8}(t:St)(e:Int)(hR:t=c.s∧e=0)(hV:vv = .tup [.t (stA t),.t (.int .i64 e)])(hO:oo=[]):qIq.K (c,a,b) vv oo:=⟨(t,e),hR,hV,hO⟩
theorem qD1 (h1:LkC tab 255 qK2){g2}(h2:LkE tab 253 qIk g2){g3}(h3:LkE tab 204 qGk g3)(c:Ckr)(a b:List UInt8)(hp:a=b∧a.length≤1000) :
  yO.1.wp tab gl (qF 0 [.t (ckA c),.t (.sl (a.map qA)),.t (.sl (b.map qA))]) (qF 0 []) (zD [(6,(some (30,true))),(7,none)] 0 (qIq.K (c,a,b))):=by
 obtain⟨rfl,hl⟩:=hp;have e:=qPp (a:=a) (b:=a) ⟨oM,oM⟩;simp only[decide_true,beq_self_eq_true] at e;simp(maxSteps:=9^9)(disch:=try exact dS)only[go_sem,yO,ckA,h1,e];first | exact (zRj c.s 0 ⟨rfl,rfl⟩ rfl rfl) | exact⟨rfl,(zRj c.s 0 ⟨rfl,rfl⟩ rfl rfl)⟩ | exact⟨rfl,rfl,(zRj c.s 0 ⟨rfl,rfl⟩ rfl rfl)⟩ | exact⟨rfl,rfl,rfl,(zRj c.s 0 ⟨rfl,rfl⟩ rfl rfl)⟩
def qLg:ECt where
 α:=Ckr×Ses
 β:=St×Int
 aS:=fun (c,x)=>[.t (ckA c),.t (jX x)]
 pre:=fun (c,x)=>(vlP c∧c.s.a.lk.fa=0∧1≤c.s.a.lk.mx)∧x=qB5
 r:=fun (t,e)=> .tup [.t (stA t),.t (.int .i64 e)]
 R:=fun (c,x) (t,e)=>t=c.s∧e=0
 inj:=by rintro⟨c,x⟩ ⟨c',x'⟩ e _;simp only[qAf,qJ3,zXt] at e;obtain⟨rfl,rfl⟩:=e;rfl
theorem jEa {g:EF qLg}{c:Ckr}{x:Ses}(hp:(vlP c∧c.s.a.lk.fa=0∧1≤c.s.a.lk.mx)∧x=qB5) : ∃ (t:St) (e:Int),(t=c.s∧e=0)∧qLg.fs g [.t (ckA c),.t (jX x)] []=some (.tup [.t (stA t),.t (.int .i64 e)],[]):=by
 obtain⟨y,h1,h2⟩:=qLg.eq g (c,x) hp;exact⟨y.1,y.2,h1,h2⟩
theorem zRl {c:Ckr}{x:Ses}(t:St)(e:Int)(hR:t=c.s∧e=0)(hV:vv = .tup [.t (stA t),.t (.int .i64 e)])(hO:oo=[]):qLg.K (c,x) vv oo:=⟨(t,e),hR,hV,hO⟩
theorem qD0 {g1}(h1:LkE tab 195 qLe g1){g2}(h2:LkE tab 196 qIr g2){g3}(h3:LkE tab 197 qIl g3){g4}(h4:LkE tab 198 qIq g4){g5}(h5:LkE tab 141 qGi g5)(c:Ckr)(x:Ses)(hp:(vlP c∧c.s.a.lk.fa=0∧1≤c.s.a.lk.mx)∧x=qB5) :
  yN.1.wp tab gl (qF 0 [.t (ckA c),.t (jX x)]) (qF 0 []) (zD [(4,(some (30,true))),(5,none)] 0 (qLg.K (c,x))):=by
 obtain⟨⟨hV,hf,hm⟩,rfl⟩:=hp;have hV':=hV;obtain⟨he,hh,hq,ha⟩:=hV';obtain⟨b,rfl,c1⟩:=jD8 (g:=g1) hV;obtain⟨b,rfl,c2⟩:=zVx (g:=g2) (c:=c) ⟨he,⟨oM,oM⟩,hf,hm⟩;obtain⟨v,ev,q3,c3⟩:=zVf (g:=g3) (s:=c.s) (h:=c.h) ⟨he,oM⟩;rw[qHj,if_pos oM] at q3;cases q3;obtain⟨t,e,⟨rfl,rfl⟩,c4⟩:=zVv (g:=g4) (c:=c) (a:=[]) (b:=[]) ⟨rfl,sM⟩;simp only[stA,ckA,ha,List.map_nil] at c1 c2 c3 c4;simp(maxSteps:=9^9)(disch:=try exact dS)only[go_sem,yN,ckA,jX,qB5,ha,h1,h2,h3,h4,c1,c2,c3,c4,List.map_nil];first | exact (zRl c.s 0 ⟨rfl,rfl⟩ rfl rfl) | exact⟨rfl,(zRl c.s 0 ⟨rfl,rfl⟩ rfl rfl)⟩ | exact⟨rfl,rfl,(zRl c.s 0 ⟨rfl,rfl⟩ rfl rfl)⟩ | exact⟨rfl,rfl,rfl,(zRl c.s 0 ⟨rfl,rfl⟩ rfl rfl)⟩
structure plP (c:Ckr) (x:Ses) (lo:Int):Prop where
 en:c.s.En
 lk:c.s.a.lk.fa=0∧1≤c.s.a.lk.mx
 h:tmI c.h∧(qA5 c.s c.h).2=0
 q:c.q.co=13
 lo:lo=0∧x.lo%2=1
 dl:x.dl=0
 cm:x.cm=0∨x.cm=13
 up:x.up = -1∨x.up=c.s.u
 u:0≤c.s.u
 dg:x.dg.length=32
 av:x.av=true→c.a.va=(qA5 c.s c.h).1.s.au
theorem zVh {s:St}{h:Int}(h0:(qA5 s h).2=0):512≤h∧h≤514:=by
 unfold qA5 at h0;split at h0
 ·cases h0
 ·omega
theorem zL3 {s:St}(e:s.En){h:Int}(h0:(qA5 s h).2=0):qHj s h=(⟨qYi (qA5 s h).1.p.po (qA5 s h).1.p.un,(qA5 s h).1.s.au,(qA5 s h).1.p.po,true⟩,0):=by
 have hg:=zVh h0;rw[qHj,if_neg oM,if_neg (fun c=>by have:=(zAy e.ix c).1;omega),if_pos h0]
theorem jQk {x:Int}(h:x%2=1):qOw .and .i64 x .i64 1=some (.int .i64 1):=by rw[jP2,h]
def qIs:ECt where
 α:=Ckr×Ses×Int
 β:=St×Int
 aS:=fun (c,x,lo)=>[.t (ckA c),.t (jX x),.t (.int .i64 lo)]
 pre:=fun (c,x,lo)=>plP c x lo
 r:=fun (t,e)=> .tup [.t (stA t),.t (.int .i64 e)]
 R:=fun (c,x,lo) (t,e)=>t=c.s∧e=if x.dg=(qA5 c.s c.h).1.p.po then 0 else 11
 inj:=by rintro⟨c,x,lo⟩ ⟨c',x',lo'⟩ e _;simp only[qAf,qJ3,zXt] at e;obtain⟨rfl,rfl,rfl⟩:=e;rfl
theorem jD9 {g:EF qIs}{c:Ckr}{x:Ses}{lo:Int}(hp:plP c x lo) : ∃ (t:St) (e:Int),(t=c.s∧e=if x.dg=(qA5 c.s c.h).1.p.po then 0 else 11)∧qIs.fs g [.t (ckA c),.t (jX x),.t (.int .i64 lo)] []=some (.tup [.t (stA t),.t (.int .i64 e)],[]):=by
 obtain⟨y,h1,h2⟩:=qIs.eq g (c,x,lo) hp;exact⟨y.1,y.2,h1,h2⟩
theorem jJ5 {c:Ckr}{x:Ses}{lo:Int}(t:St)(e:Int)(hR:t=c.s∧e=if x.dg=(qA5 c.s c.h).1.p.po then 0 else 11)(hV:vv = .tup [.t (stA t),.t (.int .i64 e)])(hO:oo=[]):qIs.K (c,x,lo) vv oo:=⟨(t,e),hR,hV,hO⟩
theorem qC2 {g1}(h1:LkE tab 201 qK9 g1){g2}(h2:LkE tab 202 qIp g2){g3}(h3:LkE tab 203 qI4 g3){g4}(h4:LkE tab 204 qGk g4){g5}(h5:LkE tab 196 qIr g5){g6}(h6:LkE tab 197 qIl g6){g7}(h7:LkE tab 198 qIq g7)(c:Ckr)(x:Ses)(lo:Int)(hp:plP c x lo) :
  zP.1.wp tab gl (qF 0 [.t (ckA c),.t (jX x),.t (.int .i64 lo)]) (qF 0 []) (zD [(6,(some (30,true))),(7,none)] 0 (qIs.K (c,x,lo))):=by
 obtain⟨he,⟨hf,hm⟩,⟨ht,ho⟩,hq,⟨rfl,hlo⟩,hdl,hcm,hup,hu,hdg,hav⟩:=hp;obtain⟨po,ep,q1,c1⟩:=jDc (g:=g1) (s:=c.s) (h:=c.h) ⟨he,ht⟩;obtain⟨n,b,q2,c2⟩:=zMk (g:=g2) (c:=c) (h:=c.h) ⟨he,ht⟩;have hg:=zVh ho;rw[if_neg (fun d=>by have:=(zAy he.ix d).1;omega)] at q2;cases q2;rw[zL3 he ho] at q1;cases q1;obtain⟨po,un,au,sd,da,hh,hx,l1,l2,l3,l4⟩:=zLj he.obs ho;obtain⟨v,ev,q7,c7⟩:=zVf (g:=g6) (s:=c.s) (h:=c.h) ⟨he,ht⟩;rw[zL3 he ho] at q7;cases q7;obtain⟨b,rfl,c5⟩:=zVx (g:=g5) (c:=c) ⟨he,⟨ht,oM⟩,hf,hm⟩;rw[hx] at hav;simp only[hx] at c1 c7 ⊢;obtain⟨kd,no,dg,up,sl,cm,dl,av⟩:=x;simp only at hlo hdl hcm hup hdg hav;subst hdl;have c9 := @jQk sl hlo;have hK : ∀ e,e=(if dg=po then 0 else 11)→qIs.K (c,⟨kd,no,dg,up,sl,cm,0,av⟩,0) (.tup [.t (stA c.s),.t (.int .i64 e)]) []:=fun e h=>jJ5 c.s e ⟨rfl,by rw[h,hx]⟩ rfl rfl
 have hc:cm=0∨(cm=13 ∧ ¬ cm=0):=oM;have hU:up = -1∨(up=c.s.u ∧ ¬ up = -1):=oM;have hu1 : ¬ c.s.u = -1:=oM;have hs0:sl.fdiv 1=sl:=Int.fdiv_one sl;obtain⟨t8,e8,⟨q8,q8'⟩,c8⟩:=zVv (g:=g7) (c:=c) (a:=if av=true then c.a.va else []) (b:=if av=true then au else []) ⟨by cases av;rfl;exact hav rfl,by cases av<;>simp;rw[hav rfl];omega⟩;subst q8 q8';simp only[stA,ckA,hq] at c1 c2 c5 c7 c8 hK;have hd':(dg==po)=decide (dg=po):=by by_cases h:dg=po<;>simp[h]
 by_cases hd:dg=po
 ·subst hd;rcases hc with rfl | ⟨rfl,_⟩<;>rcases hU with rfl | ⟨rfl,_⟩;all_goals
   cases av
   ·simp(maxSteps:=9^9)(disch:=try exact dS)only[go_sem,zP,ckA,jX,h1,h2,c1,c2,hdg,hq,c9,hs0,hlo,hu1];first | exact (hK _ (by rw[if_pos rfl])) | exact⟨rfl,(hK _ (by rw[if_pos rfl]))⟩ | exact⟨rfl,rfl,(hK _ (by rw[if_pos rfl]))⟩ | exact⟨rfl,rfl,rfl,(hK _ (by rw[if_pos rfl]))⟩
   ·simp only[if_true] at c8;simp(maxSteps:=9^9)(disch:=try exact dS)only[go_sem,zP,ckA,jX,h1,h2,h5,h6,h7,c1,c2,c5,c7,c8,hdg,hq,c9,hs0,hlo,hu1];first | exact (hK _ (by rw[if_pos rfl])) | exact⟨rfl,(hK _ (by rw[if_pos rfl]))⟩ | exact⟨rfl,rfl,(hK _ (by rw[if_pos rfl]))⟩ | exact⟨rfl,rfl,rfl,(hK _ (by rw[if_pos rfl]))⟩
 ·rcases hc with rfl | ⟨rfl,_⟩<;>rcases hU with rfl | ⟨rfl,_⟩;all_goals
   simp(maxSteps:=9^9)(disch:=try exact dS)only[go_sem,zP,ckA,jX,h1,h2,c1,c2,l1,hq,c9,hs0,hlo,hd,hu1];first | exact (hK _ (by rw[if_neg hd])) | exact⟨rfl,(hK _ (by rw[if_neg hd]))⟩ | exact⟨rfl,rfl,(hK _ (by rw[if_neg hd]))⟩ | exact⟨rfl,rfl,rfl,(hK _ (by rw[if_neg hd]))⟩
inductive CkP (s:St):Rq→Prop where
 | vl (q:Rq) (h:Int) (hv:vlP ⟨s,q,⟨0,[],[]⟩,h⟩) (hl:s.a.lk.fa=0∧1≤s.a.lk.mx):CkP s q
 | un (h ss:Int) (v:List UInt8) (hs:s.ses.length=3∧tmI ss∧ss≠0) (hb:(qBw s ss).2.2=true) (hk:(qBw s ss).2.1.kd=2∨(qBw s ss).2.1.kd=3) (hp:(qBw s ss).2.1.kd=2→plP ⟨s,qC (.un h ss v),⟨ss,[],v⟩,h⟩ (qBw s ss).2.1 0):CkP s (qC (.un h ss v))
def ckE (s:St)(h ss:Int):Int:=if (qBw s ss).2.1.kd=2 then (if (qBw s ss).2.1.dg=(qA5 s h).1.p.po then 0 else 11) else 8
def qLd:ECt where
 α:=St×Int×Rq
 β:=St×Int
 aS:=fun (s,lo,q)=>[.t (stA s),.t (.int .i64 lo),.t (rqA q)]
 pre:=fun (s,lo,q)=>CkP s q∧lo=0
 r:=fun (t,e)=> .tup [.t (stA t),.t (.int .i64 e)]
 R:=fun (s,lo,q) (t,e)=>t=s∧(q.co≠13→e=0) ∧ ∀ h ss v,q=qC (.un h ss v)→e=ckE s h ss
theorem zVu {g:EF qLd}{s:St}{lo:Int}{q:Rq}(hp:CkP s q∧lo=0) : ∃ (t:St) (e:Int),(t=s∧(q.co≠13→e=0) ∧ ∀ h ss v,q=qC (.un h ss v)→e=ckE s h ss)∧qLd.fs g [.t (stA s),.t (.int .i64 lo),.t (rqA q)] []=some (.tup [.t (stA t),.t (.int .i64 e)],[]):=by
 obtain⟨y,h1,h2⟩:=qLd.eq g (s,lo,q) hp;exact⟨y.1,y.2,h1,h2⟩
theorem qQz {s:St}{lo:Int}{q:Rq}(t:St)(e:Int)(hR:t=s∧(q.co≠13→e=0) ∧ ∀ h ss v,q=qC (.un h ss v)→e=ckE s h ss)(hV:vv = .tup [.t (stA t),.t (.int .i64 e)])(hO:oo=[]):qLd.K (s,lo,q) vv oo:=⟨(t,e),hR,hV,hO⟩
theorem vJ {h ss h' ss':Int}{v v':List UInt8}(e:qC (.un h ss v)=qC (.un h' ss' v')):h=h'∧ss=ss':=by
 simp only[qC,Rq.mk.injEq,List.cons.injEq,Az.mk.injEq,and_true,true_and] at e;exact⟨e.1,e.2.1⟩
theorem qPs {g1}(h1:LkE tab 154 qLg g1){g2}(h2:LkE tab 153 qFb g2){g3}(h3:LkE tab 155 qIs g3)(s:St)(lo:Int)(q:Rq)(hp:CkP s q∧lo=0) :
  vN.1.wp tab gl (qF 0 [.t (stA s),.t (.int .i64 lo),.t (rqA q)]) (qF 0 []) (zD [(6,(some (30,true))),(7,none)] 0 (qLd.K (s,lo,q))):=by
 obtain⟨hp,rfl⟩:=hp;cases hp with
 | vl _ h hv hl=>
  obtain⟨t,e,⟨ht,rfl⟩,c1⟩:=jEa (g:=g1) ⟨⟨hv,hl⟩,rfl⟩;subst ht;obtain⟨he,hh,hq,_⟩:=hv;simp only at hq;rcases hq with⟨rfl,rfl⟩ | ⟨rfl,rfl,hx⟩ | ⟨po,au,da,rfl⟩;all_goals
   simp only[ckA,jX,qB5,qC,azA,iT,mcn,qO] at c1;simp(maxSteps:=9^9)(disch:=try exact dS)only[go_sem,vN,stA,rqA,jX,qB5,qC,azA,iT,h1,c1,mcn,qO];first | exact (qQz _ 0 ⟨rfl,fun _=>rfl,fun _ _ _ h=>by simp[qC] at h⟩ rfl rfl) | exact⟨rfl,(qQz _ 0 ⟨rfl,fun _=>rfl,fun _ _ _ h=>by simp[qC] at h⟩ rfl rfl)⟩ | exact⟨rfl,rfl,(qQz _ 0 ⟨rfl,fun _=>rfl,fun _ _ _ h=>by simp[qC] at h⟩ rfl rfl)⟩ | exact⟨rfl,rfl,rfl,(qQz _ 0 ⟨rfl,fun _=>rfl,fun _ _ _ h=>by simp[qC] at h⟩ rfl rfl)⟩
 | un h ss v hs hb hk hp=>
  obtain⟨x,ex,q2,c2⟩:=zHi (g:=g2) (s:=s) (h:=ss) ⟨hs.1,hs.2.1⟩;rw[if_pos hb] at q2;cases q2;generalize hx:(qBw s ss).2.1=x at *;have hE:ckE s h ss=if x.kd=2 then (if x.dg=(qA5 s h).1.p.po then 0 else 11) else 8:=by rw[ckE,hx]
  have hss : ¬ ss=0:=hs.2.2;rcases hk with hk | hk
  ·obtain⟨t,e,⟨rfl,he⟩,c3⟩:=jD9 (g:=g3) (hp hk);rw[if_pos hk,←he] at hE;simp only[stA,ckA,jX,hk,qC,azA,iT,mcn] at c2 c3;simp(maxSteps:=9^9)(disch:=try exact dS)only[go_sem,vN,stA,rqA,jX,hk,qC,azA,iT,h2,h3,c2,c3,hss,mcn];first | exact (qQz _ e ⟨rfl,fun h=>absurd rfl h,fun _ _ _ g=>by rw[←(vJ g).1,←(vJ g).2,hE]⟩ rfl rfl) | exact⟨rfl,(qQz _ e ⟨rfl,fun h=>absurd rfl h,fun _ _ _ g=>by rw[←(vJ g).1,←(vJ g).2,hE]⟩ rfl rfl)⟩ | exact⟨rfl,rfl,(qQz _ e ⟨rfl,fun h=>absurd rfl h,fun _ _ _ g=>by rw[←(vJ g).1,←(vJ g).2,hE]⟩ rfl rfl)⟩ | exact⟨rfl,rfl,rfl,(qQz _ e ⟨rfl,fun h=>absurd rfl h,fun _ _ _ g=>by rw[←(vJ g).1,←(vJ g).2,hE]⟩ rfl rfl)⟩
  ·rw[if_neg oM] at hE;simp only[stA,jX,hk] at c2;simp(maxSteps:=9^9)(disch:=try exact dS)only[go_sem,vN,stA,rqA,jX,hk,qC,azA,iT,h2,c2,hss,mcn];first | exact (qQz _ 8 ⟨rfl,fun h=>absurd rfl h,fun _ _ _ g=>by rw[←(vJ g).1,←(vJ g).2,hE]⟩ rfl rfl) | exact⟨rfl,(qQz _ 8 ⟨rfl,fun h=>absurd rfl h,fun _ _ _ g=>by rw[←(vJ g).1,←(vJ g).2,hE]⟩ rfl rfl)⟩ | exact⟨rfl,rfl,(qQz _ 8 ⟨rfl,fun h=>absurd rfl h,fun _ _ _ g=>by rw[←(vJ g).1,←(vJ g).2,hE]⟩ rfl rfl)⟩ | exact⟨rfl,rfl,rfl,(qQz _ 8 ⟨rfl,fun h=>absurd rfl h,fun _ _ _ g=>by rw[←(vJ g).1,←(vJ g).2,hE]⟩ rfl rfl)⟩
def qU5 (s:St)(ss:Int):St := { s with ses:=s.ses.set (ss-768).toNat qB5 }
inductive FiP (s:St):Rq→Prop where
 | df:FiP s (qC .df)
 | ic:FiP s (qC .ic)
 | pr (h:Int) (po au da:List UInt8):FiP s (qC (.pr h po au da))
 | un (h ss:Int) (v:List UInt8) (hs:s.ses.length=3∧tmI ss∧ss≠0) (hb:(qBw s ss).2.2=true) (hk:(qBw s ss).2.1.kd=2):FiP s (qC (.un h ss v))
def qLf:ECt where
 α:=St×Rq
 β:=St×List (List UInt8)
 aS:=fun (s,q)=>[.t (stA s),.t (rqA q)]
 pre:=fun (s,q)=>FiP s q
 r:=fun (t,l)=> .tup [.t (stA t),.t (.sl (l.map bsT))]
 R:=fun (s,q) (t,l)=>l=[]∧(q.co≠13→t=s) ∧ ∀ h ss v,q=qC (.un h ss v)→t=qU5 s ss
theorem zVw {g:EF qLf}{s:St}{q:Rq}(hp:FiP s q) : ∃ (t:St) (l:List (List UInt8)),(l=[]∧(q.co≠13→t=s) ∧ ∀ h ss v,q=qC (.un h ss v)→t=qU5 s ss)∧qLf.fs g [.t (stA s),.t (rqA q)] []=some (.tup [.t (stA t),.t (.sl (l.map bsT))],[]):=by
 obtain⟨y,h1,h2⟩:=qLf.eq g (s,q) hp;exact⟨y.1,y.2,h1,h2⟩
theorem zBb {s:St}{q:Rq}(t:St)(l:List (List UInt8))(hR:l=[]∧(q.co≠13→t=s) ∧ ∀ h ss v,q=qC (.un h ss v)→t=qU5 s ss)(hV:vv = .tup [.t (stA t),.t (.sl (l.map bsT))])(hO:oo=[]):qLf.K (s,q) vv oo:=⟨(t,l),hR,hV,hO⟩
theorem qOb {g1}(h1:LkE tab 153 qFb g1){g2}(h2:LkE tab 167 qPc g2)(h3:LkC tab 168 zAu){g4}(h4:LkE tab 169 qL0 g4)(s:St)(q:Rq)(hp:FiP s q) :
  wK.1.wp tab gl (qF 0 [.t (stA s),.t (rqA q)]) (qF 0 []) (zD [(4,(some (30,true))),(5,none)] 0 (qLf.K (s,q))):=by
 cases hp with
 | un h ss v hs hb hk=>
  obtain⟨x,ex,q1,c1⟩:=zHi (g:=g1) (s:=s) (h:=ss) ⟨hs.1,hs.2.1⟩;obtain⟨t,et,q4,c4⟩:=jFv (g:=g4) (s:=s) (h:=ss) ⟨hs.1,hs.2.1⟩;rw[if_pos hb] at q1 q4;cases q1;cases q4;generalize hx:(qBw s ss).2.1=x at *;have hss : ¬ ss=0:=hs.2.2;simp only[stA,jX,hk] at c1 c4;simp(maxSteps:=9^9)(disch:=try exact dS)only[go_sem,wK,stA,rqA,jX,hk,qC,azA,iT,h1,h4,c1,c4,hss,mcn];first | exact (zBb (qU5 s ss) [] ⟨rfl,fun h=>absurd rfl h,fun _ _ _ g=>by rw[←(vJ g).2]⟩ rfl rfl) | exact⟨rfl,(zBb (qU5 s ss) [] ⟨rfl,fun h=>absurd rfl h,fun _ _ _ g=>by rw[←(vJ g).2]⟩ rfl rfl)⟩ | exact⟨rfl,rfl,(zBb (qU5 s ss) [] ⟨rfl,fun h=>absurd rfl h,fun _ _ _ g=>by rw[←(vJ g).2]⟩ rfl rfl)⟩ | exact⟨rfl,rfl,rfl,(zBb (qU5 s ss) [] ⟨rfl,fun h=>absurd rfl h,fun _ _ _ g=>by rw[←(vJ g).2]⟩ rfl rfl)⟩
 | _=>
  simp(maxSteps:=9^9)(disch:=try exact dS)only[go_sem,wK,stA,rqA,qC,azA,iT,mcn,qO];first | exact (zBb s [] ⟨rfl,fun _=>rfl,fun _ _ _ h=>by simp[qC] at h⟩ rfl rfl) | exact⟨rfl,(zBb s [] ⟨rfl,fun _=>rfl,fun _ _ _ h=>by simp[qC] at h⟩ rfl rfl)⟩ | exact⟨rfl,rfl,(zBb s [] ⟨rfl,fun _=>rfl,fun _ _ _ h=>by simp[qC] at h⟩ rfl rfl)⟩ | exact⟨rfl,rfl,rfl,(zBb s [] ⟨rfl,fun _=>rfl,fun _ _ _ h=>by simp[qC] at h⟩ rfl rfl)⟩
end Go.Eng
end
