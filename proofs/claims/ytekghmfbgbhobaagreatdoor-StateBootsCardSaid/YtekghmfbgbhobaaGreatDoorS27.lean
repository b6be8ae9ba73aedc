/- A part of an abstract machine, its walks, their tie. -/
import Derived.Test.YtekghmfbgbhobaaGreatDoorS25
import Derived.Test.YtekghmfbgbhobaaGreatDoorS12
import Derived.Test.YtekghmfbgbhobaaGreatDoorS26
import Derived.Test.YtekghmfbgbhobaaGreatDoorS22
import Derived.Test.YtekghmfbgbhobaaGreatDoorS24
set_option linter.all false
section
set_option maxHeartbeats 64000000
set_option maxRecDepth 20000
namespace Go.Eng
variable (tab:Tab) (gl:Gl)
def stN (x:List UInt8)(b:zE):Nat→zE
 | 0=>b
 | k+1=>(stN x b k).set (12+k) x
theorem wO {x:List UInt8}{b:zE}{k:Nat}:List.length (stN x b k)=List.length b:=by
 induction k with
 | zero=>rfl
 | succ k ih=>simp only[stN,List.length_set,ih]
def qU8 (bk:List zE):List zE:=match bk with
 | [b0,b1]=>[stN (List.replicate 20 255) b0 4,stN (List.replicate 32 255) b1 4]
 | bk=>bk
theorem qWy {k:Nat}:zRg (12+k)=255:=if_pos oM
theorem qN9 (h1:LkC tab 77 jI)(u:Int):yF.1.wp tab gl (qD 0 [.t (yL [] u)]) (qD 0 []) (qY [(2,some (2,true))] 0 (fun r o=>r = .t (yL [] u)∧o=[])):=by
 simp(disch:=omega)only[go_sem,yF,h1,qSk,List.map_nil];refine qT 1 ?_;simp(disch:=omega)only[go_sem,qJ]
theorem qOa (h1:LkC tab 77 jI)(h2:LkC tab 76 xQ)(h3:LkC tab 75 vS)(b0 b1:zE)(u:Int)(hk:RM [b0,b1]):yF.1.wp tab gl (qD 0 [.t (yL [b0,b1] u)]) (qD 0 []) (qY [(2,some (2,true))] 0 (fun r o=>r = .t (yL (qU8 [b0,b1]) u)∧o=[])):=by
 simp(disch:=omega)only[go_sem,yF,h1,jE hk,mcn];refine qT 3 ?_;simp(disch:=omega)only[go_sem,qJ];obtain⟨hrk,_⟩:=hk;cases hrk with
 | two _ _ h0 h1=>
 have q0:qUx b0:=h0;rcases q0 with z0 | z0
 ·obtain rfl:b0=[]:=List.eq_nil_of_length_eq_zero z0;have y0:stN (List.replicate 20 255) [] 4=[]:=rfl;refine qT 1 ?_;simp(disch:=omega)only[go_sem,qJ,List.length_nil,List.map_nil];have q1:qUx b1:=h1;rcases q1 with z1 | z1
  ·obtain rfl:b1=[]:=List.eq_nil_of_length_eq_zero z1;have y1:stN (List.replicate 32 255) [] 4=[]:=rfl;refine qT 1 ?_;simp(disch:=omega)only[go_sem,qJ,List.length_nil,List.map_nil,z0,z1];all_goals rfl
  ·refine qF 4 (fun k=>[(2,.ref 4112 0 0),(3,.ref 8224 0 0),(4,.t (.int .i64 1)),(5,.t (.int .i64 ((12+k:Nat):Int))),(10,.t (.int .i64 2)),(11,.t (.int .i64 1))]) (fun k=>[(8224,.live 2 [.agg [.sl 8208 0 2,.t (.int .i64 u)]] true true),(8210,.live 1 (((stN (List.replicate 32 255) b1 k).map bsT).map V.t) true false),(8209,.live 1 (((([]:zE)).map bsT).map V.t) true false),(8208,.live 1 [.sl 8209 0 0,.sl 8210 0 16] true false),(4112,.live 2 [.agg [.nil,.t (.int .i64 0)]] true true)]) ?_ (fun k hk4=>?_)
   ·refine qI.rd id ?_ ?_ rfl;all_goals simp(disch:=omega)only[go_sem,id,stN,z0,z1]
   ·have s1:List.length (stN (List.replicate 32 255) b1 k)=16:=by rw[wO,z1]
    by_cases hlt:k<4
    ·simp(disch:=omega)only[go_sem,z1,s1,h2,h3,qR,qS,zH,zI];repeat refine And.intro rfl ?_
     refine⟨hlt,qI.cv (hv:=[]) [36992] id ?_ rfl⟩;simp(maxSteps:=9^9)(disch:=try exact dS)only[go_sem,id,stN,z1,s1,List.take_replicate,Nat.min_self,qWy];refine⟨?_,rfl⟩;omega
    ·have e:k=4:=oM;subst e;have t1:List.take 16 (stN (List.replicate 32 255) b1 4)=stN (List.replicate 32 255) b1 4:=List.take_of_length_le oM;simp(disch:=omega)only[go_sem,z1,s1,qJ,t1];all_goals rfl
 ·refine qF 4 (fun k=>[(2,.ref 4112 0 0),(3,.ref 8224 0 0),(4,.t (.int .i64 0)),(5,.t (.int .i64 ((12+k:Nat):Int))),(10,.t (.int .i64 2)),(11,.t (.int .i64 0))]) (fun k=>[(8224,.live 2 [.agg [.sl 8208 0 2,.t (.int .i64 u)]] true true),(8210,.live 1 (((b1).map bsT).map V.t) true false),(8209,.live 1 (((stN (List.replicate 20 255) b0 k).map bsT).map V.t) true false),(8208,.live 1 [.sl 8209 0 16,.sl 8210 0 b1.length] true false),(4112,.live 2 [.agg [.nil,.t (.int .i64 0)]] true true)]) ?_ (fun k hk4=>?_)
  ·refine qI.rd id ?_ ?_ rfl;all_goals simp(disch:=omega)only[go_sem,id,stN,z0]
  ·have s0:List.length (stN (List.replicate 20 255) b0 k)=16:=by rw[wO,z0]
   by_cases hlt:k<4
   ·simp(disch:=omega)only[go_sem,z0,s0,h2,h3,qR,qS,zH,zI];repeat refine And.intro rfl ?_
    refine⟨hlt,qI.cv (hv:=[]) [36992] id ?_ rfl⟩;simp(maxSteps:=9^9)(disch:=try exact dS)only[go_sem,id,stN,z0,s0,List.take_replicate,Nat.min_self,qWy];refine⟨?_,rfl⟩;omega
   ·have e:k=4:=oM;subst e;have t0:List.take 16 (stN (List.replicate 20 255) b0 4)=stN (List.replicate 20 255) b0 4:=List.take_of_length_le oM;simp(disch:=omega)only[go_sem,z0,s0,qJ,t0];have q1:qUx b1:=h1;rcases q1 with z1 | z1
    ·obtain rfl:b1=[]:=List.eq_nil_of_length_eq_zero z1;have y1:stN (List.replicate 32 255) [] 4=[]:=rfl;refine qT 1 ?_;simp(disch:=omega)only[go_sem,qJ,List.length_nil,List.map_nil,z0,z1,t0];all_goals rfl
    ·refine qF 4 (fun k=>[(2,.ref 4112 0 0),(3,.ref 8224 0 0),(4,.t (.int .i64 1)),(5,.t (.int .i64 ((12+k:Nat):Int))),(10,.t (.int .i64 2)),(11,.t (.int .i64 1))]) (fun k=>[(8224,.live 2 [.agg [.sl 8208 0 2,.t (.int .i64 u)]] true true),(8210,.live 1 (((stN (List.replicate 32 255) b1 k).map bsT).map V.t) true false),(8209,.live 1 (((stN (List.replicate 20 255) b0 4).map bsT).map V.t) true false),(8208,.live 1 [.sl 8209 0 16,.sl 8210 0 16] true false),(4112,.live 2 [.agg [.nil,.t (.int .i64 0)]] true true)]) ?_ (fun k hk4=>?_)
     ·refine qI.rd id ?_ ?_ rfl;all_goals simp(disch:=omega)only[go_sem,id,stN,z0,z1]
     ·have s1:List.length (stN (List.replicate 32 255) b1 k)=16:=by rw[wO,z1]
      by_cases hlt:k<4
      ·simp(disch:=omega)only[go_sem,z1,s1,h2,h3,qR,qS,zH,zI];repeat refine And.intro rfl ?_
       refine⟨hlt,qI.cv (hv:=[]) [36992] id ?_ rfl⟩;simp(maxSteps:=9^9)(disch:=try exact dS)only[go_sem,id,stN,z1,s1,List.take_replicate,Nat.min_self,qWy];refine⟨?_,rfl⟩;omega
      ·have e:k=4:=oM;subst e;have t1:List.take 16 (stN (List.replicate 32 255) b1 4)=stN (List.replicate 32 255) b1 4:=List.take_of_length_le oM;simp(disch:=omega)only[go_sem,z1,s1,qJ,t0,t1];all_goals rfl
theorem qWi (h1:LkC tab 79 jI)(u:Int):wM.1.wp tab gl (qD 0 [.t (yL [] u)]) (qD 0 []) (qY [(2,some (2,true))] 0 (fun r o=>r = .t (yL [] u)∧o=[])):=by
 simp(disch:=omega)only[go_sem,wM,h1,qSk,List.map_nil];refine qT 1 ?_;simp(disch:=omega)only[go_sem,qJ]
theorem qWj (h1:LkC tab 79 jI)(h2:LkC tab 78 qDn)(b0 b1:zE)(u:Int)(hk:RM [b0,b1]):wM.1.wp tab gl (qD 0 [.t (yL [b0,b1] u)]) (qD 0 []) (qY [(2,some (2,true))] 0 (fun r o=>r = .t (yL (qU8 [b0,b1]) u)∧o=[])):=by
 simp(disch:=omega)only[go_sem,wM,h1,jE hk,mcn];refine qT 3 ?_;simp(disch:=omega)only[go_sem,qJ];obtain⟨hrk,_⟩:=hk;cases hrk with
 | two _ _ h0 h1=>
 have q0:qUx b0:=h0;rcases q0 with z0 | z0
 ·obtain rfl:b0=[]:=List.eq_nil_of_length_eq_zero z0;have y0:stN (List.replicate 20 255) [] 4=[]:=rfl;refine qT 1 ?_;simp(disch:=omega)only[go_sem,qJ,List.length_nil,List.map_nil];have q1:qUx b1:=h1;rcases q1 with z1 | z1
  ·obtain rfl:b1=[]:=List.eq_nil_of_length_eq_zero z1;have y1:stN (List.replicate 32 255) [] 4=[]:=rfl;refine qT 1 ?_;simp(disch:=omega)only[go_sem,qJ,List.length_nil,List.map_nil,z0,z1];all_goals rfl
  ·refine qF 4 (fun k=>[(2,.ref 4112 0 0),(3,.ref 8224 0 0),(4,.t (.int .i64 1)),(5,.t (.int .i64 ((12+k:Nat):Int)))]) (fun k=>[(8224,.live 2 [.agg [.sl 8208 0 2,.t (.int .i64 u)]] true true),(8210,.live 1 (((stN (List.replicate 32 255) b1 k).map bsT).map V.t) true false),(8209,.live 1 (((([]:zE)).map bsT).map V.t) true false),(8208,.live 1 [.sl 8209 0 0,.sl 8210 0 16] true false),(4112,.live 2 [.agg [.nil,.t (.int .i64 0)]] true true)]) ?_ (fun k hk4=>?_)
   ·refine qI.rd id ?_ ?_ rfl;all_goals simp(disch:=omega)only[go_sem,id,stN,z0,z1]
   ·have s1:List.length (stN (List.replicate 32 255) b1 k)=16:=by rw[wO,z1]
    by_cases hlt:k<4
    ·simp(disch:=omega)only[go_sem,z1,s1,h2,yA,yB];repeat refine And.intro rfl ?_
     refine⟨hlt,qI.cv (hv:=[]) [36992] id ?_ rfl⟩;simp(maxSteps:=9^9)(disch:=try exact dS)only[go_sem,id,stN,z1,s1,List.take_replicate,Nat.min_self,qWy];refine⟨?_,rfl⟩;omega
    ·have e:k=4:=oM;subst e;have t1:List.take 16 (stN (List.replicate 32 255) b1 4)=stN (List.replicate 32 255) b1 4:=List.take_of_length_le oM;simp(disch:=omega)only[go_sem,z1,s1,qJ,t1];all_goals rfl
 ·refine qF 4 (fun k=>[(2,.ref 4112 0 0),(3,.ref 8224 0 0),(4,.t (.int .i64 0)),(5,.t (.int .i64 ((12+k:Nat):Int)))]) (fun k=>[(8224,.live 2 [.agg [.sl 8208 0 2,.t (.int .i64 u)]] true true),(8210,.live 1 (((b1).map bsT).map V.t) true false),(8209,.live 1 (((stN (List.replicate 20 255) b0 k).map bsT).map V.t) true false),(8208,.live 1 [.sl 8209 0 16,.sl 8210 0 b1.length] true false),(4112,.live 2 [.agg [.nil,.t (.int .i64 0)]] true true)]) ?_ (fun k hk4=>?_)
  ·refine qI.rd id ?_ ?_ rfl;all_goals simp(disch:=omega)only[go_sem,id,stN,z0]
  ·have s0:List.length (stN (List.replicate 20 255) b0 k)=16:=by rw[wO,z0]
   by_cases hlt:k<4
   ·simp(disch:=omega)only[go_sem,z0,s0,h2,yA,yB];repeat refine And.intro rfl ?_
    refine⟨hlt,qI.cv (hv:=[]) [36992] id ?_ rfl⟩;simp(maxSteps:=9^9)(disch:=try exact dS)only[go_sem,id,stN,z0,s0,List.take_replicate,Nat.min_self,qWy];refine⟨?_,rfl⟩;omega
   ·have e:k=4:=oM;subst e;have t0:List.take 16 (stN (List.replicate 20 255) b0 4)=stN (List.replicate 20 255) b0 4:=List.take_of_length_le oM;simp(disch:=omega)only[go_sem,z0,s0,qJ,t0];have q1:qUx b1:=h1;rcases q1 with z1 | z1
    ·obtain rfl:b1=[]:=List.eq_nil_of_length_eq_zero z1;have y1:stN (List.replicate 32 255) [] 4=[]:=rfl;refine qT 1 ?_;simp(disch:=omega)only[go_sem,qJ,List.length_nil,List.map_nil,z0,z1,t0];all_goals rfl
    ·refine qF 4 (fun k=>[(2,.ref 4112 0 0),(3,.ref 8224 0 0),(4,.t (.int .i64 1)),(5,.t (.int .i64 ((12+k:Nat):Int)))]) (fun k=>[(8224,.live 2 [.agg [.sl 8208 0 2,.t (.int .i64 u)]] true true),(8210,.live 1 (((stN (List.replicate 32 255) b1 k).map bsT).map V.t) true false),(8209,.live 1 (((stN (List.replicate 20 255) b0 4).map bsT).map V.t) true false),(8208,.live 1 [.sl 8209 0 16,.sl 8210 0 16] true false),(4112,.live 2 [.agg [.nil,.t (.int .i64 0)]] true true)]) ?_ (fun k hk4=>?_)
     ·refine qI.rd id ?_ ?_ rfl;all_goals simp(disch:=omega)only[go_sem,id,stN,z0,z1]
     ·have s1:List.length (stN (List.replicate 32 255) b1 k)=16:=by rw[wO,z1]
      by_cases hlt:k<4
      ·simp(disch:=omega)only[go_sem,z1,s1,h2,yA,yB];repeat refine And.intro rfl ?_
       refine⟨hlt,qI.cv (hv:=[]) [36992] id ?_ rfl⟩;simp(maxSteps:=9^9)(disch:=try exact dS)only[go_sem,id,stN,z1,s1,List.take_replicate,Nat.min_self,qWy];refine⟨?_,rfl⟩;omega
      ·have e:k=4:=oM;subst e;have t1:List.take 16 (stN (List.replicate 32 255) b1 4)=stN (List.replicate 32 255) b1 4:=List.take_of_length_le oM;simp(disch:=omega)only[go_sem,z1,s1,qJ,t0,t1];all_goals rfl
def qFn:Ct where
 α:=List zE×Int×Int×Int
 aS x:=[.t (yL x.1 x.2.1),.t (.int .i64 x.2.2.1),.t (.int .i64 x.2.2.2)]
 ins _:=[]
 pre x:=RM x.1∧0≤x.2.1∧x.2.1<1000000000
 r x:=zZj x.1 x.2.1 x.2.2.1 x.2.2.2
 outs _:=[]
 inj:=by
  rintro⟨a,u,l,i⟩ ⟨b,v,l',i'⟩ h _;simp only[List.cons.injEq,V.t.injEq,T.int.injEq,true_and,and_true] at h;obtain⟨h1,rfl,rfl⟩:=h;obtain⟨rfl,rfl⟩:=qCt h1;exact⟨rfl,rfl⟩
theorem jFf {bk:List zE}{u l i:Int}(h:RM bk∧0≤u∧u<1000000000):qFn.fs [.t (yL bk u),.t (.int .i64 l),.t (.int .i64 i)] []=some (zZj bk u l i,[]):=qFn.eq (bk,u,l,i) h
def qAe:Ct where
 α:=List zE×Int
 aS x:=[.t (yL x.1 x.2)]
 ins _:=[]
 pre x:=RM x.1
 r x:= .t (yL (qU8 x.1) x.2)
 outs _:=[]
 inj:=by
  rintro⟨a,u⟩ ⟨b,v⟩ h _;simp only[List.cons.injEq,V.t.injEq,and_true] at h;obtain⟨rfl,rfl⟩:=qCt h;exact⟨rfl,rfl⟩
theorem zVp {bk:List zE}{u:Int}(h:RM bk):qAe.fs [.t (yL bk u)] []=some (.t (yL (qU8 bk) u),[]):=qAe.eq (bk,u) h
theorem qZ2 (h1:LkC tab 235 kC)(h3:LkC tab 79 jI)(h4:LkC tab 74 jX)(h5:LkC tab 98 xQ)(h6:LkC tab 97 vS)(x:qFn.α)(hx:qFn.pre x) :
  zY.1.wp tab gl (qD 0 (qFn.aS x)) (qD 0 (qFn.ins x)) (qY [(6,some (2,true)),(7,none)] (qFn.ins x).length (fun r o=>r=qFn.r x∧o=qFn.outs x)):=by
 obtain⟨bk,u,l,i⟩:=x;obtain⟨hk,hu⟩:=hx;show zY.1.wp tab gl (qD 0 [.t (yL bk u),.t (.int .i64 l),.t (.int .i64 i)]) (qD 0 []) (qY [(6,some (2,true)),(7,none)] 0 (fun r o=>r=zZj bk u l i∧o=[]));by_cases he:zNl l i=0
 ·rw[zZj,if_pos he];have hk':RM bk:=hk;have hk2:=hk'.1;cases hk2 with
  | nil=>exact qZ0 tab gl h1 h3 h4 u l i hu he
  | two b0 b1 _ _=>exact qZ1 tab gl h1 h3 h4 h5 h6 b0 b1 u l i hu hk he
 ·rw[zZj,if_neg he];exact qRu tab gl h1 bk u l i he
theorem zDg (h1:LkC tab 99 kR)(x:jI.α)(hx:jI.pre x) :
  qAb.1.wp tab gl (qD 0 (jI.aS x)) (qD 0 (jI.ins x)) (xU [] [(2,some (2,true))] (jI.ins x).length (fun r o=>r=jI.r x∧o=jI.outs x)):=by
 obtain⟨bk,u⟩:=x;obtain⟨hk,hm⟩:=hx;have hk':RK bk:=hk;clear hk;cases hk' with
 | nil=>exact zC9 tab gl u
 | two b0 b1 h0 h1'=>exact zDa tab gl h1 b0 b1 u (hm b0 (.head _)) (hm b1 (.tail _ (.head _)))
theorem qOc (h1:LkC tab 77 jI)(h2:LkC tab 76 xQ)(h3:LkC tab 75 vS)(x:qAe.α)(hx:qAe.pre x) :
  yF.1.wp tab gl (qD 0 (qAe.aS x)) (qD 0 (qAe.ins x)) (qY [(2,some (2,true))] (qAe.ins x).length (fun r o=>r=qAe.r x∧o=qAe.outs x)):=by
 obtain⟨bk,u⟩:=x;have hk:RM bk:=hx;have hk2:=hk.1;clear hx;cases hk2 with
 | nil=>exact qN9 tab gl h1 u
 | two b0 b1 _ _=>exact qOa tab gl h1 h2 h3 b0 b1 u hk
theorem qWm (h1:LkC tab 79 jI)(h2:LkC tab 78 qDn)(x:qAe.α)(hx:qAe.pre x) :
  wM.1.wp tab gl (qD 0 (qAe.aS x)) (qD 0 (qAe.ins x)) (qY [(2,some (2,true))] (qAe.ins x).length (fun r o=>r=qAe.r x∧o=qAe.outs x)):=by
 obtain⟨bk,u⟩:=x;have hk:RM bk:=hx;have hk2:=hk.1;clear hx;cases hk2 with
 | nil=>exact qWi tab gl h1 u
 | two b0 b1 _ _=>exact qWj tab gl h1 h2 b0 b1 u hk
theorem RV.of2 {b0 b1:zE}(h0:qUx b0)(h1:qUx b1)(m0 : ∀ x∈b0,x.length≤64)(m1 : ∀ x∈b1,x.length≤64):RV [b0,b1]:=by
 refine⟨.two _ _ h0 h1,fun b hb=>?_⟩;simp only[List.mem_cons,List.not_mem_nil,or_false] at hb;rcases hb with rfl | rfl
 ·exact m0
 ·exact m1
theorem qKb {b c:zE}(h:qUx b)(hl:List.length c=List.length b):qUx c:=by
 rcases h with h | h
 ·exact .inl (by rw[hl,h])
 ·exact .inr (by rw[hl,h])
theorem zN5 {b:zE}{i:Nat}{y:List UInt8}(h : ∀ x∈b,x.length≤64)(hy:y.length≤64) : ∀ x∈b.set i y,x.length≤64:=by
 intro x hx;rcases List.mem_or_eq_of_mem_set hx with h1 | rfl
 ·exact h x h1
 ·exact hy
theorem RV.cases {bk:List zE}(h:RV bk):bk=[] ∨ ∃ b0 b1,bk=[b0,b1]∧qUx b0∧qUx b1∧(∀ x∈b0,x.length≤64)∧(∀ x∈b1,x.length≤64):=by
 obtain⟨hk,hm⟩:=h;cases hk with
 | nil=>exact .inl rfl
 | two b0 b1 h0 h1=>exact .inr ⟨b0,b1,rfl,h0,h1,hm b0 (.head _),hm b1 (.tail _ (.head _))⟩
theorem zLb {a:Nat}(ha:a<2){b:zE}{i:Nat}{d:List UInt8}(h : ∀ x∈b,x.length≤64) : ∀ x∈qBy a b i d,x.length≤64:=by
 unfold qBy;split
 ·refine zN5 h ?_;have:a=0∨a=1:=oM;rcases this with rfl | rfl
  ·rw[zOm,yJ];omega
  ·rw[zOn,qO];omega
 ·exact h
theorem zNj {a:Nat}(ha:a<2){b:zE}{i:Nat}(h : ∀ x∈b,x.length≤64) : ∀ x∈qTu a b i,x.length≤64:=by
 unfold qTu;split
 ·refine zN5 h ?_;rw[List.length_replicate];have:a=0∨a=1:=oM;rcases this with rfl | rfl<;>decide
 ·exact h
theorem zOj {y:List UInt8}{b:zE}(hy:y.length≤64)(h : ∀ x∈b,x.length≤64) : ∀ k,∀ x∈stN y b k,x.length≤64
 | 0=>h
 | k+1=>zN5 (zOj hy h k) hy
theorem RV.ext {bk:List zE}(h:RV bk)(i:Nat)(ds:List (List UInt8)):RV (qP3 bk i ds):=by
 rcases h.cases with rfl | ⟨b0,b1,rfl,h0,h1,m0,m1⟩
 ·exact h
 ·exact .of2 (qKb h0 qZ) (qKb h1 qZ) (zLb oM m0) (zLb oM m1)
theorem RV.rst {bk:List zE}(h:RV bk)(i:Nat):RV (zEr bk i):=by
 rcases h.cases with rfl | ⟨b0,b1,rfl,h0,h1,m0,m1⟩
 ·exact h
 ·exact .of2 (qKb h0 jQ) (qKb h1 jQ) (zNj oM m0) (zNj oM m1)
theorem RV.res {bk:List zE}(h:RV bk):RV (qU8 bk):=by
 rcases h.cases with rfl | ⟨b0,b1,rfl,h0,h1,m0,m1⟩
 ·exact h
 ·exact .of2 (qKb h0 wO) (qKb h1 wO) (zOj (by rw[List.length_replicate];omega) m0 4) (zOj (by rw[List.length_replicate];omega) m1 4)
structure Sb where
 sd:List (List UInt8)
 au:List (List UInt8)
 en:List UInt8
 act:Int
 res:Int
 rst:Int
 clk:Int
 ord:Bool
 bk:List zE
 u:Int
 mc:Int
 l1:Int
 l2:Int
 l3:Int
 l4:Int
 l5:Int
 l6:Int
def jPq (s:Sb):List T:=[.sl (s.sd.map bsT),.sl (s.au.map bsT),.sl (s.en.map qA),.int .i64 s.act,.int .i64 s.res,.int .i64 s.rst,.int .i64 s.clk,.bool s.ord,.sl (s.bk.map vM),.int .i64 s.u,.int .i64 s.mc,.sl [],.int .i64 s.l1,.int .i64 s.l2,.int .i64 s.l3,.int .i64 s.l4,.int .i64 s.l5,.int .i64 s.l6,.sl []]
def jA5 (s:Sb):T:= .agg (jPq s)
def sb0:Sb:=⟨[],[],[],0,0,0,0,false,[],0,0,0,0,0,0,0,0⟩
def zBw (en:List UInt8)(act:Int):Sb:=if en.length≠32∨act<0∨3<act then sb0 else ⟨[drv en [115,101,101,100] [0] 32,drv en [115,101,101,100] [1] 32,drv en [115,101,101,100] [2] 32],[[],[],[],[]],drv en [101,110,116,114,111,112,121] [] 32,act,0,0,0,true,[],0,0,0,5,100,0,0,1000⟩
def zE4 (en:List UInt8)(act:Int):Int:=if en.length≠32∨act<0∨3<act then 1 else 0
def jDp:T:= .agg [.int .i64 0,.int .i64 5,.int .i64 100,.int .i64 0,.int .i64 0,.int .i64 1000]
def qS4:Ct where
 α:=Unit
 aS _:=[]
 ins _:=[]
 pre _:=True
 r _:= .t jDp
 outs _:=[]
 inj:=fun _ _ _ _=>⟨rfl,rfl⟩
theorem zMa:qS4.fs [] []=some (.t (.agg [.int .i64 0,.int .i64 5,.int .i64 100,.int .i64 0,.int .i64 0,.int .i64 1000]),[]):=qS4.eq () trivial
theorem qZu:qEq.1.wp tab gl (qD 0 []) (qD 0 []) (qY [(0,some (6,true))] 0 (fun r o=>r = .t jDp∧o=[])):=by
 simp(maxSteps:=9^9)(disch:=try exact dS)only[go_sem,qEq,jDp]
theorem zFu:qIc.1.wp tab gl (qD 0 []) (qD 0 []) (qY [(0,some (6,true))] 0 (fun r o=>r = .t jDp∧o=[])):=by
 simp(maxSteps:=9^9)(disch:=try exact dS)only[go_sem,qIc,jDp]
theorem xJ {en:List UInt8}{act:Int}(h:en.length≠32∨act<0∨3<act):zBw en act=sb0∧zE4 en act=1:=⟨if_pos h,if_pos h⟩
def jFp (en:List UInt8)(i:Nat):List UInt8:=drv en [115,101,101,100] [UInt8.ofNat i] 32
theorem zOh {en:List UInt8}{act:Int}(h : ¬ (en.length≠32∨act<0∨3<act)):zBw en act=⟨(List.range 3).map (jFp en),[[],[],[],[]],drv en [101,110,116,114,111,112,121] [] 32,act,0,0,0,true,[],0,0,0,5,100,0,0,1000⟩∧zE4 en act=0:=⟨if_neg h,if_neg h⟩
theorem zGa (h1:LkC tab 70 qS4)(h2:LkC tab 41 qAd)(en:List UInt8)(act:Int)(hl:en.length≤9223372036854775807) :
  qAc.1.wp tab gl (qD 0 [.t (.sl (en.map qA)),.t (.int .i64 act)]) (qD 0 []) (qY [(4,some (19,true)),(5,none)] 0 (fun r o=>r = .tup [.t (jA5 (zBw en act)),.t (.int .i64 (zE4 en act))]∧o=[])):=by
 by_cases c1:en.length=32
 ·by_cases c2:act<0
  ·rw[(xJ (en:=en) (.inr (.inl c2))).1,(xJ (en:=en) (.inr (.inl c2))).2];simp(maxSteps:=9^9)(disch:=try exact dS)only[go_sem,qAc,c1,c2];all_goals rfl
  ·by_cases c3:3<act
   ·rw[(xJ (en:=en) (.inr (.inr c3))).1,(xJ (en:=en) (.inr (.inr c3))).2];simp(maxSteps:=9^9)(disch:=try exact dS)only[go_sem,qAc,c1,c2,c3];all_goals rfl
   ·have ok:=zOh (en:=en) (act:=act) oM;rw[ok.1,ok.2];simp(maxSteps:=9^9)(disch:=try exact dS)only[go_sem,qAc,c1,c2,c3,h1,h2,zMa];refine And.intro rfl ?_;refine qF 3 (fun k=>[(0,.t (.sl (en.map qA))),(4,.ref 4096 0 0),(6,.ref 16448 0 0),(24,.t (.int .i64 (k:Nat)))]) (fun k=>[(9000,.live 1 ((((List.range k).map (jFp en)).map bsT).map V.t) true false),
     (16448,.live 19 [.agg [.sl 9000 0 k,.sl 16384 0 4,.nil,.t (.int .i64 act),.t (.int .i64 0),.t (.int .i64 0),.t (.int .i64 0),.t (.bool true),.nil,.t (.int .i64 0),.t (.int .i64 0),.nil,.t (.int .i64 0),.t (.int .i64 5),.t (.int .i64 100),.t (.int .i64 0),.t (.int .i64 0),.t (.int .i64 1000),.nil]] true true),
     (16384,.live 1 [.nil,.nil,.nil,.nil] true false),(4096,.live 19 [.agg [.nil,.nil,.nil,.t (.int .i64 0),.t (.int .i64 0),.t (.int .i64 0),.t (.int .i64 0),.t (.bool false),.nil,.t (.int .i64 0),.t (.int .i64 0),.nil,.t (.int .i64 0),.t (.int .i64 0),.t (.int .i64 0),.t (.int .i64 0),.t (.int .i64 0),.t (.int .i64 0),.nil]] true true)]) ?_ (fun k hk'=>?_)
    ·refine qI.cv0 (hv:=[(9000,.live 1 [] true false)]) (ho:=[(16448,.live 19 [.agg [.sl 9000 0 0,.sl 16384 0 4,.nil,.t (.int .i64 act),.t (.int .i64 0),.t (.int .i64 0),.t (.int .i64 0),.t (.bool true),.nil,.t (.int .i64 0),.t (.int .i64 0),.nil,.t (.int .i64 0),.t (.int .i64 5),.t (.int .i64 100),.t (.int .i64 0),.t (.int .i64 0),.t (.int .i64 1000),.nil]] true true),
     (16384,.live 1 [.nil,.nil,.nil,.nil] true false),(4096,.live 19 [.agg [.nil,.nil,.nil,.t (.int .i64 0),.t (.int .i64 0),.t (.int .i64 0),.t (.int .i64 0),.t (.bool false),.nil,.t (.int .i64 0),.t (.int .i64 0),.nil,.t (.int .i64 0),.t (.int .i64 0),.t (.int .i64 0),.t (.int .i64 0),.t (.int .i64 0),.t (.int .i64 0),.nil]] true true)]) id ?_ ?_ rfl rfl
     all_goals simp(maxSteps:=9^9)(disch:=try exact dS)only[go_sem,id]
     all_goals rfl
    ·by_cases hlt:k<3
     ·have hD:=qQw (k:=en) (l:=[115,101,101,100]) (c:=[UInt8.ofNat k]) (n:=32) ⟨oM,sM,sM,oM,oM⟩;rw[show ((32:Nat):Int)=32 from rfl] at hD;simp only[mcn] at hD;rw[show drv en [115,101,101,100] [UInt8.ofNat k] 32=jFp en k from rfl] at hD;have lr:(List.range k).length=k:=List.length_range;simp(maxSteps:=9^9)(disch:=try exact dS)only[go_sem,h2,hD,lr,mcn];refine⟨rfl,hlt,qI.rd (fun j=>if j=9000 then 32896 else j) ?_ ?_ rfl⟩;all_goals simp(maxSteps:=9^9)(disch:=try exact dS)only[go_sem,id]
      all_goals first | omega | rfl
     ·have e:k=3:=oM;subst e;have hD:=qQw (k:=en) (l:=[101,110,116,114,111,112,121]) (c:=[]) (n:=32) ⟨oM,sM,sM,oM,oM⟩;rw[show ((32:Nat):Int)=32 from rfl] at hD;simp only[List.map_nil] at hD;simp(maxSteps:=9^9)(disch:=try exact dS)only[go_sem,h2,hD];all_goals rfl
 ·rw[(xJ (act:=act) (.inl c1)).1,(xJ (act:=act) (.inl c1)).2];simp(maxSteps:=9^9)(disch:=try exact dS)only[go_sem,qAc,c1];all_goals rfl
theorem zFv (h2:LkC tab 43 qAd)(h1:LkC tab 71 qS4)(en:List UInt8)(act:Int)(hl:en.length≤9223372036854775807) :
  xZ.1.wp tab gl (qD 0 [.t (.sl (en.map qA)),.t (.int .i64 act)]) (qD 0 []) (qY [(4,some (19,true)),(5,none)] 0 (fun r o=>r = .tup [.t (jA5 (zBw en act)),.t (.int .i64 (zE4 en act))]∧o=[])):=by
 by_cases c1:en.length=32
 ·by_cases c2:act<0
  ·rw[(xJ (en:=en) (.inr (.inl c2))).1,(xJ (en:=en) (.inr (.inl c2))).2];simp(maxSteps:=9^9)(disch:=try exact dS)only[go_sem,xZ,c1,c2];all_goals rfl
  ·by_cases c3:3<act
   ·rw[(xJ (en:=en) (.inr (.inr c3))).1,(xJ (en:=en) (.inr (.inr c3))).2];simp(maxSteps:=9^9)(disch:=try exact dS)only[go_sem,xZ,c1,c2,c3];all_goals rfl
   ·have ok:=zOh (en:=en) (act:=act) oM;rw[ok.1,ok.2];have hE:=qQw (k:=en) (l:=[101,110,116,114,111,112,121]) (c:=[]) (n:=32) ⟨oM,sM,sM,oM,oM⟩;rw[show ((32:Nat):Int)=32 from rfl] at hE;simp only[List.map_nil] at hE;simp(maxSteps:=9^9)(disch:=try exact dS)only[go_sem,xZ,c1,c2,c3,h1,h2,hE,zMa];refine And.intro rfl ?_;refine qF 3 (fun k=>[(0,.t (.sl (en.map qA))),(4,.ref 4096 0 0),(6,.ref 16480 0 0),(7,.t (.int .i64 (k:Nat)))]) (fun k=>[(9000,.live 1 ((((List.range k).map (jFp en)).map bsT).map V.t) true false),
     (16480,.live 19 [.agg [.sl 9000 0 k,.sl 16384 0 4,.t (.sl ((drv en [101,110,116,114,111,112,121] [] 32).map qA)),.t (.int .i64 act),.t (.int .i64 0),.t (.int .i64 0),.t (.int .i64 0),.t (.bool true),.nil,.t (.int .i64 0),.t (.int .i64 0),.nil,.t (.int .i64 0),.t (.int .i64 5),.t (.int .i64 100),.t (.int .i64 0),.t (.int .i64 0),.t (.int .i64 1000),.nil]] true true),
     (16384,.live 1 [.nil,.nil,.nil,.nil] true false),(4096,.live 19 [.agg [.nil,.nil,.nil,.t (.int .i64 0),.t (.int .i64 0),.t (.int .i64 0),.t (.int .i64 0),.t (.bool false),.nil,.t (.int .i64 0),.t (.int .i64 0),.nil,.t (.int .i64 0),.t (.int .i64 0),.t (.int .i64 0),.t (.int .i64 0),.t (.int .i64 0),.t (.int .i64 0),.nil]] true true)]) ?_ (fun k hk'=>?_)
    ·refine qI.cv0 (hv:=[(9000,.live 1 [] true false)]) (ho:=[(16480,.live 19 [.agg [.sl 9000 0 0,.sl 16384 0 4,.t (.sl ((drv en [101,110,116,114,111,112,121] [] 32).map qA)),.t (.int .i64 act),.t (.int .i64 0),.t (.int .i64 0),.t (.int .i64 0),.t (.bool true),.nil,.t (.int .i64 0),.t (.int .i64 0),.nil,.t (.int .i64 0),.t (.int .i64 5),.t (.int .i64 100),.t (.int .i64 0),.t (.int .i64 0),.t (.int .i64 1000),.nil]] true true),
     (16384,.live 1 [.nil,.nil,.nil,.nil] true false),(4096,.live 19 [.agg [.nil,.nil,.nil,.t (.int .i64 0),.t (.int .i64 0),.t (.int .i64 0),.t (.int .i64 0),.t (.bool false),.nil,.t (.int .i64 0),.t (.int .i64 0),.nil,.t (.int .i64 0),.t (.int .i64 0),.t (.int .i64 0),.t (.int .i64 0),.t (.int .i64 0),.t (.int .i64 0),.nil]] true true)]) id ?_ ?_ rfl rfl
     all_goals simp(maxSteps:=9^9)(disch:=try exact dS)only[go_sem,id]
     all_goals rfl
    ·by_cases hlt:k<3
     ·have hD:=qQw (k:=en) (l:=[115,101,101,100]) (c:=[UInt8.ofNat k]) (n:=32) ⟨oM,sM,sM,oM,oM⟩;rw[show ((32:Nat):Int)=32 from rfl] at hD;simp only[mcn] at hD;rw[show drv en [115,101,101,100] [UInt8.ofNat k] 32=jFp en k from rfl] at hD;have lr:(List.range k).length=k:=List.length_range;simp(maxSteps:=9^9)(disch:=try exact dS)only[go_sem,h2,hD,lr,mcn];refine⟨rfl,hlt,qI.rd (fun j=>if j=9000 then 32896 else j) ?_ ?_ rfl⟩;all_goals simp(maxSteps:=9^9)(disch:=try exact dS)only[go_sem,id]
      all_goals first | omega | rfl
     ·have e:k=3:=oM;subst e;simp(maxSteps:=9^9)(disch:=try exact dS)only[go_sem];all_goals rfl
 ·rw[(xJ (act:=act) (.inl c1)).1,(xJ (act:=act) (.inl c1)).2];simp(maxSteps:=9^9)(disch:=try exact dS)only[go_sem,xZ,c1];all_goals rfl
def qP2:Ct where
 α:=List UInt8×Int
 aS x:=[.t (.sl (x.1.map qA)),.t (.int .i64 x.2)]
 ins _:=[]
 pre x:=x.1.length≤9223372036854775807
 r x:= .tup [.t (jA5 (zBw x.1 x.2)),.t (.int .i64 (zE4 x.1 x.2))]
 outs _:=[]
 inj:=by
  rintro⟨a,b⟩ ⟨c,d⟩ h _;simp only[List.cons.injEq,V.t.injEq,T.int.injEq,T.sl.injEq,true_and,and_true,yC] at h;obtain⟨rfl,rfl⟩:=h;exact⟨rfl,rfl⟩
theorem zOg {en:List UInt8}{act:Int}(h:en.length≤9223372036854775807):qP2.fs [.t (.sl (en.map qA)),.t (.int .i64 act)] []=some (.tup [.t (jA5 (zBw en act)),.t (.int .i64 (zE4 en act))],[]):=qP2.eq (en,act) h
theorem jI5 {a b c d e f:Int}:qQ1 .i64 [.int .i64 a,.int .i64 b,.int .i64 c,.int .i64 d,.int .i64 e,.int .i64 f]=some [a,b,c,d,e,f]:=rfl
def qLj:Ct where
 α:=List UInt8
 aS x:=[.t (.sl (x.map qA))]
 ins _:=[]
 pre x:=x.length≤9223372036854775807
 r _:= .sl 0 0 32
 outs x:=[.live 1 (((x.take 32++List.replicate (32-x.length) 0).map qA).map V.t) true false]
 inj:=by
  rintro a c h _;simp only[List.cons.injEq,V.t.injEq,T.sl.injEq,true_and,and_true,yC] at h;subst h;exact⟨rfl,rfl⟩
theorem qT1 {b:List UInt8}(h:b.length≤9223372036854775807):qLj.fs [.t (.sl (b.map qA))] []=some (.sl 0 0 32,[.live 1 (((b.take 32++List.replicate (32-b.length) 0).map qA).map V.t) true false]):=qLj.eq b h
theorem zFs (b:List UInt8)(hb:b.length≤9223372036854775807):qH9.1.wp tab gl (qD 0 [.t (.sl (b.map qA))]) (qD 0 []) (xU [] [(2,none)] 0 (fun r o=>r = .sl 0 0 32∧o=[.live 1 (((b.take 32++List.replicate (32-b.length) 0).map qA).map V.t) true false])):=by
 simp(maxSteps:=9^9)(disch:=try exact dS)only[go_sem,qH9];rw[show 32-min 32 b.length=32-b.length by omega]
theorem vU {α γ:Type}{f:α→γ}{l xs:List α}{i:Nat}:zT (l.map f) i (xs.map f)=(zT l i xs).map f:=by
 simp[zT]
def dgx (a:Nat)(b:List UInt8):List UInt8:=List.take (szA a) b++List.replicate (szA a-min (szA a) b.length) 0
def dg1 (a:Nat)(b:List UInt8):List UInt8:=(dgx a b).set (szA a-1) ((dgx a b).getD (szA a-1) 0 ^^^ UInt8.ofNat a)
theorem qFp {a:Nat}{b:List UInt8}:(dgx a b).length=szA a:=by
 simp[dgx,Nat.min_def];split<;>omega
theorem qFo {a:Nat}{b:List UInt8}:(dg1 a b).length=szA a:=by rw[dg1,List.length_set,qFp]
theorem zUk {b:List UInt8}:List.take 20 b++List.replicate (20-min 20 b.length) 0=dgx 0 b:=rfl
theorem zUl {b:List UInt8}:List.take 32 b++List.replicate (32-min 32 b.length) 0=dgx 1 b:=rfl
theorem kD {b:List UInt8}:(dgx 0 b).length=20:=qFp
theorem kE {b:List UInt8}:(dgx 1 b).length=32:=qFp
theorem zUh {b:List UInt8}:(dgx 0 b).set 19 ((dgx 0 b).getD 19 0 ^^^ 0)=dg1 0 b:=rfl
theorem zUi {b:List UInt8}:(dgx 1 b).set 31 ((dgx 1 b).getD 31 0 ^^^ 1)=dg1 1 b:=rfl
theorem qR5 {b:List UInt8}:(dg1 0 b).length=20:=qFo
theorem qR6 {b:List UInt8}:(dg1 1 b).length=32:=qFo
theorem qOk {b:List UInt8}:List.take 20 (dg1 0 b)=dg1 0 b:=List.take_of_length_le (by rw[qFo];decide)
theorem qOl {b:List UInt8}:List.take 32 (dg1 1 b)=dg1 1 b:=List.take_of_length_le (by rw[qFo];decide)
def dgb (s:Int)(a:Nat)(b:List UInt8):List UInt8:=if s/(2^a:Nat)%2=1 then dg1 a b else []
theorem qWd (s:Int)(b:List UInt8):vP.1.wp tab gl (qD 0 [.t (.int .i64 s),.t (.sl (b.map qA))]) (qD 0 []) (xU [] [(4,none)] 0 (fun r o=>r = .sl 0 0 2∧o=[.live 1 [.t (bsT (dgb s 0 b)),.t (bsT (dgb s 1 b))] true false])):=by
 have hf1:s.fdiv 1=s:=Int.fdiv_one s;have hf2:s.fdiv 2=s/2:=Int.fdiv_eq_ediv_of_nonneg s oM;have hc0:s%2=0∨s%2=1:=oM;have hc1:s/2%2=0∨s/2%2=1:=oM;have hz20:List.replicate 20 (V.t (qA 0))=((List.replicate 20 (0:UInt8)).map qA).map V.t:=sM;have hz32:List.replicate 32 (V.t (qA 0))=((List.replicate 32 (0:UInt8)).map qA).map V.t:=sM;have ht20 : ∀ m:Nat,List.take m ((b.map qA).map V.t)=((b.take m).map qA).map V.t:=fun m=>sM
 have l0:(dgx 0 b).length=20:=qFp;have l1:(dgx 1 b).length=32:=qFp;have hw0:T.int .u8 (IntKind.u8.wrap 0)=qA 0:=rfl;have hw1:T.int .u8 (IntKind.u8.wrap 1)=qA 1:=rfl;rcases hc0 with c0 | c0<;>rcases hc1 with c1 | c1
 ·have e0:dgb s 0 b=[]:=by unfold dgb;rw[if_neg (by simp[c0])]
  have e1:dgb s 1 b=[]:=by unfold dgb;rw[if_neg (by simp[c1])]
  rw[e0,e1];simp(disch:=omega)only[go_sem,vP];refine qF 2 (fun k=>match k with | 0=>[(0,.t (.int .i64 s)),(1,.t (.sl (b.map qA))),(5,.sl 8192 0 2),(6,.t (.int .i64 0))] | 1=>[(0,.t (.int .i64 s)),(1,.t (.sl (b.map qA))),(5,.sl 8192 0 2),(6,.t (.int .i64 1))] | _=>[(0,.t (.int .i64 s)),(1,.t (.sl (b.map qA))),(5,.sl 8192 0 2),(6,.t (.int .i64 2))]) (fun k=>match k with | 0=>[(8192,.live 1 [.t (bsT []),.t (bsT [])] true false)] | 1=>[(8192,.live 1 [.t (bsT []),.t (bsT [])] true false)] | _=>[(8192,.live 1 [.t (bsT []),.t (bsT [])] true false)]) ?_ (fun k hk2=>?_)
  ·refine qI.rd id ?_ ?_ rfl;all_goals simp(disch:=omega)only[go_sem,id,List.map_nil]
  ·rcases (show k=0∨k=1∨k=2 by omega) with rfl | rfl | rfl
   ·simp(disch:=omega)only[go_sem,c0,c1,hf1,hf2,hz20,hz32,ht20,vU,zUk,zUl,kD,kE,hw0,hw1,zUh,zUi,List.map_nil];refine qI.rd id ?_ ?_ rfl;all_goals simp(disch:=omega)only[go_sem,id,List.map_nil]
   ·simp(disch:=omega)only[go_sem,c0,c1,hf1,hf2,hz20,hz32,ht20,vU,zUk,zUl,kD,kE,hw0,hw1,zUh,zUi,List.map_nil];refine qI.rd id ?_ ?_ rfl;all_goals simp(disch:=omega)only[go_sem,id,List.map_nil]
   ·simp(disch:=omega)only[go_sem,c0,c1,hf1,hf2,List.map_nil]
 ·have e0:dgb s 0 b=[]:=by unfold dgb;rw[if_neg (by simp[c0])]
  have e1:dgb s 1 b=(dg1 1 b):=by unfold dgb;rw[if_pos (by simp[c1])]
  rw[e0,e1];simp(disch:=omega)only[go_sem,vP];refine qF 2 (fun k=>match k with | 0=>[(0,.t (.int .i64 s)),(1,.t (.sl (b.map qA))),(5,.sl 8192 0 2),(6,.t (.int .i64 0))] | 1=>[(0,.t (.int .i64 s)),(1,.t (.sl (b.map qA))),(5,.sl 8192 0 2),(6,.t (.int .i64 1))] | _=>[(0,.t (.int .i64 s)),(1,.t (.sl (b.map qA))),(5,.sl 8192 0 2),(6,.t (.int .i64 2))]) (fun k=>match k with | 0=>[(8192,.live 1 [.t (bsT []),.t (bsT [])] true false)] | 1=>[(8192,.live 1 [.t (bsT []),.t (bsT [])] true false)] | _=>[(8192,.live 1 [.t (bsT []),.t (bsT (dg1 1 b))] true false)]) ?_ (fun k hk2=>?_)
  ·refine qI.rd id ?_ ?_ rfl;all_goals simp(disch:=omega)only[go_sem,id,List.map_nil]
  ·rcases (show k=0∨k=1∨k=2 by omega) with rfl | rfl | rfl
   ·simp(disch:=omega)only[go_sem,c0,c1,hf1,hf2,hz20,hz32,ht20,vU,zUk,zUl,kD,kE,hw0,hw1,zUh,zUi,List.map_nil];refine qI.rd id ?_ ?_ rfl;all_goals simp(disch:=omega)only[go_sem,id,List.map_nil]
   ·simp(disch:=omega)only[go_sem,c0,c1,hf1,hf2,hz20,hz32,ht20,vU,zUk,zUl,kD,kE,hw0,hw1,zUh,zUi,List.map_nil];refine qI.cv (hv:=[]) [28720] id ?_ rfl;simp(disch:=omega)only[go_sem,id,qR5,qR6,qOk,qOl,List.map_nil];all_goals rfl
   ·simp(disch:=omega)only[go_sem,c0,c1,hf1,hf2,List.map_nil]
 ·have e0:dgb s 0 b=(dg1 0 b):=by unfold dgb;rw[if_pos (by simp[c0])]
  have e1:dgb s 1 b=[]:=by unfold dgb;rw[if_neg (by simp[c1])]
  rw[e0,e1];simp(disch:=omega)only[go_sem,vP];refine qF 2 (fun k=>match k with | 0=>[(0,.t (.int .i64 s)),(1,.t (.sl (b.map qA))),(5,.sl 8192 0 2),(6,.t (.int .i64 0))] | 1=>[(0,.t (.int .i64 s)),(1,.t (.sl (b.map qA))),(5,.sl 8192 0 2),(6,.t (.int .i64 1))] | _=>[(0,.t (.int .i64 s)),(1,.t (.sl (b.map qA))),(5,.sl 8192 0 2),(6,.t (.int .i64 2))]) (fun k=>match k with | 0=>[(8192,.live 1 [.t (bsT []),.t (bsT [])] true false)] | 1=>[(8192,.live 1 [.t (bsT (dg1 0 b)),.t (bsT [])] true false)] | _=>[(8192,.live 1 [.t (bsT (dg1 0 b)),.t (bsT [])] true false)]) ?_ (fun k hk2=>?_)
  ·refine qI.rd id ?_ ?_ rfl;all_goals simp(disch:=omega)only[go_sem,id,List.map_nil]
  ·rcases (show k=0∨k=1∨k=2 by omega) with rfl | rfl | rfl
   ·simp(disch:=omega)only[go_sem,c0,c1,hf1,hf2,hz20,hz32,ht20,vU,zUk,zUl,kD,kE,hw0,hw1,zUh,zUi,List.map_nil];refine qI.cv (hv:=[]) [28720] id ?_ rfl;simp(disch:=omega)only[go_sem,id,qR5,qR6,qOk,qOl,List.map_nil];all_goals rfl
   ·simp(disch:=omega)only[go_sem,c0,c1,hf1,hf2,hz20,hz32,ht20,vU,zUk,zUl,kD,kE,hw0,hw1,zUh,zUi,List.map_nil];refine qI.rd id ?_ ?_ rfl;all_goals simp(disch:=omega)only[go_sem,id,List.map_nil]
   ·simp(disch:=omega)only[go_sem,c0,c1,hf1,hf2,List.map_nil]
 ·have e0:dgb s 0 b=(dg1 0 b):=by unfold dgb;rw[if_pos (by simp[c0])]
  have e1:dgb s 1 b=(dg1 1 b):=by unfold dgb;rw[if_pos (by simp[c1])]
  rw[e0,e1];simp(disch:=omega)only[go_sem,vP];refine qF 2 (fun k=>match k with | 0=>[(0,.t (.int .i64 s)),(1,.t (.sl (b.map qA))),(5,.sl 8192 0 2),(6,.t (.int .i64 0))] | 1=>[(0,.t (.int .i64 s)),(1,.t (.sl (b.map qA))),(5,.sl 8192 0 2),(6,.t (.int .i64 1))] | _=>[(0,.t (.int .i64 s)),(1,.t (.sl (b.map qA))),(5,.sl 8192 0 2),(6,.t (.int .i64 2))]) (fun k=>match k with | 0=>[(8192,.live 1 [.t (bsT []),.t (bsT [])] true false)] | 1=>[(8192,.live 1 [.t (bsT (dg1 0 b)),.t (bsT [])] true false)] | _=>[(8192,.live 1 [.t (bsT (dg1 0 b)),.t (bsT (dg1 1 b))] true false)]) ?_ (fun k hk2=>?_)
  ·refine qI.rd id ?_ ?_ rfl;all_goals simp(disch:=omega)only[go_sem,id,List.map_nil]
  ·rcases (show k=0∨k=1∨k=2 by omega) with rfl | rfl | rfl
   ·simp(disch:=omega)only[go_sem,c0,c1,hf1,hf2,hz20,hz32,ht20,vU,zUk,zUl,kD,kE,hw0,hw1,zUh,zUi,List.map_nil];refine qI.cv (hv:=[]) [28720] id ?_ rfl;simp(disch:=omega)only[go_sem,id,qR5,qR6,qOk,qOl,List.map_nil];all_goals rfl
   ·simp(disch:=omega)only[go_sem,c0,c1,hf1,hf2,hz20,hz32,ht20,vU,zUk,zUl,kD,kE,hw0,hw1,zUh,zUi,List.map_nil];refine qI.cv (hv:=[]) [28720] id ?_ rfl;simp(disch:=omega)only[go_sem,id,qR5,qR6,qOk,qOl,List.map_nil];all_goals rfl
   ·simp(disch:=omega)only[go_sem,c0,c1,hf1,hf2,List.map_nil]
def qQu:Ct where
 α:=Int×List UInt8
 aS x:=[.t (.int .i64 x.1),.t (.sl (x.2.map qA))]
 ins _:=[]
 pre _:=True
 r _:= .sl 0 0 2
 outs x:=[.live 1 [.t (bsT (dgb x.1 0 x.2)),.t (bsT (dgb x.1 1 x.2))] true false]
 inj:=by
  rintro⟨s,b⟩ ⟨t,c⟩ h _;simp only[List.cons.injEq,V.t.injEq,T.int.injEq,T.sl.injEq,true_and,and_true,yC] at h;obtain⟨rfl,rfl⟩:=h;exact⟨rfl,rfl⟩
def dgB (s:Int)(b:List UInt8):List (List UInt8):=[dgb s 0 b,dgb s 1 b]
theorem zK2 {s:Int}{a:Nat}{b:List UInt8}(ha:a<2):(dgb s a b).length≤32:=by
 unfold dgb;split
 ·rw[qFo];have:a=0∨a=1:=oM;rcases this with rfl | rfl<;>decide
 ·simp
def zW6 (x:List zE×Int)(l i:Int)(ds:List (List UInt8)):List zE×Int:=if qKq x.1 l i ds=0 then (qP3 x.1 i.toNat ds,x.2+1) else x
def evP (x:List zE×Int)(l i:Int)(d:List UInt8):List zE×Int:=if 128<d.length then x else zW6 x l i (qS6 x.1 d)
def jKg (x:List zE×Int)(l i:Int):List zE×Int:=if zNl l i=0 then (zEr x.1 i.toNat,x.2+1) else x
def Ans (x:List zE×Int)(v:V)(y:List zE×Int):Prop := ∃ (bk:List zE) (u e:Int),v = .tup [.t (.agg [.sl (bk.map vM),.int .i64 u]),.t (.int .i64 e)]∧((e=0∧y=(bk,u))∨(e≠0∧y=x))
def RS (n:Nat)(x:List zE×Int):Prop:=RV x.1∧0≤x.2∧x.2≤n
theorem RS.up {n m:Nat}{x:List zE×Int}(h:RS n x)(hm:n≤m):RS m x:=⟨h.1,h.2.1,by have:=h.2.2;omega⟩
theorem RS.ext {n:Nat}{x:List zE×Int}(h:RS n x)(l i:Int)(ds:List (List UInt8)):RS (n+1) (zW6 x l i ds):=by
 unfold zW6;split
 ·exact⟨h.1.ext _ _,by have:=h.2.1;simp only;omega,by have:=h.2.2;simp only;omega⟩
 ·exact h.up oM
theorem RS.ev {n:Nat}{x:List zE×Int}(h:RS n x)(l i:Int)(d:List UInt8):RS (n+1) (evP x l i d):=by
 unfold evP;split
 ·exact h.up oM
 ·exact h.ext _ _ _
theorem RS.rst {n:Nat}{x:List zE×Int}(h:RS n x)(l i:Int):RS (n+1) (jKg x l i):=by
 unfold jKg;split
 ·exact⟨h.1.rst _,by have:=h.2.1;simp only;omega,by have:=h.2.2;simp only;omega⟩
 ·exact h.up oM
theorem RS.rsm {n:Nat}{x:List zE×Int}(h:RS n x):RS (n+1) (qU8 x.1,x.2):=⟨h.1.res,h.2.1,by have:=h.2.2;simp only;omega⟩
def drS (s:Int)(i k:Nat)(x:List zE×Int):List zE×Int:=
 if k%8<3 then evP x 4 (k/8%16:Nat) [UInt8.ofNat k,UInt8.ofNat i]
 else if k%8<6 then zW6 x 4 (k/8%16:Nat) (dgB s [UInt8.ofNat k,UInt8.ofNat i])
 else if k%8=6 then jKg x 4 (12+k/8%4:Nat)
 else (qU8 x.1,x.2)
def drN (s:Int)(cs:List UInt8):Nat→List zE×Int
 | 0=>(qCr s,0)
 | i+1=>drS s i (cs.getD i 0).toNat (drN s cs i)
theorem RS.dr {s:Int}{i k n:Nat}{x:List zE×Int}(h:RS n x):RS (n+1) (drS s i k x):=by
 unfold drS;split
 ·exact h.ev _ _ _
 ·split
  ·exact h.ext _ _ _
  ·split
   ·exact h.rst _ _
   ·exact h.rsm
def dr (s:Int)(cs:List UInt8):List zE×Int:=drN s cs (min cs.length 12)
theorem Ans.rv {x:List zE×Int}{v:V}{y:List zE×Int}(h:Ans x v y)(hv : ∃ bk' u' e,v = .tup [.t (yL bk' u'),.t (.int .i64 e)]∧RV bk'∧(e=0→u'=x.2+1)) : ∃ bk' u' e,v = .tup [.t (.agg [.sl (bk'.map vM),.int .i64 u']),.t (.int .i64 e)]∧RM bk':=by
 obtain⟨bk',u',e,h1,h2,_⟩:=hv;exact⟨bk',u',e,h1,h2.rm⟩
def evB (bk:List zE)(n:Nat)(data:List UInt8):List zE:=qP3 bk n (qS6 bk data)
theorem RK.cases {bk:List zE}(h:RK bk):bk=[] ∨ ∃ b0 b1,bk=[b0,b1]∧qUx b0∧qUx b1:=by
 cases h with
 | nil=>exact .inl rfl
 | two b0 b1 h0 h1=>exact .inr ⟨b0,b1,rfl,h0,h1⟩
theorem zAn {b0 b1:zE}{i:Nat}{ds:List (List UInt8)}:qP3 [b0,b1] i ds=[qBy 0 b0 i (ds.getD 0 []),qBy 1 b1 i (ds.getD 1 [])]:=rfl
theorem RV.ev {bk:List zE}(h:RV bk)(n:Nat)(d:List UInt8):RV (evB bk n d):=h.ext _ _
def vN:Ct where
 α:=List UInt8×Nat×Int
 aS x:=[.t (.sl (x.1.map qA)),.t (.int .i64 x.2.1),.t (.int .i64 x.2.2)]
 ins _:=[]
 pre x:=x.1.length<1000000000∧1≤x.2.1∧x.2.1≤8
 r x:= .sl 0 0 (x.1.length+x.2.1)
 outs x:=[.live 1 (((x.1++beI x.2.1 x.2.2 x.2.1).map qA).map V.t) true false]
 inj:=by
  rintro⟨a,s,n⟩ ⟨c,t,m⟩ h _;simp only[List.cons.injEq,V.t.injEq,T.sl.injEq,T.int.injEq,true_and,and_true,yC,Int.natCast_inj] at h;obtain⟨rfl,rfl,rfl⟩:=h;exact⟨rfl,rfl⟩
theorem jAe {b:List UInt8}{n:Int}(hb:b.length<1000000000):vN.fs [.t (.sl (b.map qA)),.t (.int .i64 2),.t (.int .i64 n)] []=some (.sl 0 0 (b.length+2),[.live 1 (((b++beI 2 n 2).map qA).map V.t) true false]):=vN.eq (b,2,n) ⟨hb,by show 1≤2;omega,by show 2≤8;omega⟩
theorem qIv {s k:Nat}{n:Int}:(beI s n k).length=k:=by simp[beI]
def qK3 (bk:List zE)(a:Nat)(s:Int):Nat→List UInt8
 | 0=>[]
 | i+1=>if s/2^i%2=1 then qK3 bk a s i++zJo bk a i else qK3 bk a s i
theorem qXo {n:Nat}:(zUb n).length=4:=rfl
theorem zHk {bk:List zE}{a:Nat}{s:Int}:qK3 bk a s 0=[]:=rfl
theorem zHj {bk:List zE}{a i:Nat}{s:Int}(h:s/2^i%2=1):qK3 bk a s (i+1)=qK3 bk a s i++zJo bk a i:=if_pos h
theorem qSe {bk:List zE}{a i:Nat}{s:Int}(h : ¬ s/2^i%2=1):qK3 bk a s (i+1)=qK3 bk a s i:=if_neg h
def PD (A B:Prop)(k:Nat):Prop:=(1≤k→A)∧(2≤k→B)
def zPw (s:Int):Prop:=s<0∨65535<s
instance {s:Int}:Decidable (zPw s):=inferInstanceAs (Decidable (_∨_))
def zEl (s0 s1:Int):List UInt8:=beI 2 s0 2++beI 2 s1 2
def zV4 (bk:List zE)(s0 s1:Int):List UInt8:=qK3 bk 0 s0 16++qK3 bk 1 s1 16
def zGw (bk:List zE)(s0 s1:Int):Int:=if zPw s0∨zPw s1 then 1 else if (s0≠0∧onB bk 0=false)∨(s1≠0∧onB bk 1=false) then 27 else 0
def zPg (bk:List zE)(s0 s1:Int):V:=if zGw bk s0 s1=0 then .tup [.sl 0 0 32,.t (.int .i64 0)] else .tup [.nil,.t (.int .i64 (zGw bk s0 s1))]
def zPf (bk:List zE)(s0 s1:Int):List Ob:=if zGw bk s0 s1=0 then [.live 1 (((zEk 5 [zEl s0 s1,zV4 bk s0 s1]).map qA).map V.t) true false] else []
theorem qD6 {bk:List zE}(h:RV bk)(a:Nat)(s:Int) : ∀ i,(qK3 bk a s i).length≤64*i
 | 0=>by simp[qK3]
 | i+1=>by
  have ih:=qD6 h a s i;have hv:(zJo bk a i).length≤64:=by
   unfold zJo;rcases h.cases with rfl | ⟨b0,b1,rfl,_,_,m0,m1⟩
   ·simp
   ·match a with
    | 0=>exact qX1 m0
    | 1=>exact qX1 m1
    | a+2=>simp
  unfold qK3;split
  ·rw[List.length_append];omega
  ·omega
def xP:Ct where
 α:=Nat×List (List UInt8)
 aS x:=[.t (.int .i64 x.1),.t (.sl (x.2.map bsT))]
 ins _:=[]
 pre x:=x.1<256∧(jS x.1 x.2).length<1000000000
 r _:= .sl 0 0 32
 outs x:=[.live 1 (((zEk x.1 x.2).map qA).map V.t) true false]
 inj:=by
  rintro⟨a,b⟩ ⟨c,d⟩ h _;simp[qFt,Int.natCast_inj] at h;obtain⟨rfl,rfl⟩:=h;exact⟨rfl,rfl⟩
theorem zQt {x y:List UInt8}(h:(jS 5 [x,y]).length<1000000000):xP.fs [.t (.int .i64 5),.t (.sl [.sl (x.map qA),.sl (y.map qA)])] []=some (.sl 0 0 32,[.live 1 (((zEk 5 [x,y]).map qA).map V.t) true false]):=xP.eq (5,[x,y]) ⟨by show 5<256;omega,h⟩
theorem zE7 {b:List UInt8}{n:Int}(hb:b.length<1000000000):vN.fs [.t (.sl (b.map qA)),.t (.int .i64 8),.t (.int .i64 n)] []=some (.sl 0 0 (b.length+8),[.live 1 (((b++beI 8 n 8).map qA).map V.t) true false]):=vN.eq (b,8,n) ⟨hb,by show 1≤8;omega,by show 8≤8;omega⟩
abbrev rdO (s:Rd):Ob:= .live 3 [.t (.agg [.sl (s.1.map qA),.int .i64 (s.2.1:Int),.int .i64 s.2.2])] true true
def qLi:Ct where
 α:=List UInt8
 aS x:=[.t (.sl (x.map qA))]
 ins _:=[]
 pre x:=x.length<1000000000
 r _:= .ref 0 0 0
 outs x:=[qOz (x,0,0)]
 inj:=by
  intro a b h _;simp only[List.cons.injEq,V.t.injEq,T.sl.injEq,and_true,yC] at h;subst h;exact⟨rfl,rfl⟩
theorem qYc {b:List UInt8}(h:b.length<1000000000):qLi.fs [.t (.sl (b.map qA))] []=some (.ref 0 0 0,[rdO (b,0,0)]):=qLi.eq b h
def qP0:Ct where
 α:=Rd×Nat
 aS x:=[.ref 0 0 0,.t (.int .i64 x.2)]
 ins x:=[qOz x.1]
 pre x:=qN2 x.1∧1≤x.2∧x.2≤8
 r x:= .t (.int .i64 (qBt x.1 x.2).1)
 outs x:=[qOz (qBt x.1 x.2).2]
 inj:=by
  rintro⟨s,a⟩ ⟨t,c⟩ h1 h2;simp only[List.cons.injEq,V.t.injEq,T.int.injEq,true_and,and_true,Int.natCast_inj] at h1;simp only[List.cons.injEq,and_true] at h2;subst h1;cases qKk h2;exact⟨rfl,rfl⟩
theorem zNg {s:Rd}{k:Nat}(h:qN2 s∧1≤k∧k≤8):qP0.fs [.ref 0 0 0,.t (.int .i64 k)] [rdO s]=some (.t (.int .i64 (qBt s k).1),[rdO (qBt s k).2]):=qP0.eq (s,k) h
def qS5:Ct where
 α:=Rd×Nat
 aS x:=[.ref 0 0 0,.t (.int .i64 x.2)]
 ins x:=[qOz x.1]
 pre x:=qN2 x.1∧x.2≤1000000000
 r x:= .t (.sl ((qQd x.1 x.2).1.map qA))
 outs x:=[qOz (qQd x.1 x.2).2]
 inj:=by
  rintro⟨s,a⟩ ⟨t,c⟩ h1 h2;simp only[List.cons.injEq,V.t.injEq,T.int.injEq,true_and,and_true,Int.natCast_inj] at h1;simp only[List.cons.injEq,and_true] at h2;subst h1;cases qKk h2;exact⟨rfl,rfl⟩
theorem zZi {s:Rd}{k:Nat}(h:qN2 s∧k≤1000000000):qS5.fs [.ref 0 0 0,.t (.int .i64 k)] [rdO s]=some (.t (.sl ((qQd s k).1.map qA)),[rdO (qQd s k).2]):=qS5.eq (s,k) h
def qLh:Ct where
 α:=Rd
 aS _:=[.ref 0 0 0]
 ins x:=[qOz x]
 pre x:=qN2 x
 r x:= .t (.int .i64 (qU7 x))
 outs x:=[qOz x]
 inj:=by
  intro s t _ h2;simp only[List.cons.injEq,and_true] at h2;cases qKk h2;exact⟨rfl,rfl⟩
theorem zNd {s:Rd}(h:qN2 s):qLh.fs [.ref 0 0 0] [rdO s]=some (.t (.int .i64 (qU7 s)),[rdO s]):=qLh.eq s h
theorem zM6 {s:Rd}{k:Nat}(h:qN2 s):qN2 (qBt s k).2:=by
 unfold qBt qN2 at *;split
 ·exact h
 ·split
  ·exact h
  ·split
   ·exact h
   ·exact⟨by simp only;omega,h.2⟩
theorem zR0 {s:Rd}{k:Nat}(h:qN2 s):qN2 (qQd s k).2:=by
 unfold qQd qN2 at *;split
 ·exact h
 ·split
  ·exact h
  ·exact⟨by simp only;omega,h.2⟩
theorem zRz {s:Rd}{k:Nat}:(qQd s k).1.length≤k:=by
 unfold qQd;split
 ·simp
 ·split
  ·simp
  ·simp only[List.length_take];omega
def jIq (s:Rd):Int:=(qBt s 1).1
def jKb (s:Rd):Prop:=(qBt s 1).2.2.2=0∧4≤jIq s
instance {s:Rd}:Decidable (jKb s):=inferInstanceAs (Decidable (_∧_))
theorem zNk {b0 b1:zE}{i:Nat}:zEr [b0,b1] i=[qTu 0 b0 i,qTu 1 b1 i]:=rfl
def RZ (bk:List zE):Prop := ∀ a,a<2 → ∀ x∈bk.getD a [],x.length=szA a
theorem qYl {b:zE}{i z:Nat}{y:List UInt8}(h : ∀ x∈b,x.length=z)(hy:y.length=z) : ∀ x∈b.set i y,x.length=z:=by
 intro x hx;rcases List.mem_or_eq_of_mem_set hx with h1 | rfl
 ·exact h x h1
 ·exact hy
theorem zOl {y:List UInt8}{b:zE}{z:Nat}(hy:y.length=z)(h : ∀ x∈b,x.length=z) : ∀ k,∀ x∈stN y b k,x.length=z
 | 0=>h
 | k+1=>qYl (zOl hy h k) hy
theorem RZ.two {b0 b1:zE}(h0 : ∀ x∈b0,x.length=20)(h1 : ∀ x∈b1,x.length=32):RZ [b0,b1]:=by
 intro a ha
 match a,ha with
 | 0,_=>exact h0
 | 1,_=>exact h1
theorem RZ.nil:RZ []:=by
 intro a ha x hx;simp at hx
theorem RZ.ext {bk:List zE}{i:Nat}{ds:List (List UInt8)}(hv:RV bk)(h:RZ bk):RZ (qP3 bk i ds):=by
 rcases hv.1.cases with rfl | ⟨b0,b1,rfl,g0,g1⟩
 ·exact RZ.nil
 ·rw[zAn];refine RZ.two ?_ ?_
  ·unfold qBy;split
   ·exact qYl (h 0 oM) (qHs (a:=0))
   ·exact h 0 oM
  ·unfold qBy;split
   ·exact qYl (h 1 oM) (qHs (a:=1))
   ·exact h 1 oM
theorem RZ.rst {bk:List zE}{i:Nat}(hv:RV bk)(h:RZ bk):RZ (zEr bk i):=by
 rcases hv.1.cases with rfl | ⟨b0,b1,rfl,g0,g1⟩
 ·exact RZ.nil
 ·rw[zNk];refine RZ.two ?_ ?_
  ·unfold qTu;split
   ·exact qYl (h 0 oM) List.length_replicate
   ·exact h 0 oM
  ·unfold qTu;split
   ·exact qYl (h 1 oM) List.length_replicate
   ·exact h 1 oM
theorem RZ.res {bk:List zE}(hv:RV bk)(h:RZ bk):RZ (qU8 bk):=by
 rcases hv.1.cases with rfl | ⟨b0,b1,rfl,g0,g1⟩
 ·exact RZ.nil
 ·exact RZ.two (zOl List.length_replicate (h 0 oM) 4) (zOl List.length_replicate (h 1 oM) 4)
theorem zG7 {a:Nat} : ∀ x∈qFe a,x.length=szA a:=by
 intro x hx;unfold qFe at hx;obtain⟨i,_,rfl⟩:=List.mem_map.1 hx;exact List.length_replicate
theorem RZ.new {s:Int}:RZ (qCr s):=by
 unfold qCr;split
 ·exact RZ.nil
 ·refine RZ.two ?_ ?_
  ·split
   ·exact zG7 (a:=0)
   ·intro x hx;simp at hx
  ·split
   ·exact zG7 (a:=1)
   ·intro x hx;simp at hx
theorem zDf (x:kB.α)(hx:kB.pre x):yE.1.wp tab gl (qD 0 (kB.aS x)) (qD 0 (kB.ins x)) (qY [(4,none)] (kB.ins x).length (fun r o=>r=kB.r x∧o=kB.outs x)):=
 qWe tab gl x.1.1 x.1.2.1 x.1.2.2 x.2 hx.1 hx.2
abbrev Ev:=Int×Int×List (List UInt8)×List UInt8
def evM (e:Ev):Prop:=zDo e.2.2.1∧e.2.2.2.length<1000000000
def jPk (r k act:Int):Prop:=act<1∨3<act∨r<0∨11<r∨k<1∨5<k
instance {r k act:Int}:Decidable (jPk r k act):=by unfold jPk;infer_instance
def okC (c:UInt8):Bool := !decide (c.toNat<32) && !decide (c.toNat>126)
end Go.Eng
end
