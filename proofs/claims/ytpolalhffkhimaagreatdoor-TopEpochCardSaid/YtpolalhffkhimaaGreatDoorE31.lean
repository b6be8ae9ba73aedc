/- A part of an abstract machine, its walks, their tie. -/
import Derived.Test.YtpolalhffkhimaaGreatDoorE30
set_option linter.all false
section
set_option maxHeartbeats 64000000
set_option maxRecDepth 20000
namespace Go.Eng
variable (tab:Tab) (gl:Gl)
def jVc:ECt where
 α:=Rd×Int
 β:=Ix×Rd×Int
 aS:=fun (s,e)=>[.ref 0 0 0]
 ins:=fun (s,e)=>[IE 1 e,kH s]
 pre:=fun (s,e)=>Rn s e
 r:=fun (v,s,e)=> .t (ixA v)
 outs:=fun (v,s,e)=>[IE 1 e,kH s]
 R:=fun (s,e) (v,s',e')=>(v,et s' e')=jF3 (et s e)∧Rn s' e'
 inj:=by
  rintro⟨s,e⟩ ⟨s',e'⟩ _ h2;simp only[List.cons.injEq,and_true] at h2;cases jVi h2.1;cases qCy h2.2;rfl
theorem jWy {g:EF jVc}{s:Rd}{e:Int}(h:Rn s e) : ∃ v s' e',((v,et s' e')=jF3 (et s e)∧Rn s' e')∧jVc.fs g [.ref 0 0 0] [IE 1 e,rdO s]=some (.t (ixA v),[IE 1 e',rdO s']):=by
 obtain⟨⟨v,s',e'⟩,h1,h2⟩:=jVc.eq g (s,e) h;exact⟨v,s',e',h1,h2⟩
theorem jU6 {g1}(h1:LkE tab 83 jU3 g1){g2}(h2:LkE tab 87 jU4 g2){g3}(h3:LkE tab 86 jU0 g3)(s:Rd)(e:Int)(hp:Rn s e) :
  qJ3.1.wp tab gl (qE 0 [.ref 0 0 0]) (qE 0 [IE 1 e,kH s]) (zA [(2,some (8,true))] 2 (jVc.K (s,e))):=by
 obtain⟨n,s1,f1,⟨q1,m1⟩,e1⟩:=jUy (g:=g1) (k:=1) ⟨hp,oM,oM⟩;obtain⟨kd,s2,f2,⟨q2,m2⟩,e2⟩:=jUy (g:=g1) (k:=1) ⟨m1,oM,oM⟩;obtain⟨ar,s3,f3,⟨q3,m3⟩,e3⟩:=jUy (g:=g1) (k:=1) ⟨m2,oM,oM⟩;obtain⟨sz,s4,f4,⟨q4,m4⟩,e4⟩:=jUy (g:=g1) (k:=2) ⟨m3,oM,oM⟩;obtain⟨w,s5,f5,⟨⟨q5,q5'⟩,m5⟩,e5⟩:=jWn (g:=g2) m4;obtain⟨po,s6,f6,⟨q6,m6⟩,e6⟩:=jVj (g:=g3) m5;obtain⟨au,s7,f7,⟨q7,m7⟩,e7⟩:=jVj (g:=g3) m6;obtain⟨da,s8,f8,⟨q8,m8⟩,e8⟩:=jVj (g:=g3) m7;obtain⟨x,hx⟩ : ∃ x,zWe (et s4 f4) 1=(x,et s5 f5):=⟨_,Prod.ext rfl q5'.symm⟩;rw[hx] at q5;have hd:jF3 (et s e)=(⟨n,kd,ar,sz,po,au,w,da⟩,et s8 f8):=by simp only[jF3,←q1,←q2,←q3,←q4,hx,←q6,←q7,←q8,q5]
 rw[show ((1:Nat):Int)=1 from rfl] at e1 e2 e3;rw[show ((2:Nat):Int)=2 from rfl] at e4;simp only[rdO,jUw] at e1 e2 e3 e4 e5 e6 e7 e8;simp(maxSteps:=9^9)(disch:=try exact dS)only[go_sem,qJ3,jUw,jUx,h1,h2,h3,e1,e2,e3,e4,e5,e6,e7,e8];exact⟨(⟨n,kd,ar,sz,po,au,w,da⟩,s8,f8),⟨hd.symm,m8⟩,rfl,rfl⟩
def jVa:ECt where
 α:=Rd×Int×Nat
 β:=List (List UInt8)×Rd×Int
 aS:=fun (s,e,n)=>[.t (.int .i64 n),.ref 0 0 0]
 ins:=fun (s,e,n)=>[.live 1 [.ref 1 0 0] true true,IE 2 e,kH s]
 pre:=fun (s,e,n)=>Rn s e∧n≤10
 r:=fun (v,s,e)=> .t (.sl (v.map bsT))
 outs:=fun (v,s,e)=>[.live 1 [.ref 1 0 0] true true,IE 2 e,kH s]
 R:=fun (s,e,n) (v,s',e')=>(v,et s' e')=zZp (et s e) n∧Rn s' e'
 inj:=by
  rintro⟨s,e,n⟩ ⟨s',e',n'⟩ h h2;simp only[List.cons.injEq,V.t.injEq,T.int.injEq,true_and,and_true,Int.natCast_inj] at h h2;subst h;cases jVi h2.1;cases qCy h2.2;rfl
theorem jWm {g:EF jVa}{s:Rd}{e:Int}{n:Nat}(h:Rn s e∧n≤10) : ∃ v s' e',((v,et s' e')=zZp (et s e) n∧Rn s' e')∧jVa.fs g [.t (.int .i64 n),.ref 0 0 0] [.live 1 [.ref 1 0 0] true true,IE 2 e,rdO s]=some (.t (.sl (v.map bsT)),[.live 1 [.ref 1 0 0] true true,IE 2 e',rdO s']):=by
 obtain⟨⟨v,s',e'⟩,h1,h2⟩:=jVa.eq g (s,e,n) h;exact⟨v,s',e',h1,h2⟩
theorem jVf {g1}(h1:LkE tab 86 jU0 g1)(s:Rd)(e:Int)(n:Nat)(hp:Rn s e∧n≤10) :
  qPc.1.wp tab gl (qE 0 [.t (.int .i64 n),.ref 0 0 0]) (qE 0 [.live 1 [.ref 1 0 0] true true,IE 2 e,kH s]) (zA [(3,none)] 3 (jVa.K (s,e,n))):=by
 obtain⟨hn,h10⟩:=hp;simp(maxSteps:=9^9)(disch:=try exact dS)only[go_sem,qPc,jUw,jUx];refine vK (σ:=Nat×List (List UInt8)×Rd×Int) (fun t=>t.1≤n∧(t.2.1,et t.2.2.1 t.2.2.2)=zZp (et s e) t.1∧Rn t.2.2.1 t.2.2.2) (fun t=>n-t.1) (fun t=>[(1,.ref 0 0 0),(3,.sl 9000 0 t.1),(4,.t (.int .i64 n)),(5,.t (.int .i64 t.1))]) (fun t=>[(9000,.live 1 ((t.2.1.map bsT).map V.t) true false),(0,.live 1 [.ref 1 0 0] true true),(1,IE 2 t.2.2.2),(2,kH t.2.2.1)]) (0,[],s,e) ⟨sM,rfl,hn⟩ ?_ ?_
 ·refine qK.cv0 (hv:=[(9000,.live 1 [] true false)]) (ho:=[(0,.live 1 [.ref 1 0 0] true true),(1,IE 2 e),(2,kH s)]) id ?_ ?_ rfl rfl;all_goals simp(maxSteps:=9^9)(disch:=try exact dS)only[go_sem,id,jUw,jUx]
  all_goals rfl
 rintro⟨k,l,t,f⟩ ⟨hk,hR,ht⟩;simp only at hk hR ht;have ll:l.length=k:=by have:=jV0 (s:=et s e) (n:=k);rw[←hR] at this;exact this
 rcases (by omega:k<n∨n=k) with c | rfl
 ·obtain⟨x,t',f',⟨hx,ht'⟩,e1⟩:=jVj (g:=g1) ht;have hs:(l++[x],et t' f')=zZp (et s e) (k+1):=by simp only[zZp,←hR,←hx]
  simp only[rdO,jUw] at e1;simp(maxSteps:=9^9)(disch:=try exact dS)only[go_sem,jUw,jUx,c,h1,e1,ll];repeat refine aiG ?_
  refine qTy.of (k+1,l++[x],t',f') ⟨by show k+1≤n;omega,hs,ht'⟩ (by show n-(k+1)<n-k;omega) (qK.rd (fun j=>if j=9000 then 16448 else j) ?_ ?_ rfl);all_goals simp(maxSteps:=9^9)(disch:=try exact dS)only[go_sem,id,jUw,jUx]
 ·have tl:List.take n l=l:=List.take_of_length_le oM;simp(maxSteps:=9^9)(disch:=try exact dS)only[go_sem,jUw,jUx,tl,ll];exact⟨(l,t,f),⟨hR,ht⟩,rfl,rfl⟩
end Go.Eng
end
