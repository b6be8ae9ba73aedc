/- A part of an abstract machine, its walks, their tie. -/
import Derived.Test.YtekghmfbgbhobaaGreatDoorD30
set_option linter.all false
section
set_option maxHeartbeats 64000000
set_option maxRecDepth 20000
namespace Go.Eng
variable (tab:Tab) (gl:Gl)
theorem qT4 (h1:LkC tab 17 qQa)(h2:LkC tab 113 vT)(h3:LkC tab 114 qTd){g4}(h4:LkE tab 115 qDq g4){g5}(h5:LkE tab 116 qDn g5){g6}(h6:LkE tab 117 qFd g6){g7}(h7:LkE tab 118 qBa g7){g8}(h8:LkE tab 119 qE9 g8){g9}(h9:LkE tab 120 qFc g9){g10}(h10:LkE tab 121 qE8 g10){g11}(h11:LkE tab 122 qFb g11){g12}(h12:LkE tab 123 qB3 g12){g13}(h13:LkE tab 124 qFf g13){g14}(h14:LkE tab 125 qFa g14)(s:St)(k n m:Int)(b:List UInt8)(hp:s.Ok∧(nnI k∧nnI n∧nnI m)∧b.length≤4000000000)(hr:23≤qI8 k 48∧qI8 k 48≤35) :
  qH.1.wp tab gl (qE 0 [.t (stA s),.t (.int .i64 k),.t (.int .i64 n),.t (.int .i64 m),.t (.sl (b.map qA))]) (qE 0 []) (qX [(10,(some (5,true)))] 0 (qFg.K (s,k,n,m,b))):=by
 obtain⟨hs,⟨hk,hn,hm⟩,hb⟩:=hp;have l1:=hs.obs.1;have l2:=hs.ses.1;have M1:=qF2 (a:=k) (b:=48) ⟨oM,oM⟩;have M2:=qF2 (a:=n) (b:=1073741824) ⟨oM,oM⟩;have M3:=qF2 (a:=m) (b:=1073741824) ⟨oM,oM⟩;have f60:vT.fs [.t (.sl (b.map qA)),.t (.int .i64 60)] []=some (.t (.sl ((b.take 60).map qA)),[]):=qCe (n:=60) ⟨oM,oM⟩;have l60:(b.take 60).length≤60:=soM;have k1:=qCv (a:=k) (m:=48) oM;have k2:=qCv (a:=n) (m:=1073741824) oM;have k3:=qCv (a:=m) (m:=1073741824) oM;generalize b.take 60=c at *;generalize qI8 k 48=K at *;generalize qI8 n 1073741824=N at *;generalize qI8 m 1073741824=J at *;have hN:nnI N:=⟨k2.1,oM⟩;have hJ:nnI J:=⟨k3.1,oM⟩;have dv : ∀ {x:Int},0<x→nnI (N/x):=fun {x} hx=>⟨Int.ediv_nonneg k2.1 oM,by have:=Int.ediv_le_self x k2.1;omega⟩
 clear hk hn hm hb;rcases (by omega:(K=23∨K=24∨K=25)∨(K=26∨K=27∨K=28∨K=29)∨K=30∨K=31∨K=32∨(K=33∨K=34)∨K=35) with kc | kc | kc | kc | kc | kc | kc
 ·rcases kc with rfl | rfl | rfl;all_goals
   simp(maxSteps:=9^9)(disch:=try exact dS)only[go_sem,qH,stA,rqA,l1,l2,M1,M2,M3,f60,h1,h2,oms,mcn,iT,bsT,qAl,qAk];repeat refine aiG ?_
   exact qAj ⟨16,[],[],[_],[]⟩ (Rq.B.lit sM sM sM qSk) rfl rfl
 ·rcases kc with rfl | rfl | rfl | rfl;all_goals
   obtain⟨l,q,⟨ll,lq,hx⟩,e8⟩:=jGx (g:=g8) (s:=s) (n:=N) (m:=J) (b:=c) ⟨hs,hN,hJ,l60⟩;simp only[stA] at e8;simp(maxSteps:=9^9)(disch:=try exact dS)only[go_sem,qH,stA,rqA,l1,l2,M1,M2,M3,f60,h1,h2,oms,mcn,iT,bsT,qAl,qAk,h8,e8];repeat refine aiG ?_
   exact qAj ⟨17,[],[],l,q⟩ (Rq.B.lit sM oM oM (fun x h=>Nat.le_trans (hx x h) oM)) rfl rfl
 ·subst kc;obtain⟨h,hh,e9⟩:=jHu (g:=g9) (s:=s) (n:=N) ⟨hs,hN⟩;obtain⟨y,hy,e7⟩:=qMs (g:=g7) (s:=s) (n:=N/3) (k:=0) ⟨hs,dv oM⟩;have f4:vT.fs [.t (.sl (c.map qA)),.t (.int .i64 4)] []=some (.t (.sl ((c.take 4).map qA)),[]):=qCe (n:=4) ⟨oM,oM⟩;simp only[stA] at e7 e9;obtain⟨r,hr,e14⟩:=qAt (g:=g14) (s:=s) (q:=⟨18,[h],[],[y,N%50],[c.take 4]⟩) (m:=J) (b:=c) ⟨hs,⟨Rq.B.lit sM sM sM (zEp soM),sM⟩,hJ,l60⟩;simp only[stA,rqA,mcn,iT,bsT] at e14;simp(maxSteps:=9^9)(disch:=try exact dS)only[go_sem,qH,stA,rqA,l1,l2,M1,M2,M3,f60,h1,h2,oms,mcn,iT,bsT,qAl,qAk,h7,h9,e7,e9,f4,h14,e14];repeat refine aiG ?_
  exact qAj r hr rfl rfl
 ·subst kc;obtain⟨l,q,⟨ll,lq,hx⟩,e10⟩:=jGv (g:=g10) (s:=s) (n:=N) (b:=c) ⟨hs,hN,l60⟩;simp only[stA] at e10;simp(maxSteps:=9^9)(disch:=try exact dS)only[go_sem,qH,stA,rqA,l1,l2,M1,M2,M3,f60,h1,h2,oms,mcn,iT,bsT,qAl,qAk,h10,e10];repeat refine aiG ?_
  exact qAj ⟨19,[],[],l,q⟩ (Rq.B.lit sM oM oM (fun x h=>Nat.le_trans (hx x h) oM)) rfl rfl
 ·subst kc;obtain⟨y,hy,e7⟩:=qMs (g:=g7) (s:=s) (n:=N) (k:=0) ⟨hs,hN⟩;simp only[stA] at e7;simp(maxSteps:=9^9)(disch:=try exact dS)only[go_sem,qH,stA,rqA,l1,l2,M1,M2,M3,f60,h1,h2,oms,mcn,iT,bsT,qAl,qAk,h7,e7];repeat refine aiG ?_
  exact qAj ⟨20,[],[],[_],[]⟩ (Rq.B.lit sM sM sM qSk) rfl rfl
 ·rcases kc with rfl | rfl;all_goals
   obtain⟨l,q,⟨ll,lq,hx⟩,e11⟩:=jHp (g:=g11) (s:=s) (n:=N/2) (b:=c) ⟨hs,dv oM,l60⟩;simp only[stA] at e11;obtain⟨r,hr,e14⟩:=qAt (g:=g14) (s:=s) (q:=⟨21,[1+N%2],[],l,q⟩) (m:=J) (b:=c) ⟨hs,⟨Rq.B.lit sM oM oM (fun x h=>Nat.le_trans (hx x h) oM),sM⟩,hJ,l60⟩;simp only[stA,rqA,mcn,iT,bsT] at e14;simp(maxSteps:=9^9)(disch:=try exact dS)only[go_sem,qH,stA,rqA,l1,l2,M1,M2,M3,f60,h1,h2,oms,mcn,iT,bsT,qAl,qAk,h11,e11,h14,e14];repeat refine aiG ?_
   exact qAj r hr rfl rfl
 ·subst kc;obtain⟨y,hy,e12⟩:=zKv (g:=g12) (s:=s) (n:=N/2) ⟨hs,dv oM⟩;simp only[stA] at e12;obtain⟨r,hr,e14⟩:=qAt (g:=g14) (s:=s) (q:=⟨22,[1+N%2],[],[y-256],[]⟩) (m:=J) (b:=c) ⟨hs,⟨Rq.B.lit sM sM sM qSk,sM⟩,hJ,l60⟩;simp only[stA,rqA,mcn,iT,bsT] at e14;simp(maxSteps:=9^9)(disch:=try exact dS)only[go_sem,qH,stA,rqA,l1,l2,M1,M2,M3,f60,h1,h2,oms,mcn,iT,bsT,qAl,qAk,h12,e12,h14,e14];repeat refine aiG ?_
  exact qAj r hr rfl rfl
end Go.Eng
end
