/- A part of an abstract machine, its walks, their tie. -/
import Derived.Test.YtekghmfbgbhobaaGreatDoorD30
import Derived.Test.YtekghmfbgbhobaaGreatDoorD27
set_option linter.all false
section
set_option maxHeartbeats 64000000
set_option maxRecDepth 20000
namespace Go.Eng
variable (tab:Tab) (gl:Gl)
theorem qT3 (h1:LkC tab 17 qQa)(h2:LkC tab 113 vT)(h3:LkC tab 114 qTd){g4}(h4:LkE tab 115 qDq g4){g5}(h5:LkE tab 116 qDn g5){g6}(h6:LkE tab 117 qFd g6){g7}(h7:LkE tab 118 qBa g7){g8}(h8:LkE tab 119 qE9 g8){g9}(h9:LkE tab 120 qFc g9){g10}(h10:LkE tab 121 qE8 g10){g11}(h11:LkE tab 122 qFb g11){g12}(h12:LkE tab 123 qB3 g12){g13}(h13:LkE tab 124 qFf g13){g14}(h14:LkE tab 125 qFa g14)(s:St)(k n m:Int)(b:List UInt8)(hp:s.Ok∧(nnI k∧nnI n∧nnI m)∧b.length≤4000000000)(hr:12≤qI8 k 48∧qI8 k 48≤22) :
  qH.1.wp tab gl (qE 0 [.t (stA s),.t (.int .i64 k),.t (.int .i64 n),.t (.int .i64 m),.t (.sl (b.map qA))]) (qE 0 []) (qX [(10,(some (5,true)))] 0 (qFg.K (s,k,n,m,b))):=by
 obtain⟨hs,⟨hk,hn,hm⟩,hb⟩:=hp;have l1:=hs.obs.1;have l2:=hs.ses.1;have M1:=qF2 (a:=k) (b:=48) ⟨oM,oM⟩;have M2:=qF2 (a:=n) (b:=1073741824) ⟨oM,oM⟩;have M3:=qF2 (a:=m) (b:=1073741824) ⟨oM,oM⟩;have f60:vT.fs [.t (.sl (b.map qA)),.t (.int .i64 60)] []=some (.t (.sl ((b.take 60).map qA)),[]):=qCe (n:=60) ⟨oM,oM⟩;have l60:(b.take 60).length≤60:=soM;have k1:=qCv (a:=k) (m:=48) oM;have k2:=qCv (a:=n) (m:=1073741824) oM;have k3:=qCv (a:=m) (m:=1073741824) oM;generalize b.take 60=c at *;generalize qI8 k 48=K at *;generalize qI8 n 1073741824=N at *;generalize qI8 m 1073741824=J at *;have hN:nnI N:=⟨k2.1,oM⟩;have hJ:nnI J:=⟨k3.1,oM⟩;have dv : ∀ {x:Int},0<x→nnI (N/x):=fun {x} hx=>⟨Int.ediv_nonneg k2.1 oM,by have:=Int.ediv_le_self x k2.1;omega⟩
 clear hk hn hm hb;rcases (by omega:K=12∨(K=13∨K=14∨K=15)∨K=16∨(K=17∨K=18)∨(K=19∨K=20)∨(K=21∨K=22)) with kc | kc | kc | kc | kc | kc
 ·subst kc;obtain⟨h,hh,e5⟩:=qV7 (g:=g5) (s:=s) (n:=N) (k:=1) ⟨hs,hN⟩;obtain⟨l,q,⟨ll,lq,hx⟩,e4⟩:=zTd (g:=g4) (s:=s) (n:=N/3) (b:=c) ⟨hs,dv oM,l60⟩;simp only[stA] at e4 e5;obtain⟨r,hr,e14⟩:=qAt (g:=g14) (s:=s) (q:=⟨10,[h],[],l,q⟩) (m:=J) (b:=c) ⟨hs,⟨Rq.B.lit sM oM oM (fun x h=>Nat.le_trans (hx x h) oM),sM⟩,hJ,l60⟩;simp only[stA,rqA,mcn,iT,bsT] at e14;simp(maxSteps:=9^9)(disch:=try exact dS)only[go_sem,qH,stA,rqA,l1,l2,M1,M2,M3,f60,h1,h2,oms,mcn,iT,bsT,qAl,qAk,h4,h5,e4,e5,h14,e14];repeat refine aiG ?_
  exact qAj r hr rfl rfl
 ·rcases kc with rfl | rfl | rfl;all_goals
   obtain⟨h,hh,e5⟩:=qV7 (g:=g5) (s:=s) (n:=N) (k:=1) ⟨hs,hN⟩;obtain⟨q,⟨lq,hx⟩,e6⟩:=jI3 (g:=g6) (s:=s) (h:=h) (n:=N/3) (b:=c) ⟨hs,dv oM,l60⟩;simp only[stA] at e5 e6;obtain⟨r,hr,e14⟩:=qAt (g:=g14) (s:=s) (q:=⟨11,[h],[],[],q⟩) (m:=J) (b:=c) ⟨hs,⟨Rq.B.lit sM sM oM (fun x h=>Nat.le_trans (hx x h) oM),sM⟩,hJ,l60⟩;simp only[stA,rqA,mcn,iT,bsT] at e14;simp(maxSteps:=9^9)(disch:=try exact dS)only[go_sem,qH,stA,rqA,l1,l2,M1,M2,M3,f60,h1,h2,oms,mcn,iT,bsT,qAl,qAk,h5,h6,e5,e6,h14,e14];repeat refine aiG ?_
   exact qAj r hr rfl rfl
 ·subst kc;obtain⟨h,hh,e5⟩:=qV7 (g:=g5) (s:=s) (n:=N) (k:=0) ⟨hs,hN⟩;obtain⟨y,hy,e7⟩:=qMs (g:=g7) (s:=s) (n:=N) (k:=0) ⟨hs,hN⟩;simp only[stA] at e5 e7;rcases (by omega:N/3%2=0∨N/3%2=1) with d | d;all_goals
   simp(maxSteps:=9^9)(disch:=try exact dS)only[go_sem,qH,stA,rqA,l1,l2,M1,M2,M3,f60,h1,h2,oms,mcn,iT,bsT,qAl,qAk,h5,h7,e5,e7,d];repeat refine aiG ?_
   exact qAj ⟨12,[],[],[_],[]⟩ (Rq.B.lit sM sM sM qSk) rfl rfl
 ·rcases kc with rfl | rfl;all_goals
   obtain⟨h,hh,e5⟩:=qV7 (g:=g5) (s:=s) (n:=N) (k:=3) ⟨hs,hN⟩;simp only[stA] at e5;obtain⟨r,hr,e14⟩:=qAt (g:=g14) (s:=s) (q:=⟨13,[h],[],[],[]⟩) (m:=J) (b:=c) ⟨hs,⟨Rq.B.lit sM sM sM qSk,sM⟩,hJ,l60⟩;simp only[stA,rqA,mcn,iT,bsT] at e14;simp(maxSteps:=9^9)(disch:=try exact dS)only[go_sem,qH,stA,rqA,l1,l2,M1,M2,M3,f60,h1,h2,oms,mcn,iT,bsT,qAl,qAk,h5,e5,h14,e14];repeat refine aiG ?_
   exact qAj r hr rfl rfl
 ·rcases kc with rfl | rfl;all_goals
   obtain⟨h,hh,e5⟩:=qV7 (g:=g5) (s:=s) (n:=N) (k:=2) ⟨hs,hN⟩;simp only[stA] at e5;obtain⟨r,hr,e14⟩:=qAt (g:=g14) (s:=s) (q:=⟨14,[h],[],[],[c]⟩) (m:=J) (b:=c) ⟨hs,⟨Rq.B.lit sM sM sM (zEp oM),sM⟩,hJ,l60⟩;simp only[stA,rqA,mcn,iT,bsT] at e14;simp(maxSteps:=9^9)(disch:=try exact dS)only[go_sem,qH,stA,rqA,l1,l2,M1,M2,M3,f60,h1,h2,oms,mcn,iT,bsT,qAl,qAk,h5,e5,h14,e14];repeat refine aiG ?_
   exact qAj r hr rfl rfl
 ·rcases kc with rfl | rfl;all_goals
   obtain⟨h,hh,e5⟩:=qV7 (g:=g5) (s:=s) (n:=N) (k:=2) ⟨hs,hN⟩;obtain⟨r1,o1⟩:=zUb s.a.act 1;simp only[stA] at e5;have E:=fun x y:Int=>qAt (g:=g14) (s:=s) (q:=⟨15,[h],[],[x,y],[c]⟩) (m:=J) (b:=c) ⟨hs,⟨Rq.B.lit sM sM sM (zEp oM),sM⟩,hJ,l60⟩
   simp only[stA,rqA,mcn,iT,bsT] at E;obtain⟨r,hr⟩:=Classical.axiomOfChoice (fun x=>Classical.axiomOfChoice (E x));have e14:=fun x y=>(hr x y).2
   simp(maxSteps:=9^9)(disch:=try exact dS)only[go_sem,qH,stA,rqA,l1,l2,M1,M2,M3,f60,h1,h2,oms,mcn,iT,bsT,qAl,qAk,h5,e5,o1,h14,e14];repeat refine aiG ?_
   exact qAj _ (hr _ _).1 rfl rfl
end Go.Eng
end
