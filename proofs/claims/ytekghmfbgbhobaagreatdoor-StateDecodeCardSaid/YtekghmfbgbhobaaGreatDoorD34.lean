/- A part of an abstract machine, its walks, their tie. -/
import Derived.Test.YtekghmfbgbhobaaGreatDoorD30
import Derived.Test.YtekghmfbgbhobaaGreatDoorD31
import Derived.Test.YtekghmfbgbhobaaGreatDoorD32
import Derived.Test.YtekghmfbgbhobaaGreatDoorD33
set_option linter.all false
section
set_option maxHeartbeats 64000000
set_option maxRecDepth 20000
namespace Go.Eng
variable (tab:Tab) (gl:Gl)
theorem qT5 (h1:LkC tab 17 qQa)(h2:LkC tab 113 vT)(h3:LkC tab 114 qTd){g4}(h4:LkE tab 115 qDq g4){g5}(h5:LkE tab 116 qDn g5){g6}(h6:LkE tab 117 qFd g6){g7}(h7:LkE tab 118 qBa g7){g8}(h8:LkE tab 119 qE9 g8){g9}(h9:LkE tab 120 qFc g9){g10}(h10:LkE tab 121 qE8 g10){g11}(h11:LkE tab 122 qFb g11){g12}(h12:LkE tab 123 qB3 g12){g13}(h13:LkE tab 124 qFf g13){g14}(h14:LkE tab 125 qFa g14)(s:St)(k n m:Int)(b:List UInt8)(hp:s.Ok∧(nnI k∧nnI n∧nnI m)∧b.length≤4000000000)(hr:36≤qI8 k 48∧qI8 k 48≤47) :
  qH.1.wp tab gl (qE 0 [.t (stA s),.t (.int .i64 k),.t (.int .i64 n),.t (.int .i64 m),.t (.sl (b.map qA))]) (qE 0 []) (qX [(10,(some (5,true)))] 0 (qFg.K (s,k,n,m,b))):=by
 obtain⟨hs,⟨hk,hn,hm⟩,hb⟩:=hp;have l1:=hs.obs.1;have l2:=hs.ses.1;have M1:=qF2 (a:=k) (b:=48) ⟨oM,oM⟩;have M2:=qF2 (a:=n) (b:=1073741824) ⟨oM,oM⟩;have M3:=qF2 (a:=m) (b:=1073741824) ⟨oM,oM⟩;have f60:vT.fs [.t (.sl (b.map qA)),.t (.int .i64 60)] []=some (.t (.sl ((b.take 60).map qA)),[]):=qCe (n:=60) ⟨oM,oM⟩;have l60:(b.take 60).length≤60:=soM;have k1:=qCv (a:=k) (m:=48) oM;have k2:=qCv (a:=n) (m:=1073741824) oM;have k3:=qCv (a:=m) (m:=1073741824) oM;generalize b.take 60=c at *;generalize qI8 k 48=K at *;generalize qI8 n 1073741824=N at *;generalize qI8 m 1073741824=J at *;have hN:nnI N:=⟨k2.1,oM⟩;have hJ:nnI J:=⟨k3.1,oM⟩;have dv : ∀ {x:Int},0<x→nnI (N/x):=fun {x} hx=>⟨Int.ediv_nonneg k2.1 oM,by have:=Int.ediv_le_self x k2.1;omega⟩
 clear hk hn hm hb;rcases (by omega:K=36∨K=37∨K=38∨K=39∨K=40∨K=41∨K=42∨K=43∨K=44∨K=45∨K=46∨K=47) with kc | kc | kc | kc | kc | kc | kc | kc | kc | kc | kc | kc
 ·subst kc;obtain⟨q,hq,e13⟩:=qTl (g:=g13) (s:=s) (k:=36-36) (n:=N) (b:=c) ⟨hs,⟨oM,oM⟩,hN,l60⟩;obtain⟨co,hh,au,ns,bl⟩:=q;simp only[stA,rqA,Int.reduceSub] at e13;obtain⟨r,hr,e14⟩:=qAt (g:=g14) (s:=s) (q:=⟨co,hh,au,ns,bl⟩) (m:=J) (b:=c) ⟨hs,hq,hJ,l60⟩;simp only[stA,rqA,mcn,iT,bsT] at e14;simp(maxSteps:=9^9)(disch:=try exact dS)only[go_sem,qH,stA,rqA,l1,l2,M1,M2,M3,f60,h1,h2,oms,mcn,iT,bsT,qAl,qAk,h13,e13,h14,e14];repeat refine aiG ?_
  exact qAj r hr rfl rfl
 ·subst kc;obtain⟨q,hq,e13⟩:=qTl (g:=g13) (s:=s) (k:=37-36) (n:=N) (b:=c) ⟨hs,⟨oM,oM⟩,hN,l60⟩;obtain⟨co,hh,au,ns,bl⟩:=q;simp only[stA,rqA,Int.reduceSub] at e13;obtain⟨r,hr,e14⟩:=qAt (g:=g14) (s:=s) (q:=⟨co,hh,au,ns,bl⟩) (m:=J) (b:=c) ⟨hs,hq,hJ,l60⟩;simp only[stA,rqA,mcn,iT,bsT] at e14;simp(maxSteps:=9^9)(disch:=try exact dS)only[go_sem,qH,stA,rqA,l1,l2,M1,M2,M3,f60,h1,h2,oms,mcn,iT,bsT,qAl,qAk,h13,e13,h14,e14];repeat refine aiG ?_
  exact qAj r hr rfl rfl
 ·subst kc;obtain⟨q,hq,e13⟩:=qTl (g:=g13) (s:=s) (k:=38-36) (n:=N) (b:=c) ⟨hs,⟨oM,oM⟩,hN,l60⟩;obtain⟨co,hh,au,ns,bl⟩:=q;simp only[stA,rqA,Int.reduceSub] at e13;obtain⟨r,hr,e14⟩:=qAt (g:=g14) (s:=s) (q:=⟨co,hh,au,ns,bl⟩) (m:=J) (b:=c) ⟨hs,hq,hJ,l60⟩;simp only[stA,rqA,mcn,iT,bsT] at e14;simp(maxSteps:=9^9)(disch:=try exact dS)only[go_sem,qH,stA,rqA,l1,l2,M1,M2,M3,f60,h1,h2,oms,mcn,iT,bsT,qAl,qAk,h13,e13,h14,e14];repeat refine aiG ?_
  exact qAj r hr rfl rfl
 ·subst kc;obtain⟨q,hq,e13⟩:=qTl (g:=g13) (s:=s) (k:=39-36) (n:=N) (b:=c) ⟨hs,⟨oM,oM⟩,hN,l60⟩;obtain⟨co,hh,au,ns,bl⟩:=q;simp only[stA,rqA,Int.reduceSub] at e13;obtain⟨r,hr,e14⟩:=qAt (g:=g14) (s:=s) (q:=⟨co,hh,au,ns,bl⟩) (m:=J) (b:=c) ⟨hs,hq,hJ,l60⟩;simp only[stA,rqA,mcn,iT,bsT] at e14;simp(maxSteps:=9^9)(disch:=try exact dS)only[go_sem,qH,stA,rqA,l1,l2,M1,M2,M3,f60,h1,h2,oms,mcn,iT,bsT,qAl,qAk,h13,e13,h14,e14];repeat refine aiG ?_
  exact qAj r hr rfl rfl
 ·subst kc;obtain⟨q,hq,e13⟩:=qTl (g:=g13) (s:=s) (k:=40-36) (n:=N) (b:=c) ⟨hs,⟨oM,oM⟩,hN,l60⟩;obtain⟨co,hh,au,ns,bl⟩:=q;simp only[stA,rqA,Int.reduceSub] at e13;obtain⟨r,hr,e14⟩:=qAt (g:=g14) (s:=s) (q:=⟨co,hh,au,ns,bl⟩) (m:=J) (b:=c) ⟨hs,hq,hJ,l60⟩;simp only[stA,rqA,mcn,iT,bsT] at e14;simp(maxSteps:=9^9)(disch:=try exact dS)only[go_sem,qH,stA,rqA,l1,l2,M1,M2,M3,f60,h1,h2,oms,mcn,iT,bsT,qAl,qAk,h13,e13,h14,e14];repeat refine aiG ?_
  exact qAj r hr rfl rfl
 ·subst kc;obtain⟨q,hq,e13⟩:=qTl (g:=g13) (s:=s) (k:=41-36) (n:=N) (b:=c) ⟨hs,⟨oM,oM⟩,hN,l60⟩;obtain⟨co,hh,au,ns,bl⟩:=q;simp only[stA,rqA,Int.reduceSub] at e13;obtain⟨r,hr,e14⟩:=qAt (g:=g14) (s:=s) (q:=⟨co,hh,au,ns,bl⟩) (m:=J) (b:=c) ⟨hs,hq,hJ,l60⟩;simp only[stA,rqA,mcn,iT,bsT] at e14;simp(maxSteps:=9^9)(disch:=try exact dS)only[go_sem,qH,stA,rqA,l1,l2,M1,M2,M3,f60,h1,h2,oms,mcn,iT,bsT,qAl,qAk,h13,e13,h14,e14];repeat refine aiG ?_
  exact qAj r hr rfl rfl
 ·subst kc;obtain⟨q,hq,e13⟩:=qTl (g:=g13) (s:=s) (k:=42-36) (n:=N) (b:=c) ⟨hs,⟨oM,oM⟩,hN,l60⟩;obtain⟨co,hh,au,ns,bl⟩:=q;simp only[stA,rqA,Int.reduceSub] at e13;obtain⟨r,hr,e14⟩:=qAt (g:=g14) (s:=s) (q:=⟨co,hh,au,ns,bl⟩) (m:=J) (b:=c) ⟨hs,hq,hJ,l60⟩;simp only[stA,rqA,mcn,iT,bsT] at e14;simp(maxSteps:=9^9)(disch:=try exact dS)only[go_sem,qH,stA,rqA,l1,l2,M1,M2,M3,f60,h1,h2,oms,mcn,iT,bsT,qAl,qAk,h13,e13,h14,e14];repeat refine aiG ?_
  exact qAj r hr rfl rfl
 ·subst kc;obtain⟨q,hq,e13⟩:=qTl (g:=g13) (s:=s) (k:=43-36) (n:=N) (b:=c) ⟨hs,⟨oM,oM⟩,hN,l60⟩;obtain⟨co,hh,au,ns,bl⟩:=q;simp only[stA,rqA,Int.reduceSub] at e13;obtain⟨r,hr,e14⟩:=qAt (g:=g14) (s:=s) (q:=⟨co,hh,au,ns,bl⟩) (m:=J) (b:=c) ⟨hs,hq,hJ,l60⟩;simp only[stA,rqA,mcn,iT,bsT] at e14;simp(maxSteps:=9^9)(disch:=try exact dS)only[go_sem,qH,stA,rqA,l1,l2,M1,M2,M3,f60,h1,h2,oms,mcn,iT,bsT,qAl,qAk,h13,e13,h14,e14];repeat refine aiG ?_
  exact qAj r hr rfl rfl
 ·subst kc;obtain⟨i,hi⟩ : ∃ i:Nat,N/4%3=i:=⟨(N/4%3).toNat,oM⟩;have f4:=qCe (b:=c) (n:=i) ⟨oM,oM⟩;obtain⟨r,hr,e14⟩:=qAt (g:=g14) (s:=s) (q:=⟨30,[N%4],[],[],[c.take i]⟩) (m:=J) (b:=c) ⟨hs,⟨Rq.B.lit sM sM sM (zEp soM),sM⟩,hJ,l60⟩;simp only[stA,rqA,mcn,iT,bsT] at e14;simp(maxSteps:=9^9)(disch:=try exact dS)only[go_sem,qH,stA,rqA,l1,l2,M1,M2,M3,f60,h1,h2,oms,mcn,iT,bsT,qAl,qAk,f4,hi,h14,e14];repeat refine aiG ?_
  exact qAj r hr rfl rfl
 ·subst kc;by_cases d:0<N%4
  ·obtain⟨r,hr,e14⟩:=qAt (g:=g14) (s:=s) (q:=⟨32,[3],[],[],[]⟩) (m:=J) (b:=c) ⟨hs,⟨Rq.B.lit sM sM sM qSk,sM⟩,hJ,l60⟩;simp only[stA,rqA,mcn,iT,bsT] at e14;simp(maxSteps:=9^9)(disch:=try exact dS)only[go_sem,qH,stA,rqA,l1,l2,M1,M2,M3,f60,h1,h2,oms,mcn,iT,bsT,qAl,qAk,d,h14,e14];repeat refine aiG ?_
   exact qAj r hr rfl rfl
  ·obtain⟨r,hr,e14⟩:=qAt (g:=g14) (s:=s) (q:=⟨31,[2+N%2],[],[],[]⟩) (m:=J) (b:=c) ⟨hs,⟨Rq.B.lit sM sM sM qSk,sM⟩,hJ,l60⟩;simp only[stA,rqA,mcn,iT,bsT] at e14;simp(maxSteps:=9^9)(disch:=try exact dS)only[go_sem,qH,stA,rqA,l1,l2,M1,M2,M3,f60,h1,h2,oms,mcn,iT,bsT,qAl,qAk,d,h14,e14];repeat refine aiG ?_
   exact qAj r hr rfl rfl
 ·subst kc;obtain⟨r,hr,e14⟩:=qAt (g:=g14) (s:=s) (q:=⟨33,[3],[],[1+N%6,N%40,N/5%40],[]⟩) (m:=J) (b:=c) ⟨hs,⟨Rq.B.lit sM sM sM qSk,sM⟩,hJ,l60⟩;simp only[stA,rqA,mcn,iT,bsT] at e14;simp(maxSteps:=9^9)(disch:=try exact dS)only[go_sem,qH,stA,rqA,l1,l2,M1,M2,M3,f60,h1,h2,oms,mcn,iT,bsT,qAl,qAk,h14,e14];repeat refine aiG ?_
  exact qAj r hr rfl rfl
 ·subst kc;by_cases d:0<N%4
  ·simp(maxSteps:=9^9)(disch:=try exact dS)only[go_sem,qH,stA,rqA,l1,l2,M1,M2,M3,f60,h1,h2,oms,mcn,iT,bsT,qAl,qAk,d];repeat refine aiG ?_
   exact qAj ⟨1,[],[],[_],[]⟩ (Rq.B.lit sM sM sM qSk) rfl rfl
  ·simp(maxSteps:=9^9)(disch:=try exact dS)only[go_sem,qH,stA,rqA,l1,l2,M1,M2,M3,f60,h1,h2,oms,mcn,iT,bsT,qAl,qAk,d];repeat refine aiG ?_
   exact qAj ⟨2,[],[],[_],[]⟩ (Rq.B.lit sM sM sM qSk) rfl rfl
theorem qX4 (h1:LkC tab 17 qQa)(h2:LkC tab 113 vT)(h3:LkC tab 114 qTd){g4}(h4:LkE tab 115 qDq g4){g5}(h5:LkE tab 116 qDn g5){g6}(h6:LkE tab 117 qFd g6){g7}(h7:LkE tab 118 qBa g7){g8}(h8:LkE tab 119 qE9 g8){g9}(h9:LkE tab 120 qFc g9){g10}(h10:LkE tab 121 qE8 g10){g11}(h11:LkE tab 122 qFb g11){g12}(h12:LkE tab 123 qB3 g12){g13}(h13:LkE tab 124 qFf g13){g14}(h14:LkE tab 125 qFa g14)(s:St)(k n m:Int)(b:List UInt8)(hp:s.Ok∧(nnI k∧nnI n∧nnI m)∧b.length≤4000000000) :
  qH.1.wp tab gl (qE 0 [.t (stA s),.t (.int .i64 k),.t (.int .i64 n),.t (.int .i64 m),.t (.sl (b.map qA))]) (qE 0 []) (qX [(10,(some (5,true)))] 0 (qFg.K (s,k,n,m,b))):=by
 have r:=qCv (a:=k) (m:=48) oM;rcases (by omega:(0≤qI8 k 48∧qI8 k 48≤11)∨(12≤qI8 k 48∧qI8 k 48≤22)∨(23≤qI8 k 48∧qI8 k 48≤35)∨(36≤qI8 k 48∧qI8 k 48≤47)) with c | c | c | c
 ·exact qT2 tab gl h1 h2 h3 h4 h5 h6 h7 h8 h9 h10 h11 h12 h13 h14 s k n m b hp c
 ·exact qT3 tab gl h1 h2 h3 h4 h5 h6 h7 h8 h9 h10 h11 h12 h13 h14 s k n m b hp c
 ·exact qT4 tab gl h1 h2 h3 h4 h5 h6 h7 h8 h9 h10 h11 h12 h13 h14 s k n m b hp c
 ·exact qT5 tab gl h1 h2 h3 h4 h5 h6 h7 h8 h9 h10 h11 h12 h13 h14 s k n m b hp c
end Go.Eng
end
