/- A part of an abstract machine, its walks, their tie. -/
import Derived.Test.YtekghmfbgbhobaaGreatDoorD26
set_option linter.all false
section
set_option maxHeartbeats 64000000
set_option maxRecDepth 20000
namespace Go.Eng
variable (tab:Tab) (gl:Gl)
theorem zIt {g1}(h1:LkE tab 142 qAi g1){g2}(h2:LkE tab 115 qDq g2)(h3:LkC tab 113 vT){g4}(h4:LkE tab 169 qIw g4){g5}(h5:LkE tab 170 qLe g5){g6}(h6:LkE tab 171 qCt g6)(s:St)(h n:Int)(b:List UInt8)(hp:s.Ok∧nnI n∧b.length≤60) :
  qBe.1.wp tab gl (qE 0 [.t (stA s),.t (.int .i64 h),.t (.int .i64 n),.t (.sl (b.map qA))]) (qE 0 []) (qX [(8,none)] 0 (qFd.K (s,h,n,b))):=by
 obtain⟨hs,hn,hb⟩:=hp;have l1:=hs.obs;have m13:n.tmod 13=n%13:=Int.tmod_eq_emod_of_nonneg hn.1;have e1:=qMt (g:=g1) (s:=s) (h:=h) oM;have r1 := @zNk s.obs h 0;simp only[stA] at e1;generalize slP s.obs h 0=j at *;have fin : ∀ {u v:List UInt8},u.length≤2000→v.length≤2000 → ∀ x∈[u,v],x.length≤2000:=by
  intro u v hu hv x hx;simp only[List.mem_cons,List.not_mem_nil,or_false] at hx;rcases hx with rfl | rfl
  ·exact hu
  ·exact hv
 rcases r1 with rfl | r1
 ·simp(maxSteps:=9^9)(disch:=try exact dS)only[go_sem,qBe,stA,h1,e1,mcn];repeat refine aiG ?_
  exact zVp [b,b] ⟨sM,fin oM oM⟩ rfl rfl
 obtain⟨k,rfl⟩ : ∃ k:Nat,j=k:=⟨j.toNat,oM⟩;obtain⟨y,hg,hm,_⟩:=qN (l:=s.obs) (k:=k) oM;have hkl:k<s.obs.length:=oM;have hy:=l1.2 y hm;obtain⟨l,m,⟨ll,lm,hx⟩,e2⟩:=zTd (g:=g2) (s:=s) (n:=n) (b:=b) ⟨hs,hn,hb⟩;obtain⟨a0,a1,a2,rfl⟩:=zVr (l:=l) oM;obtain⟨b0,b1,b2,rfl⟩:=zVr (l:=m) oM;have x0:=hx b0 sM;have x1:=hx b1 sM;have x2:=hx b2 sM;have f8:vT.fs [.t (.sl (b.map qA)),.t (.int .i64 8)] []=some (.t (.sl ((b.take 8).map qA)),[]):=qCe (n:=8) ⟨oM,oM⟩;have l8:(b.take 8).length≤8:=soM;generalize b.take 8=sd at *;obtain⟨p,q,e,hok,e4⟩:=zQ5 (g:=g4) (s:=sd) (p:=⟨a0,a1,a2,b0,[]⟩) (au:=b1) (da:=b2) ⟨oM,by simp only;omega,oM,oM⟩;simp only[stA,puA,snA,mcn,iT,bsT] at e2 e4;by_cases c:e=0
 rotate_left
 ·simp(maxSteps:=9^9)(disch:=try exact dS)only[go_sem,qBe,stA,h1,h2,h3,h4,e1,e2,f8,e4,c,mcn,iT,bsT];repeat refine aiG ?_
  exact zVp [b,b] ⟨sM,fin oM oM⟩ rfl rfl
 obtain⟨hp',hq⟩:=hok c;obtain⟨z,lz,e5⟩:=jAc (g:=g5) (s:=y.s) (p:=p) (z:=q) ⟨hy.2.1,hp',hq⟩;obtain⟨w,lw,e6⟩:=qWg (g:=g6) (p:=p) ⟨by have:=hp'.2.2.2.1;omega,by have:=hp'.2.2.2.2;omega⟩;have h4':=hp'.2.2.2;simp only[puA,snA] at e5 e6;by_cases d:n%13=12
 ·obtain⟨i,hi⟩ : ∃ i:Nat,(z.length:Int)-1=i:=⟨z.length-1,oM⟩;have hil:i<z.length:=oM;simp(maxSteps:=9^9)(disch:=try exact dS)only[go_sem,qBe,stA,h1,h2,h3,h4,h5,h6,e1,e2,f8,e4,e5,e6,c,m13,d,hg,hkl,wI,l1.1,oms,mcn,iT,bsT,hi,hil,List.take_length];repeat refine aiG ?_
  exact zVp [w,_] ⟨sM,fin oM soM⟩ rfl rfl
 ·simp(maxSteps:=9^9)(disch:=try exact dS)only[go_sem,qBe,stA,h1,h2,h3,h4,h5,h6,e1,e2,f8,e4,e5,e6,c,m13,d,hg,hkl,wI,l1.1,oms,mcn,iT,bsT,List.take_length];repeat refine aiG ?_
  exact zVp [w,z] ⟨sM,fin oM oM⟩ rfl rfl
theorem qW4 {g1}(h1:LkE tab 219 qNl g1){g2}(h2:LkE tab 118 qBa g2){g3}(h3:LkE tab 145 qCr g3)(s:St)(n:Int)(b:List UInt8)(hp:s.Ok∧nnI n∧b.length≤60) :
  yX.1.wp tab gl (qE 0 [.t (stA s),.t (.int .i64 n),.t (.sl (b.map qA))]) (qE 0 []) (qX [(6,none)] 0 (qLc.K (s,n,b))):=by
 obtain⟨hs,hn,hb⟩:=hp;have m4:n.tmod 4=n%4:=Int.tmod_eq_emod_of_nonneg hn.1;obtain⟨r7,l7,e7⟩:=zZe (g:=g1) (l:=[⟨7,0,0,[],0,0,[],[],[],[]⟩]) ⟨sM,by simp[Asr.B]⟩;obtain⟨r2,l2,e2⟩:=zZe (g:=g1) (l:=[⟨2,0,0,[],31,0,[],[],[],[]⟩]) ⟨sM,by simp[Asr.B]⟩;obtain⟨h,hh,e3⟩:=qMs (g:=g2) (s:=s) (n:=n) (k:=2) ⟨hs,hn⟩;obtain⟨x,e,⟨hx,_⟩,e4⟩:=qQi (g:=g3) (s:=s) (h:=h) ⟨hs,oM,oM⟩;have hd:=hx.2.2.1;simp only[stA,jL,vN,mcn] at e7 e2 e3 e4;rcases (by omega:n%4=0∨n%4=1∨n%4=2∨n%4=3) with c | c | c | c
 ·simp(maxSteps:=9^9)(disch:=try exact dS)only[go_sem,yX,stA,m4,c];exact zRi [] sM rfl rfl
 ·simp(maxSteps:=9^9)(disch:=try exact dS)only[go_sem,yX,stA,m4,c,h1,e7];repeat refine aiG ?_
  exact zRi r7 l7 rfl rfl
 ·by_cases c1:e=0
  ·subst c1;simp(maxSteps:=9^9)(disch:=try exact dS)only[go_sem,yX,stA,m4,c,h2,h3,e3,e4];repeat refine aiG ?_
   exact zRi x.dg hd rfl rfl
  ·simp(maxSteps:=9^9)(disch:=try exact dS)only[go_sem,yX,stA,m4,c,h1,h2,h3,e2,e3,e4,c1];repeat refine aiG ?_
   exact zRi r2 l2 rfl rfl
 ·simp(maxSteps:=9^9)(disch:=try exact dS)only[go_sem,yX,stA,m4,c,h1,e2];repeat refine aiG ?_
  exact zRi r2 l2 rfl rfl
theorem jJy (a b:Int) : ∃ r,qGy .or (.int .i64 a) (.int .i64 b)=some (.int .i64 r):=⟨_,rfl⟩
theorem qW5 (h1:LkC tab 113 vT){g2}(h2:LkE tab 168 qLc g2)(s:St)(n:Int)(b:List UInt8)(hp:s.Ok∧nnI n∧b.length≤60) :
  jA.1.wp tab gl (qE 0 [.t (stA s),.t (.int .i64 n),.t (.sl (b.map qA))]) (qE 0 []) (qX [(6,none),(7,none)] 0 (qDq.K (s,n,b))):=by
 obtain⟨hs,hn,hb⟩:=hp;have m3:n.tmod 3=n%3:=Int.tmod_eq_emod_of_nonneg hn.1;have d3:n.tdiv 3=n/3:=Int.tdiv_eq_ediv_of_nonneg hn.1;have m34:(n/3).tmod 4=n/3%4:=Int.tmod_eq_emod_of_nonneg oM;have d12:n.tdiv 12=n/12:=Int.tdiv_eq_ediv_of_nonneg hn.1;have m12:(n/12).tmod 2=n/12%2:=Int.tmod_eq_emod_of_nonneg oM;have d24:n.tdiv 24=n/24:=Int.tdiv_eq_ediv_of_nonneg hn.1;have m24:(n/24).tmod 2=n/24%2:=Int.tmod_eq_emod_of_nonneg oM;have d5:n.tdiv 5=n/5:=Int.tdiv_eq_ediv_of_nonneg hn.1;have m11:n.tmod 11=n%11:=Int.tmod_eq_emod_of_nonneg hn.1;obtain⟨p,hp',e1⟩:=jAa (g:=g2) (s:=s) (n:=n/5) (b:=b) ⟨hs,⟨oM,oM⟩,hb⟩;have f0:vT.fs [.t (.sl (b.map qA)),.t (.int .i64 0)] []=some (.t (.sl ((b.take 0).map qA)),[]):=qCe (n:=0) ⟨oM,oM⟩;have f1:vT.fs [.t (.sl (b.map qA)),.t (.int .i64 1)] []=some (.t (.sl ((b.take 1).map qA)),[]):=qCe (n:=1) ⟨oM,oM⟩;have f2:vT.fs [.t (.sl (b.map qA)),.t (.int .i64 2)] []=some (.t (.sl ((b.take 2).map qA)),[]):=qCe (n:=2) ⟨oM,oM⟩;have f20:vT.fs [.t (.sl (b.map qA)),.t (.int .i64 20)] []=some (.t (.sl ((b.take 20).map qA)),[]):=qCe (n:=20) ⟨oM,oM⟩;have fin : ∀ {i:Nat} {d:List UInt8},d.length≤60 → ∀ x∈[p,b.take i,d],x.length≤60:=by
  intro i d hd x hx;simp only[List.mem_cons,List.not_mem_nil,or_false] at hx;rcases hx with rfl | rfl | rfl
  ·omega
  ·simp;omega
  ·exact hd
 obtain⟨r2,o2⟩:=jJy (n/3%4) (n/12%2*4);obtain⟨r3,o3⟩:=jJy (n/3%4) 1;obtain⟨r4,o4⟩:=jJy r2 1;simp only[stA] at e1;rcases (by omega:n%3=0∨n%3=1∨n%3=2) with c | c | c
 ·by_cases z:p.length=0
  ·by_cases w:n%11<10
   ·simp(maxSteps:=9^9)(disch:=try exact dS)only[go_sem,jA,stA,m3,c,d3,m34,d5,h1,h2,e1,f0,z,m11,w,o3,mcn];repeat refine aiG ?_
    exact zBu [_,_,_] [p,b.take 0,[]] ⟨rfl,rfl,fin sM⟩ rfl rfl
   ·simp(maxSteps:=9^9)(disch:=try exact dS)only[go_sem,jA,stA,m3,c,d3,m34,d5,h1,h2,e1,f0,z,m11,w,mcn];repeat refine aiG ?_
    exact zBu [_,_,_] [p,b.take 0,[]] ⟨rfl,rfl,fin sM⟩ rfl rfl
  ·simp(maxSteps:=9^9)(disch:=try exact dS)only[go_sem,jA,stA,m3,c,d3,m34,d5,h1,h2,e1,f0,z,mcn];repeat refine aiG ?_
   exact zBu [_,_,_] [p,b.take 0,[]] ⟨rfl,rfl,fin sM⟩ rfl rfl
 ·by_cases z:p.length=0
  ·by_cases w:n%11<10
   ·simp(maxSteps:=9^9)(disch:=try exact dS)only[go_sem,jA,stA,m3,c,d3,m34,d5,h1,h2,e1,f1,d12,m12,d24,m24,o2,z,m11,w,o4,mcn];repeat refine aiG ?_
    exact zBu [_,_,_] [p,b.take 1,[]] ⟨rfl,rfl,fin sM⟩ rfl rfl
   ·simp(maxSteps:=9^9)(disch:=try exact dS)only[go_sem,jA,stA,m3,c,d3,m34,d5,h1,h2,e1,f1,d12,m12,d24,m24,o2,z,m11,w,mcn];repeat refine aiG ?_
    exact zBu [_,_,_] [p,b.take 1,[]] ⟨rfl,rfl,fin sM⟩ rfl rfl
  ·simp(maxSteps:=9^9)(disch:=try exact dS)only[go_sem,jA,stA,m3,c,d3,m34,d5,h1,h2,e1,f1,d12,m12,d24,m24,o2,z,mcn];repeat refine aiG ?_
   exact zBu [_,_,_] [p,b.take 1,[]] ⟨rfl,rfl,fin sM⟩ rfl rfl
 ·by_cases z:p.length=0
  ·by_cases w:n%11<10
   ·simp(maxSteps:=9^9)(disch:=try exact dS)only[go_sem,jA,stA,m3,c,d3,m34,d5,h1,h2,e1,f2,f20,z,m11,w,o3,mcn];repeat refine aiG ?_
    exact zBu [_,_,_] [p,b.take 2,b.take 20] ⟨rfl,rfl,fin soM⟩ rfl rfl
   ·simp(maxSteps:=9^9)(disch:=try exact dS)only[go_sem,jA,stA,m3,c,d3,m34,d5,h1,h2,e1,f2,f20,z,m11,w,mcn];repeat refine aiG ?_
    exact zBu [_,_,_] [p,b.take 2,b.take 20] ⟨rfl,rfl,fin soM⟩ rfl rfl
  ·simp(maxSteps:=9^9)(disch:=try exact dS)only[go_sem,jA,stA,m3,c,d3,m34,d5,h1,h2,e1,f2,f20,z,mcn];repeat refine aiG ?_
   exact zBu [_,_,_] [p,b.take 2,b.take 20] ⟨rfl,rfl,fin soM⟩ rfl rfl
theorem jGs (a b:Int) : ∃ r,qGy .andNot (.int .i64 a) (.int .i64 b)=some (.int .i64 r):=⟨_,rfl⟩
theorem zBy {g1}(h1:LkE tab 168 qLc g1)(h2:LkC tab 113 vT)(s:St)(n:Int)(b:List UInt8)(hp:s.Ok∧nnI n∧b.length≤60) :
  qGb.1.wp tab gl (qE 0 [.t (stA s),.t (.int .i64 n),.t (.sl (b.map qA))]) (qE 0 []) (qX [(6,none),(7,none)] 0 (qFb.K (s,n,b))):=by
 obtain⟨hs,hn,hb⟩:=hp;obtain⟨i,hi⟩ : ∃ i:Nat,n%3=i:=⟨(n%3).toNat,oM⟩;have m3:n.tmod 3=(i:Int):=(Int.tmod_eq_emod_of_nonneg hn.1).trans hi;have d3:n.tdiv 3=n/3:=Int.tdiv_eq_ediv_of_nonneg hn.1;have m128:(n/3).tmod 128=n/3%128:=Int.tmod_eq_emod_of_nonneg oM;have d5:n.tdiv 5=n/5:=Int.tdiv_eq_ediv_of_nonneg hn.1;have m5:n.tmod 5=n%5:=Int.tmod_eq_emod_of_nonneg hn.1;have m54:(n/5).tmod 4=n/5%4:=Int.tmod_eq_emod_of_nonneg oM;have d7:n.tdiv 7=n/7:=Int.tdiv_eq_ediv_of_nonneg hn.1;obtain⟨p,hp',e1⟩:=jAa (g:=g1) (s:=s) (n:=n/7) (b:=b) ⟨hs,⟨oM,oM⟩,hb⟩;have f:=qCe (b:=b) (n:=i) ⟨oM,oM⟩;have fin : ∀ x∈[b.take i,p],x.length≤60:=by
  intro x hx;simp only[List.mem_cons,List.not_mem_nil,or_false] at hx;rcases hx with rfl | rfl
  ·simp;omega
  ·omega
 obtain⟨r1,o1⟩:=jJy (n/3%128) 1;obtain⟨r2,o2⟩:=jJy r1 2;obtain⟨r3,o3⟩:=jGs r2 12;simp only[stA] at e1;by_cases z:p.length=0;all_goals rcases (by omega:n/5%4=0∨n/5%4=1∨n/5%4=2∨n/5%4=3) with c | c | c | c
 all_goals
  simp(maxSteps:=9^9)(disch:=try exact dS)only[go_sem,qGb,stA,m3,d3,m128,d5,m5,m54,c,d7,h1,h2,e1,f,o1,o2,o3,z,mcn];repeat refine aiG ?_
  exact jN7 [_,_,_,_] [b.take i,p] ⟨sM,sM,fin⟩ rfl rfl
theorem qX5 {g1}(h1:LkE tab 118 qBa g1){g2}(h2:LkE tab 145 qCr g2)(h3:LkC tab 113 vT)(h4:LkC tab 29 qM6){g5}(h5:LkE tab 172 qLa g5){g6}(h6:LkE tab 174 qKq g6){g7}(h7:LkE tab 173 qI1 g7){g8}(h8:LkE tab 171 qCt g8)(s:St)(n:Int)(b:List UInt8)(hp:s.Ok∧nnI n∧b.length≤60) :
  qBo.1.wp tab gl (qE 0 [.t (stA s),.t (.int .i64 n),.t (.sl (b.map qA))]) (qE 0 []) (qX [(6,none),(7,none)] 0 (qE8.K (s,n,b))):=by
 obtain⟨hs,hn,hb⟩:=hp;obtain⟨i,hi⟩ : ∃ i:Nat,n%4=i:=⟨(n%4).toNat,oM⟩;have m4:n.tmod 4=(i:Int):=(Int.tmod_eq_emod_of_nonneg hn.1).trans hi;have m5:n.tmod 5=n%5:=Int.tmod_eq_emod_of_nonneg hn.1;obtain⟨h,hh,e1⟩:=qMs (g:=g1) (s:=s) (n:=n) (k:=2) ⟨hs,hn⟩;obtain⟨x,e,⟨hx,_⟩,e2⟩:=qQi (g:=g2) (s:=s) (h:=h) ⟨hs,oM,oM⟩;have hd:=hx.2.2.1;have f2:vT.fs [.t (.sl (b.map qA)),.t (.int .i64 2)] []=some (.t (.sl ((b.take 2).map qA)),[]):=qCe (n:=2) ⟨oM,oM⟩;have f:=qCe (b:=b) (n:=i) ⟨oM,oM⟩;have e4:=qWv (b:=b.take 2) soM;have ls:((b.take 2).take 32++List.replicate (32-(b.take 2).length) (0:UInt8)).length=32:=soM;generalize (b.take 2).take 32++List.replicate (32-(b.take 2).length) (0:UInt8)=sd at *;obtain⟨u,hu,e5⟩:=zZ8 (g:=g5) (s:=sd) (h:=0) oM;have lr:(b.take i).length≤60:=soM;generalize b.take i=rf at *;obtain⟨a,ha,e6⟩:=zYx (g:=g6) (d:=x.dg) (rf:=rf) ⟨oM,oM⟩;obtain⟨s1,l1,e7⟩:=zSr (g:=g7) (s:=sd) (h:=0) (l:=0) (m:=a) ⟨oM,oM⟩;obtain⟨s2,l2,e8⟩:=zSr (g:=g7) (s:=sd) (h:=0) (l:=0) (m:=b) ⟨oM,oM⟩;obtain⟨y,ly,e9⟩:=qWg (g:=g8) (p:=⟨2,1,0,[],u⟩) ⟨sM,by simp only;omega⟩;have ts:List.take 32 sd=sd:=List.take_of_length_le oM;have fin : ∀ {t:List UInt8},t.length≤1000 → ∀ x∈[y,rf,t],x.length≤2000:=by
  intro t ht x hx;simp only[List.length_nil] at ly;simp only[List.mem_cons,List.not_mem_nil,or_false] at hx;rcases hx with rfl | rfl | rfl<;>omega
 simp only[stA,jL,puA,List.map_nil] at e1 e2 e9;by_cases c:n%5=4
 ·simp(maxSteps:=9^9)(disch:=try exact dS)only[go_sem,qBo,stA,m4,m5,c,h1,h2,h3,h4,h5,h6,h7,h8,e1,e2,f2,f,e4,e5,e6,e7,e8,e9,ts,ls,mcn];repeat refine aiG ?_
  exact jGu [h] [y,rf,s2] ⟨sM,sM,fin l2⟩ rfl rfl
 ·simp(maxSteps:=9^9)(disch:=try exact dS)only[go_sem,qBo,stA,m4,m5,c,h1,h2,h3,h4,h5,h6,h7,h8,e1,e2,f2,f,e4,e5,e6,e7,e9,ts,ls,mcn];repeat refine aiG ?_
  exact jGu [h] [y,rf,s1] ⟨sM,sM,fin l1⟩ rfl rfl
theorem qX6 {g1}(h1:LkE tab 123 qB3 g1)(h2:LkC tab 113 vT){g3}(h3:LkE tab 144 kD g3)(h4:LkC tab 29 qM6)(s:St)(k n:Int)(b:List UInt8)(hp:s.Ok∧nnI k∧nnI n∧b.length≤60) :
  qO.1.wp tab gl (qE 0 [.t (stA s),.t (.int .i64 k),.t (.int .i64 n),.t (.sl (b.map qA))]) (qE 0 []) (qX [(8,(some (5,true)))] 0 (qFf.K (s,k,n,b))):=by
 obtain⟨hs,hk,hn,hb⟩:=hp;have m9:(n/9).tmod 4=n/9%4:=Int.tmod_eq_emod_of_nonneg oM;have d9:n.tdiv 9=n/9:=Int.tdiv_eq_ediv_of_nonneg hn.1;have m6:n.tmod 6=n%6:=Int.tmod_eq_emod_of_nonneg hn.1;have ms:n.tmod 3=n%3:=Int.tmod_eq_emod_of_nonneg hn.1;have ds:n.tdiv 3=n/3:=Int.tdiv_eq_ediv_of_nonneg hn.1;have m2:n.tmod 2=n%2:=Int.tmod_eq_emod_of_nonneg hn.1;have f6:vT.fs [.t (.sl (b.map qA)),.t (.int .i64 6)] []=some (.t (.sl ((b.take 6).map qA)),[]):=qCe (n:=6) ⟨oM,oM⟩;have l1:=hs.a.ix;obtain⟨h,hh,e1⟩:=zKv (g:=g1) (s:=s) (n:=n) ⟨hs,hn⟩;have e3:=qHh (g:=g3) (s:=s) (h:=h) ⟨l1.1,fun x hx=>(l1.2 x hx).1⟩;have e4:=qWv (b:=b) oM;have ls:(b.take 32++List.replicate (32-b.length) (0:UInt8)).length=32:=soM;generalize b.take 32++List.replicate (32-b.length) (0:UInt8)=sd at *;simp only[stA] at e1 e3;have hr := @zEd s.a.ix h 0;generalize ixP s.a.ix h 0=j at *;rcases hr with rfl | ⟨r1,r2⟩
 ·by_cases c:n/9%4=0
  ·skip
   by_cases k1:k<2
   ·simp(maxSteps:=9^9)(disch:=try exact dS)only[go_sem,qO,stA,m9,d9,m6,ms,ds,m2,f6,c,h1,h2,h3,e1,e3,mcn,k1];repeat refine aiG ?_
    exact qEa ⟨24,[_,_],[],[_,_],[]⟩ ⟨⟨sM,sM,sM,sM,sM,sM⟩,sM⟩ rfl rfl
   by_cases k2:k=2
   ·subst k2;simp(maxSteps:=9^9)(disch:=try exact dS)only[go_sem,qO,stA,m9,d9,m6,ms,ds,m2,f6,c,h1,h2,h3,e1,e3,mcn];repeat refine aiG ?_
    exact qEa ⟨_,[_,_],[],[],[]⟩ ⟨⟨sM,sM,sM,sM,sM,sM⟩,sM⟩ rfl rfl
   by_cases k7:k=7
   ·subst k7;simp(maxSteps:=9^9)(disch:=try exact dS)only[go_sem,qO,stA,m9,d9,m6,ms,ds,m2,f6,c,h1,h2,h3,e1,e3,mcn];repeat refine aiG ?_
    exact qEa ⟨25,[_,_],[],[],[]⟩ ⟨⟨sM,sM,sM,sM,sM,sM⟩,sM⟩ rfl rfl
   ·simp(maxSteps:=9^9)(disch:=try exact dS)only[go_sem,qO,stA,m9,d9,m6,ms,ds,m2,f6,c,h1,h2,h3,e1,e3,mcn,k1,k2,k7];repeat refine aiG ?_
    exact qEa ⟨23,[_,_],[],[_],[b.take 6]⟩ ⟨⟨sM,sM,sM,sM,soM,sM⟩,sM⟩ rfl rfl
  ·skip
   by_cases k1:k<2
   ·simp(maxSteps:=9^9)(disch:=try exact dS)only[go_sem,qO,stA,m9,d9,m6,ms,ds,m2,f6,c,h1,h2,h3,e1,e3,mcn,k1];repeat refine aiG ?_
    exact qEa ⟨24,[_,_],[],[_,_],[]⟩ ⟨⟨sM,sM,sM,sM,sM,sM⟩,sM⟩ rfl rfl
   by_cases k2:k=2
   ·subst k2;simp(maxSteps:=9^9)(disch:=try exact dS)only[go_sem,qO,stA,m9,d9,m6,ms,ds,m2,f6,c,h1,h2,h3,e1,e3,mcn];repeat refine aiG ?_
    exact qEa ⟨_,[_,_],[],[],[]⟩ ⟨⟨sM,sM,sM,sM,sM,sM⟩,sM⟩ rfl rfl
   by_cases k7:k=7
   ·subst k7;simp(maxSteps:=9^9)(disch:=try exact dS)only[go_sem,qO,stA,m9,d9,m6,ms,ds,m2,f6,c,h1,h2,h3,e1,e3,mcn];repeat refine aiG ?_
    exact qEa ⟨25,[_,_],[],[],[]⟩ ⟨⟨sM,sM,sM,sM,sM,sM⟩,sM⟩ rfl rfl
   ·simp(maxSteps:=9^9)(disch:=try exact dS)only[go_sem,qO,stA,m9,d9,m6,ms,ds,m2,f6,c,h1,h2,h3,e1,e3,mcn,k1,k2,k7];repeat refine aiG ?_
    exact qEa ⟨23,[_,_],[],[_],[b.take 6]⟩ ⟨⟨sM,sM,sM,sM,soM,sM⟩,sM⟩ rfl rfl
 ·obtain⟨jj,rfl⟩ : ∃ jj:Nat,j=jj:=⟨j.toNat,oM⟩;have hlt:jj<s.a.ix.length:=oM;obtain⟨x,hg,hm,_⟩:=qN hlt;by_cases c:n/9%4=0
  ·skip
   by_cases k1:k<2
   ·simp(maxSteps:=9^9)(disch:=try exact dS)only[go_sem,qO,stA,m9,d9,m6,ms,ds,m2,f6,c,h1,h2,h3,e1,e3,hlt,hg,oms,ixA,mcn,k1];repeat refine aiG ?_
    exact qEa ⟨24,[_,_],[],[_,_],[]⟩ ⟨⟨sM,sM,sM,sM,sM,sM⟩,sM⟩ rfl rfl
   by_cases k2:k=2
   ·subst k2;simp(maxSteps:=9^9)(disch:=try exact dS)only[go_sem,qO,stA,m9,d9,m6,ms,ds,m2,f6,c,h1,h2,h3,e1,e3,hlt,hg,oms,ixA,mcn];repeat refine aiG ?_
    exact qEa ⟨_,[_,_],[],[],[]⟩ ⟨⟨sM,sM,sM,sM,sM,sM⟩,sM⟩ rfl rfl
   by_cases k7:k=7
   ·subst k7;by_cases k3:x.kd=2
    ·simp(maxSteps:=9^9)(disch:=try exact dS)only[go_sem,qO,stA,m9,d9,m6,ms,ds,m2,f6,c,h1,h2,h3,e1,e3,hlt,hg,oms,ixA,mcn,k3];repeat refine aiG ?_
     exact qEa ⟨25,[_,_],[],[],[]⟩ ⟨⟨sM,sM,sM,sM,sM,sM⟩,sM⟩ rfl rfl
    ·simp(maxSteps:=9^9)(disch:=try exact dS)only[go_sem,qO,stA,m9,d9,m6,ms,ds,m2,f6,c,h1,h2,h3,e1,e3,hlt,hg,oms,ixA,mcn,k3];repeat refine aiG ?_
     exact qEa ⟨25,[_,_],[],[],[]⟩ ⟨⟨sM,sM,sM,sM,sM,sM⟩,sM⟩ rfl rfl
   by_cases k3:x.kd=2
   ·simp(maxSteps:=9^9)(disch:=try exact dS)only[go_sem,qO,stA,m9,d9,m6,ms,ds,m2,f6,c,h1,h2,h3,e1,e3,hlt,hg,oms,ixA,mcn,k1,k2,k7,k3];repeat refine aiG ?_
    exact qEa ⟨25,[_,_],[],[],[]⟩ ⟨⟨sM,sM,sM,sM,sM,sM⟩,sM⟩ rfl rfl
   by_cases k4:x.kd=3
   ·simp(maxSteps:=9^9)(disch:=try exact dS)only[go_sem,qO,stA,m9,d9,m6,ms,ds,m2,f6,c,h1,h2,h3,e1,e3,hlt,hg,oms,ixA,mcn,k1,k2,k7,k4,h4,e4,ls];repeat refine aiG ?_
    exact qEa ⟨26,[_,_],[],[],[sd.take 8]⟩ ⟨⟨sM,sM,sM,sM,soM,sM⟩,sM⟩ rfl rfl
   by_cases k5:x.kd=4
   ·simp(maxSteps:=9^9)(disch:=try exact dS)only[go_sem,qO,stA,m9,d9,m6,ms,ds,m2,f6,c,h1,h2,h3,e1,e3,hlt,hg,oms,ixA,mcn,k1,k2,k7,k5];repeat refine aiG ?_
    exact qEa ⟨27,[_,_],[],[],[b]⟩ ⟨⟨sM,sM,sM,sM,soM,sM⟩,sM⟩ rfl rfl
   ·simp(maxSteps:=9^9)(disch:=try exact dS)only[go_sem,qO,stA,m9,d9,m6,ms,ds,m2,f6,c,h1,h2,h3,e1,e3,hlt,hg,oms,ixA,mcn,k1,k2,k7,k3,k4,k5];repeat refine aiG ?_
    exact qEa ⟨23,[_,_],[],[_],[b.take 6]⟩ ⟨⟨sM,sM,sM,sM,soM,sM⟩,sM⟩ rfl rfl
  ·skip
   by_cases k1:k<2
   ·simp(maxSteps:=9^9)(disch:=try exact dS)only[go_sem,qO,stA,m9,d9,m6,ms,ds,m2,f6,c,h1,h2,h3,e1,e3,hlt,hg,oms,ixA,mcn,k1];repeat refine aiG ?_
    exact qEa ⟨24,[_,_],[],[_,_],[]⟩ ⟨⟨sM,sM,sM,sM,sM,sM⟩,sM⟩ rfl rfl
   by_cases k2:k=2
   ·subst k2;simp(maxSteps:=9^9)(disch:=try exact dS)only[go_sem,qO,stA,m9,d9,m6,ms,ds,m2,f6,c,h1,h2,h3,e1,e3,hlt,hg,oms,ixA,mcn];repeat refine aiG ?_
    exact qEa ⟨_,[_,_],[],[],[]⟩ ⟨⟨sM,sM,sM,sM,sM,sM⟩,sM⟩ rfl rfl
   by_cases k7:k=7
   ·subst k7;by_cases k3:x.kd=2
    ·simp(maxSteps:=9^9)(disch:=try exact dS)only[go_sem,qO,stA,m9,d9,m6,ms,ds,m2,f6,c,h1,h2,h3,e1,e3,hlt,hg,oms,ixA,mcn,k3];repeat refine aiG ?_
     exact qEa ⟨25,[_,_],[],[],[]⟩ ⟨⟨sM,sM,sM,sM,sM,sM⟩,sM⟩ rfl rfl
    ·simp(maxSteps:=9^9)(disch:=try exact dS)only[go_sem,qO,stA,m9,d9,m6,ms,ds,m2,f6,c,h1,h2,h3,e1,e3,hlt,hg,oms,ixA,mcn,k3];repeat refine aiG ?_
     exact qEa ⟨25,[_,_],[],[],[]⟩ ⟨⟨sM,sM,sM,sM,sM,sM⟩,sM⟩ rfl rfl
   by_cases k3:x.kd=2
   ·simp(maxSteps:=9^9)(disch:=try exact dS)only[go_sem,qO,stA,m9,d9,m6,ms,ds,m2,f6,c,h1,h2,h3,e1,e3,hlt,hg,oms,ixA,mcn,k1,k2,k7,k3];repeat refine aiG ?_
    exact qEa ⟨25,[_,_],[],[],[]⟩ ⟨⟨sM,sM,sM,sM,sM,sM⟩,sM⟩ rfl rfl
   by_cases k4:x.kd=3
   ·simp(maxSteps:=9^9)(disch:=try exact dS)only[go_sem,qO,stA,m9,d9,m6,ms,ds,m2,f6,c,h1,h2,h3,e1,e3,hlt,hg,oms,ixA,mcn,k1,k2,k7,k4,h4,e4,ls];repeat refine aiG ?_
    exact qEa ⟨26,[_,_],[],[],[sd.take 8]⟩ ⟨⟨sM,sM,sM,sM,soM,sM⟩,sM⟩ rfl rfl
   by_cases k5:x.kd=4
   ·simp(maxSteps:=9^9)(disch:=try exact dS)only[go_sem,qO,stA,m9,d9,m6,ms,ds,m2,f6,c,h1,h2,h3,e1,e3,hlt,hg,oms,ixA,mcn,k1,k2,k7,k5];repeat refine aiG ?_
    exact qEa ⟨27,[_,_],[],[],[b]⟩ ⟨⟨sM,sM,sM,sM,soM,sM⟩,sM⟩ rfl rfl
   ·simp(maxSteps:=9^9)(disch:=try exact dS)only[go_sem,qO,stA,m9,d9,m6,ms,ds,m2,f6,c,h1,h2,h3,e1,e3,hlt,hg,oms,ixA,mcn,k1,k2,k7,k3,k4,k5];repeat refine aiG ?_
    exact qEa ⟨23,[_,_],[],[_],[b.take 6]⟩ ⟨⟨sM,sM,sM,sM,soM,sM⟩,sM⟩ rfl rfl
theorem Rq.B.lit {co:Int}{hh ns:List Int}{bl:List (List UInt8)}(h1:hh.length≤8)(h2:ns.length≤8)(h3:bl.length≤8)(h4 : ∀ x∈bl,x.length≤4000):(Rq.mk co hh [] ns bl).B:=⟨h1,sM,h2,h3,h4,sM⟩
theorem qAl {a b:Int}(h:0≤a):a.tmod b=a%b:=Int.tmod_eq_emod_of_nonneg h
theorem qAk {a b:Int}(h:0≤a):a.tdiv b=a/b:=Int.tdiv_eq_ediv_of_nonneg h
theorem zEp {n:Nat}{x:List UInt8}(h:x.length≤n) : ∀ y∈[x],y.length≤n:=by
 intro y hy;simp only[List.mem_cons,List.not_mem_nil,or_false] at hy;rw[hy];exact h
theorem qSk {n:Nat} : ∀ y∈([]:List (List UInt8)),y.length≤n:=sM
end Go.Eng
end
