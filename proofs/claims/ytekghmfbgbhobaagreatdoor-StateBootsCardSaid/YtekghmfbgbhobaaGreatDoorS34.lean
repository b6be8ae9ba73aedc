/- A part of an abstract machine, its walks, their tie. -/
import Derived.Test.YtekghmfbgbhobaaGreatDoorS33
import Derived.Test.YtekghmfbgbhobaaGreatDoorS32
import Derived.Test.YtekghmfbgbhobaaGreatDoorS27
import Derived.Test.YtekghmfbgbhobaaGreatDoorS22
set_option linter.all false
section
set_option maxHeartbeats 64000000
set_option maxRecDepth 20000
namespace Go.Eng
variable (tab:Tab) (gl:Gl)
theorem jQb {α:Type}{l:List α}(h:(l.length:Int)=6) : ∃ a b c d e f,l=[a,b,c,d,e,f]:=by
 match l,h with
 | [a,b,c,d,e,f],_=>exact⟨a,b,c,d,e,f,rfl⟩
 | [],h=>simp at h
 | [_],h=>simp at h
 | [_,_],h=>simp at h
 | [_,_,_],h=>simp at h
 | [_,_,_,_],h=>simp at h
 | [_,_,_,_,_],h=>simp at h
 | _::_::_::_::_::_::_::_,h=>simp at h;omega
theorem zYo {g:EF qAu}{s t:St}{e:Int}(hs:s.Ok)(h:e=0→s.Go 0 t) : ∃ (v:St) (r:Rs),s.Go 3 v∧qAu.fs g [.t (stA s),.t (stA t),.t (.int .i64 e)] []=some (.tup [.t (stA v),.t (rsA r)],[]):=by
 obtain⟨v,r,⟨h1,h2⟩,e1⟩:=zVf (g:=g) (s:=s) (t:=t) (e:=e);refine⟨v,r,?_,e1⟩;by_cases c:e=0
 ·rw[h1 c];exact (h c).le oM
 ·rw[h2 c];exact St.go_rfl hs oM
theorem qV3 {g1}(h1:LkE tab 108 wR g1){g2}(h2:LkE tab 144 wB g2){g3}(h3:LkE tab 192 qHd g3){g4}(h4:LkE tab 247 qI0 g4){g5}(h5:LkE tab 154 qAu g5)(s:St)(q:Rq)(hp:(s.Ok∧s.cn 1000000)∧q.Ok∧q.co=17) :
  jG.1.wp tab gl (qD 0 [.t (stA s),.t (rqA q)]) (qD 0 []) (qY [(4,(some (30,true))),(5,(some (4,true)))] 0 (qLn.K (s,q))):=by
 obtain⟨⟨hs,hc⟩,hq,rfl'⟩:=hp;obtain⟨_,q2,_,q4,q5⟩:=hq;obtain⟨co,hh,au,ns,bl⟩:=q;simp only at rfl' q2 q4 q5;subst rfl';rw[show qFh 17=(0,0,6,-1) from rfl] at q2 q4 q5;obtain⟨k0,k1,k2,k3,k4,k5,rfl⟩:=jQb q4.1;have t0:tmI k0:=q4.2 k0 sM;have t4:tmI k4:=q4.2 k4 sM;obtain⟨q5,q6⟩:=q5;have hl:bl.length≤8:=by
  rcases q5 with h | h
  ·have h':(bl.length:Int) = -1:=h;omega
  ·exact h.2
 obtain⟨ra,ea⟩:=qA0 (g:=g1) (s:=s) (e:=1);obtain⟨rb,eb⟩:=qA0 (g:=g1) (s:=s) (e:=7);have fin : ∀ a:Asr,a.B → ∃ (t:St) (e:Int) (v:St) (r:Rs),s.Go 3 v∧qI0.fs g4 [.t (stA s),.t (.int .i64 k0),.t (yX a)] []=some (.tup [.t (stA t),.t (.int .i64 e)],[])∧
   qAu.fs g5 [.t (stA s),.t (stA t),.t (.int .i64 e)] []=some (.tup [.t (stA v),.t (rsA r)],[]):=by
  intro a ha;obtain⟨t,e,hg,e1⟩:=jBt (g:=g4) (s:=s) (h:=k0) (a:=a) ⟨hs,hc,ha,t0⟩;obtain⟨v,r,hv,e2⟩:=zYo (g:=g5) hs hg;exact⟨t,e,v,r,hv,e1,e2⟩
 by_cases c1:k1=1
 ·subst c1;by_cases cl:bl.length=1
  ·obtain⟨b0,rfl⟩:=List.length_eq_one_iff.1 cl;have hb0:=q6 b0 sM;obtain⟨t,e,v,r,hv,e1,e2⟩:=fin ⟨1,k2,k3,b0,k4,k5,[],[],[],[]⟩ ⟨by simp only;omega,sM,sM,sM,sM,sM⟩;simp only[stA,yX,rsA,List.map_nil] at e1 e2;simp(maxSteps:=9^9)(disch:=try exact dS)only[go_sem,jG,stA,rqA,mcn,iT,bsT,h4,h5,e1,e2];repeat refine aiG ?_
   exact zAd v r hv rfl rfl
  ·simp only[stA,rsA] at ea;simp(maxSteps:=9^9)(disch:=try exact dS)only[go_sem,jG,stA,rqA,mcn,iT,h1,ea,cl];repeat refine aiG ?_
   exact zAd s ra (St.go_rfl hs oM) rfl rfl
 by_cases c4:k1=4
 ·subst c4;by_cases cl:bl.length=1
  ·obtain⟨b0,rfl⟩:=List.length_eq_one_iff.1 cl;have hb0:=q6 b0 sM;have l1:=hs.a.ix;have ei:=qFr (g:=g2) (s:=s) (h:=k4) ⟨l1.1,fun x hx=>(l1.2 x hx).1⟩;generalize ixP s.a.ix k4 0=j at *;by_cases cj:j<0
   ·simp only[stA,rsA] at eb ei;simp(maxSteps:=9^9)(disch:=try exact dS)only[go_sem,jG,stA,rqA,mcn,iT,bsT,h1,h2,eb,ei,cj];repeat refine aiG ?_
    exact zAd s rb (St.go_rfl hs oM) rfl rfl
   ·obtain⟨nm,hnm,en⟩:=zMn (g:=g3) (s:=s) (h:=k4) hs;obtain⟨t,e,v,r,hv,e1,e2⟩:=fin ⟨4,k2,k3,[],k4,k5,b0,nm,[],[]⟩ ⟨sM,by simp only;omega,by simp only;omega,sM,sM,sM⟩;simp only[stA,yX,rsA,List.map_nil] at e1 e2 en ei;simp(maxSteps:=9^9)(disch:=try exact dS)only[go_sem,jG,stA,rqA,mcn,iT,bsT,h2,h3,h4,h5,ei,en,e1,e2,cj];repeat refine aiG ?_
    exact zAd v r hv rfl rfl
  ·simp only[stA,rsA] at ea;simp(maxSteps:=9^9)(disch:=try exact dS)only[go_sem,jG,stA,rqA,mcn,iT,h1,ea,cl];repeat refine aiG ?_
   exact zAd s ra (St.go_rfl hs oM) rfl rfl
 by_cases c8:k1=8
 ·subst c8;obtain⟨t,e,v,r,hv,e1,e2⟩:=fin ⟨8,k2,k3,[],k4,k5,[],[],[],bl⟩ ⟨sM,sM,sM,sM,hl,fun x hx=>by have:=q6 x hx;omega⟩;simp only[stA,yX,rsA,List.map_nil] at e1 e2;simp(maxSteps:=9^9)(disch:=try exact dS)only[go_sem,jG,stA,rqA,mcn,iT,h4,h5,e1,e2];repeat refine aiG ?_
  exact zAd v r hv rfl rfl
 by_cases cl:0<bl.length
 ·simp only[stA,rsA] at ea;simp(maxSteps:=9^9)(disch:=try exact dS)only[go_sem,jG,stA,rqA,mcn,iT,h1,ea,cl,c1,c4,c8];repeat refine aiG ?_
  exact zAd s ra (St.go_rfl hs oM) rfl rfl
 ·obtain rfl:bl=[]:=List.length_eq_zero_iff.1 oM;obtain⟨t,e,v,r,hv,e1,e2⟩:=fin ⟨k1,k2,k3,[],k4,k5,[],[],[],[]⟩ ⟨sM,sM,sM,sM,sM,sM⟩;simp only[stA,yX,rsA,List.map_nil] at e1 e2;simp(maxSteps:=9^9)(disch:=try exact dS)only[go_sem,jG,stA,rqA,mcn,iT,h4,h5,e1,e2,c1,c4,c8];repeat refine aiG ?_
  exact zAd v r hv rfl rfl
theorem qRp {g1}(h1:LkE tab 205 qMy g1){g2}(h2:LkE tab 108 wR g2){g3}(h3:LkE tab 145 qBc g3){g4}(h4:LkE tab 206 qLn g4){g5}(h5:LkE tab 192 qHd g5){g6}(h6:LkE tab 207 qNd g6){g7}(h7:LkE tab 154 qAu g7){g8}(h8:LkE tab 208 qJm g8){g9}(h9:LkE tab 209 qLm g9)(s:St)(q:Rq)(hp:(s.Ok∧s.cn 1000000)∧q.Ok∧(q.co=16∨q.co=17∨q.co=18∨q.co=19∨q.co=20)) :
  zL.1.wp tab gl (qD 0 [.t (stA s),.t (rqA q)]) (qD 0 []) (qY [(4,(some (30,true))),(5,(some (4,true)))] 0 (qNk.K (s,q))):=by
 obtain⟨⟨hs,hc⟩,hq,hco⟩:=hp;have hq':=hq;obtain⟨_,q2,q3,q4,q5⟩:=hq;obtain⟨co,hh,au,ns,bl⟩:=q;simp only at hco q2 q3 q4 q5;rcases hco with rfl | rfl | rfl | rfl | rfl
 ·rw[show qFh 16=(0,0,1,0) from rfl] at q2 q3 q4 q5;obtain⟨n0,rfl⟩:=qOu q4.1;obtain⟨t,h,e,hg,e1⟩:=jEh (g:=g1) (s:=s) (k:=n0) ⟨hs,hc⟩;have hg:e=0→s.Go 1 t∧tmI h:=hg;by_cases c:e=0
  ·subst c;obtain⟨ht,hh'⟩:=hg rfl;obtain⟨x,e',_,e2⟩:=qOo (g:=g3) (s:=t) (h:=h) ⟨ht.1,hh'⟩;simp only[stA,zZ] at e1 e2;simp(maxSteps:=9^9)(disch:=try exact dS)only[go_sem,zL,stA,rqA,mcn,iT,h1,h3,e1,e2];repeat refine aiG ?_
   exact qVb t ⟨0,[h],[x.no],[]⟩ (ht.le oM) rfl rfl
  ·obtain⟨rb,eb⟩:=qA0 (g:=g2) (s:=s) (e:=e);simp only[stA,rsA] at e1 eb;simp(maxSteps:=9^9)(disch:=try exact dS)only[go_sem,zL,stA,rqA,mcn,iT,h1,h2,e1,eb,c];repeat refine aiG ?_
   exact qVb s rb (St.go_rfl hs oM) rfl rfl
 ·obtain⟨t,r,hg,e1⟩:=jBr (g:=g4) (s:=s) (q:=⟨17,hh,au,ns,bl⟩) ⟨⟨hs,hc⟩,hq',rfl⟩;simp only[stA,rqA,rsA] at e1;simp(maxSteps:=9^9)(disch:=try exact dS)only[go_sem,zL,stA,rqA,h4,e1];exact qVb t r hg rfl rfl
 ·rw[show qFh 18=(1,1,2,1) from rfl] at q2 q3 q4 q5;obtain⟨hd,rfl⟩:=qOu q2.1;obtain⟨az,rfl⟩:=qOu q3.1;obtain⟨n0,n1',rfl⟩:=zXy q4.1;obtain⟨b0,rfl⟩:=qOu (l:=bl) (by rcases q5.1 with h | h;exact h;exact absurd h.1 (by decide));have hb0:=q5.2 b0 sM;by_cases c:n0=az.s
  ·subst c;obtain⟨rb,eb⟩:=qA0 (g:=g2) (s:=s) (e:=8);simp only[stA,rsA] at eb;simp(maxSteps:=9^9)(disch:=try exact dS)only[go_sem,zL,stA,rqA,azA,mcn,iT,bsT,h2,eb];repeat refine aiG ?_
   exact qVb s rb (St.go_rfl hs oM) rfl rfl
  ·obtain⟨nm,hnm,en⟩:=zMn (g:=g5) (s:=s) (h:=hd) hs;obtain⟨t,e,hg,e1⟩:=jFo (g:=g6) (s:=s) (h:=n0) (nm:=nm) (rf:=b0) (n:=n1') ⟨hs,oM,oM,q4.2 n0 sM⟩;obtain⟨v,r,hv,e2⟩:=zYo (g:=g7) hs hg;simp only[stA,rsA] at en e1 e2;simp(maxSteps:=9^9)(disch:=try exact dS)only[go_sem,zL,stA,rqA,azA,mcn,iT,bsT,h5,h6,h7,en,e1,e2,c];repeat refine aiG ?_
   exact qVb v r hv rfl rfl
 ·rw[show qFh 19=(0,0,1,3) from rfl] at q2 q3 q4 q5;obtain⟨n0,rfl⟩:=qOu q4.1;obtain⟨b0,b1,b2,rfl⟩:=zQ6 (l:=bl) (by rcases q5.1 with h | h;exact h;exact absurd h.1 (by decide));have hb0:=q5.2 b0 sM;have hb1:=q5.2 b1 sM;have hb2:=q5.2 b2 sM;obtain⟨k,e,hk,e1⟩:=zVj (g:=g8) (b:=b0) oM;by_cases c:e=0
  ·subst c;obtain⟨t,e,hg,e2⟩:=jBp (g:=g9) (s:=s) (h:=n0) (k:=k) (rf:=b1) (sg:=b2) ⟨hs,hk rfl,oM,oM,q4.2 n0 sM⟩;obtain⟨v,r,hv,e3⟩:=zYo (g:=g7) hs hg;simp only[stA,rsA,puA] at e1 e2 e3;simp(maxSteps:=9^9)(disch:=try exact dS)only[go_sem,zL,stA,rqA,mcn,iT,bsT,h7,h8,h9,e1,e2,e3];repeat refine aiG ?_
   exact qVb v r hv rfl rfl
  ·obtain⟨rb,eb⟩:=qA0 (g:=g2) (s:=s) (e:=e);simp only[stA,rsA,puA] at e1 eb;simp(maxSteps:=9^9)(disch:=try exact dS)only[go_sem,zL,stA,rqA,mcn,iT,bsT,h2,h8,e1,eb,c];repeat refine aiG ?_
   exact qVb s rb (St.go_rfl hs oM) rfl rfl
 ·rw[show qFh 20=(0,0,1,0) from rfl] at q2 q3 q4 q5;obtain⟨n0,rfl⟩:=qOu q4.1;obtain⟨x,e,_,e1⟩:=qOo (g:=g3) (s:=s) (h:=n0) ⟨hs,q4.2 n0 sM⟩;obtain⟨rb,eb⟩:=qA0 (g:=g2) (s:=s) (e:=8);by_cases c:e=0
  ·subst c;by_cases c2:x.kd=1
   ·simp only[stA,rsA,zZ,c2] at e1 eb;simp(maxSteps:=9^9)(disch:=try exact dS)only[go_sem,zL,stA,rqA,mcn,iT,h2,h3,e1,eb];repeat refine aiG ?_
    exact qVb s rb (St.go_rfl hs oM) rfl rfl
   ·simp only[stA,zZ] at e1;simp(maxSteps:=9^9)(disch:=try exact dS)only[go_sem,zL,stA,rqA,mcn,iT,h3,e1,c2];repeat refine aiG ?_
    exact qVb s ⟨0,[],[x.dg],[]⟩ (St.go_rfl hs oM) rfl rfl
  ·simp only[stA,rsA,zZ] at e1 eb;simp(maxSteps:=9^9)(disch:=try exact dS)only[go_sem,zL,stA,rqA,mcn,iT,h2,h3,e1,eb,c];repeat refine aiG ?_
   exact qVb s rb (St.go_rfl hs oM) rfl rfl
theorem St.iwr_go {s:St}(h:s.Ok){k:Nat}{y:Ix}{m:Int}(hy:y.Ok)(hm:tmI m):s.Go 0 { s with a := { s.a with ix:=s.a.ix.set k y,mc:=m } }:=by
 have h2 : ∀ x∈s.a.ix.set k y,x.Ok:=by
  intro x hx;rcases List.mem_or_eq_of_mem_set hx with h1 | rfl
  ·exact h.a.ix.2 x h1
  ·exact hy
 exact⟨{ h with a := { h.a with ix:=⟨by simp[h.a.ix.1],h2⟩,mc:=hm } },fun m hm=>by rw[Int.add_zero];exact hm⟩
theorem St.lks_go {s:St}(h:s.Ok){r w:List Int}(h3:r.length≤s.rl.length+1)(h4:w.length≤s.wl.length+1):s.Go 1 { s with rl:=r,wl:=w }:=
 ⟨{ h with },fun m hm=>by unfold St.cn at *;simp only;omega⟩
theorem qZi {g1}(h1:LkE tab 144 wB g1){g2}(h2:LkE tab 212 qNv g2){g3}(h3:LkE tab 213 qG9 g3){g4}(h4:LkE tab 108 wR g4){g5}(h5:LkE tab 214 qMd g5){g6}(h6:LkE tab 215 qMg g6){g7}(h7:LkE tab 216 qMa g7){g8}(h8:LkE tab 217 qMe g8){g9}(h9:LkE tab 218 qL8 g9)(s:St)(q:Rq)(hp:(s.Ok∧s.cn 1000000)∧q.Ok∧q.Al s∧23≤q.co∧q.co≤29) :
  zA.1.wp tab gl (qD 0 [.t (stA s),.t (rqA q)]) (qD 0 []) (qY [(4,(some (30,true))),(5,(some (4,true)))] 0 (qNl.K (s,q))):=by
 obtain⟨⟨hs,hc⟩,hq,al,hlo,hhi⟩:=hp;obtain⟨_,q2,q3,q4,q5⟩:=hq;obtain⟨co,hh,au,ns,bl⟩:=q;simp only at hlo hhi q2 q3 q4 q5;have l1:=hs.a.ix;have lm:=hs.a.mc;obtain⟨c1,c2,c3,c4,c5,c6,c7⟩:=hc;have hk:=al.2.2.2 ⟨hlo,hhi⟩;have hco:co=23∨co=24∨co=25∨co=26∨co=27∨co=28∨co=29:=oM;have h2':(hh.length:Int)=2:=by rcases hco with rfl | rfl | rfl | rfl | rfl | rfl | rfl<;>exact q2.1
 obtain⟨hd0,hd1,rfl⟩:=zXy h2';have hk:0≤ixP s.a.ix hd1 0:=hk;have e1:=qFr (g:=g1) (s:=s) (h:=hd1) ⟨l1.1,fun x hx=>(l1.2 x hx).1⟩;have r2 := @zA0 s.a.ix hd1 0;clear al;generalize ixP s.a.ix hd1 0=j at *;obtain⟨k,rfl⟩ : ∃ k:Nat,j=k:=⟨j.toNat,oM⟩;have hlt:k<s.a.ix.length:=oM;obtain⟨x,hg,hm,_⟩:=qQ hlt;have hx:=l1.2 x hm;obtain⟨b1,_,f1⟩:=zG0 (g:=g3) (l:=s.rl) (n:=x.n) oM;obtain⟨b2,_,f2⟩:=zG0 (g:=g3) (l:=s.wl) (n:=x.n) oM;obtain⟨rk,ek⟩:=qA0 (g:=g4) (s:=s) (e:=23);have hz:qPv 8 (List.map ixA s.a.ix)=true:=zIx;have hself:s.Go 3 s:=St.go_rfl hs oM;simp only[stA,rsA] at e1 ek;rcases hco with rfl | rfl | rfl | rfl | rfl | rfl | rfl
 ·rw[show qFh 23=(2,1,1,1) from rfl] at q2 q3 q4 q5;obtain⟨n0,rfl⟩:=qOu q4.1;obtain⟨d0,rfl⟩:=qOu (l:=bl) (by rcases q5.1 with h | h;exact h;exact absurd h.1 (by decide));have hd0:=q5.2 d0 sM;cases b2
  ·obtain⟨y,e,hy,e2⟩:=jDn (g:=g6) (x:=x) (o:=n0) (d:=d0) ⟨hx,oM⟩;by_cases c:e=0
   ·subst c;have hgo:=St.iwr_go hs (k:=k) (hy rfl).1 lm;simp only[ixA] at e2;simp(maxSteps:=9^9)(disch:=try exact dS)only[go_sem,zA,stA,rqA,mcn,iT,bsT,h1,h3,h6,e1,f2,e2,hlt,hg,oms,ixA,hz];repeat refine aiG ?_
    exact qJ7 _ ⟨0,[],[],[]⟩ (hgo.le oM) (by rw[List.take_of_length_le sM];simp only[stA,List.map_set,ixA];try rfl) rfl
   ·obtain⟨rb,eb⟩:=qA0 (g:=g4) (s:=s) (e:=e);simp only[stA,rsA,ixA] at eb e2;simp(maxSteps:=9^9)(disch:=try exact dS)only[go_sem,zA,stA,rqA,mcn,iT,bsT,h1,h3,h4,h6,e1,f2,e2,eb,c,hlt,hg,oms,ixA];repeat refine aiG ?_
    exact qJ7 s rb hself rfl rfl
  ·simp(maxSteps:=9^9)(disch:=try exact dS)only[go_sem,zA,stA,rqA,mcn,iT,bsT,h1,h3,h4,e1,f2,ek,hlt,hg,oms,ixA];repeat refine aiG ?_
   exact qJ7 s rk hself rfl rfl
 ·rw[show qFh 24=(2,1,2,0) from rfl] at q2 q3 q4 q5;obtain⟨n0,n1',rfl⟩:=zXy q4.1;have t1:tmI n1':=q4.2 n1' sM;cases b1
  ·obtain⟨y,e,hy,e2⟩:=jDk (g:=g5) (x:=x) (o:=n0) (n:=n1') ⟨hx,t1⟩;by_cases c:e=0
   ·subst c;simp only[ixA] at e2;simp(maxSteps:=9^9)(disch:=try exact dS)only[go_sem,zA,stA,rqA,mcn,iT,bsT,h1,h3,h5,e1,f1,e2,hlt,hg,oms,ixA];repeat refine aiG ?_
    exact qJ7 s ⟨0,[],[y],[]⟩ hself rfl rfl
   ·obtain⟨rb,eb⟩:=qA0 (g:=g4) (s:=s) (e:=e);simp only[stA,rsA,ixA] at eb e2;simp(maxSteps:=9^9)(disch:=try exact dS)only[go_sem,zA,stA,rqA,mcn,iT,bsT,h1,h3,h4,h5,e1,f1,e2,eb,c,hlt,hg,oms,ixA];repeat refine aiG ?_
    exact qJ7 s rb hself rfl rfl
  ·simp(maxSteps:=9^9)(disch:=try exact dS)only[go_sem,zA,stA,rqA,mcn,iT,bsT,h1,h3,h4,e1,f1,ek,hlt,hg,oms,ixA];repeat refine aiG ?_
   exact qJ7 s rk hself rfl rfl
 ·cases b2
  ·obtain⟨y,m,e,hy,e2⟩:=jDg (g:=g7) (x:=x) (m:=s.a.mc) ⟨hx,lm⟩;by_cases c:e=0
   ·subst c;have hgo:=St.iwr_go hs (k:=k) (hy rfl).1.1 (hy rfl).2;simp only[ixA] at e2;simp(maxSteps:=9^9)(disch:=try exact dS)only[go_sem,zA,stA,rqA,mcn,iT,bsT,h1,h3,h7,e1,f2,e2,hlt,hg,oms,ixA,hz];repeat refine aiG ?_
    exact qJ7 _ ⟨0,[],[],[]⟩ (hgo.le oM) (by rw[List.take_of_length_le sM];simp only[stA,List.map_set,ixA];try rfl) rfl
   ·obtain⟨rb,eb⟩:=qA0 (g:=g4) (s:=s) (e:=e);simp only[stA,rsA,ixA] at eb e2;simp(maxSteps:=9^9)(disch:=try exact dS)only[go_sem,zA,stA,rqA,mcn,iT,bsT,h1,h3,h4,h7,e1,f2,e2,eb,c,hlt,hg,oms,ixA];repeat refine aiG ?_
    exact qJ7 s rb hself rfl rfl
  ·simp(maxSteps:=9^9)(disch:=try exact dS)only[go_sem,zA,stA,rqA,mcn,iT,bsT,h1,h3,h4,e1,f2,ek,hlt,hg,oms,ixA];repeat refine aiG ?_
   exact qJ7 s rk hself rfl rfl
 ·rw[show qFh 26=(2,1,0,1) from rfl] at q2 q3 q4 q5;obtain⟨d0,rfl⟩:=qOu (l:=bl) (by rcases q5.1 with h | h;exact h;exact absurd h.1 (by decide));have hd0:=q5.2 d0 sM;cases b2
  ·obtain⟨y,e,hy,e2⟩:=jDl (g:=g8) (x:=x) (b:=d0) ⟨hx,oM⟩;by_cases c:e=0
   ·subst c;have hgo:=St.iwr_go hs (k:=k) (hy rfl).1 lm;simp only[ixA] at e2;simp(maxSteps:=9^9)(disch:=try exact dS)only[go_sem,zA,stA,rqA,mcn,iT,bsT,h1,h3,h8,e1,f2,e2,hlt,hg,oms,ixA,hz];repeat refine aiG ?_
    exact qJ7 _ ⟨0,[],[],[]⟩ (hgo.le oM) (by rw[List.take_of_length_le sM];simp only[stA,List.map_set,ixA];try rfl) rfl
   ·obtain⟨rb,eb⟩:=qA0 (g:=g4) (s:=s) (e:=e);simp only[stA,rsA,ixA] at eb e2;simp(maxSteps:=9^9)(disch:=try exact dS)only[go_sem,zA,stA,rqA,mcn,iT,bsT,h1,h3,h4,h8,e1,f2,e2,eb,c,hlt,hg,oms,ixA];repeat refine aiG ?_
    exact qJ7 s rb hself rfl rfl
  ·simp(maxSteps:=9^9)(disch:=try exact dS)only[go_sem,zA,stA,rqA,mcn,iT,bsT,h1,h3,h4,e1,f2,ek,hlt,hg,oms,ixA];repeat refine aiG ?_
   exact qJ7 s rk hself rfl rfl
 ·rw[show qFh 27=(2,1,0,1) from rfl] at q2 q3 q4 q5;obtain⟨d0,rfl⟩:=qOu (l:=bl) (by rcases q5.1 with h | h;exact h;exact absurd h.1 (by decide));have hd0:=q5.2 d0 sM;cases b2
  ·obtain⟨y,e,hy,e2⟩:=jDe (g:=g9) (x:=x) (b:=d0) ⟨hx,oM⟩;by_cases c:e=0
   ·subst c;have hgo:=St.iwr_go hs (k:=k) (hy rfl).1 lm;simp only[ixA] at e2;simp(maxSteps:=9^9)(disch:=try exact dS)only[go_sem,zA,stA,rqA,mcn,iT,bsT,h1,h3,h9,e1,f2,e2,hlt,hg,oms,ixA,hz];repeat refine aiG ?_
    exact qJ7 _ ⟨0,[],[],[]⟩ (hgo.le oM) (by rw[List.take_of_length_le sM];simp only[stA,List.map_set,ixA];try rfl) rfl
   ·obtain⟨rb,eb⟩:=qA0 (g:=g4) (s:=s) (e:=e);simp only[stA,rsA,ixA] at eb e2;simp(maxSteps:=9^9)(disch:=try exact dS)only[go_sem,zA,stA,rqA,mcn,iT,bsT,h1,h3,h4,h9,e1,f2,e2,eb,c,hlt,hg,oms,ixA];repeat refine aiG ?_
    exact qJ7 s rb hself rfl rfl
  ·simp(maxSteps:=9^9)(disch:=try exact dS)only[go_sem,zA,stA,rqA,mcn,iT,bsT,h1,h3,h4,e1,f2,ek,hlt,hg,oms,ixA];repeat refine aiG ?_
   exact qJ7 s rk hself rfl rfl
 ·obtain⟨r,hr,e2⟩:=zV9 (g:=g2) (l:=s.rl) (n:=x.n) oM;have hgo:=St.lks_go hs (r:=r) (w:=s.wl) hr oM;simp(maxSteps:=9^9)(disch:=try exact dS)only[go_sem,zA,stA,rqA,mcn,iT,bsT,h1,h2,e1,e2,hlt,hg,oms,ixA];repeat refine aiG ?_
  exact qJ7 _ ⟨0,[],[],[]⟩ (hgo.le oM) rfl rfl
 ·obtain⟨r,hr,e2⟩:=zV9 (g:=g2) (l:=s.wl) (n:=x.n) oM;have hgo:=St.lks_go hs (r:=s.rl) (w:=r) oM hr;simp(maxSteps:=9^9)(disch:=try exact dS)only[go_sem,zA,stA,rqA,mcn,iT,bsT,h1,h2,e1,e2,hlt,hg,oms,ixA];repeat refine aiG ?_
  exact qJ7 _ ⟨0,[],[],[]⟩ (hgo.le oM) rfl rfl
theorem zPs (a b:Int) : ∃ r,qCv .and (.int .i64 a) (.int .i64 b)=some (.int .i64 r):=⟨_,rfl⟩
theorem jKp {h:Int}(h0:0≤h∧h≤3) : ∃ r:Int,(1≤r∧r≤8)∧qCv .shl (.int .i64 1) (.int .u64 h)=some (.int .i64 r):=by
 have h8:h=0∨h=1∨h=2∨h=3:=oM;rcases h8 with rfl | rfl | rfl | rfl
 ·exact⟨1,oM,rfl⟩
 ·exact⟨2,oM,rfl⟩
 ·exact⟨4,oM,rfl⟩
 ·exact⟨8,oM,rfl⟩
theorem qZa {g1}(h1:LkE tab 142 kT g1){g2}(h2:LkE tab 240 qHf g2){g3}(h3:LkE tab 167 qI4 g3){g4}(h4:LkE tab 238 xR g4)(s:St)(q:Rq)(hp:(s.Ok∧s.cn 1000000)∧q.Ok∧q.co=12) :
  kZ.1.wp tab gl (qD 0 [.t (stA s),.t (rqA q)]) (qD 0 []) (qY [(4,(some (30,true))),(5,(some (4,true)))] 0 (qL1.K (s,q))):=by
 obtain⟨⟨hs,hc⟩,hq,rfl'⟩:=hp;have hq':=hq;obtain⟨_,q2,_,q4,q5⟩:=hq';obtain⟨co,hh,au,ns,bl⟩:=q;simp only at rfl' q2 q4 q5;subst rfl';rw[show qFh 12=(0,0,1,0) from rfl] at q2 q4 q5;obtain⟨n0,rfl⟩:=qOu q4.1;have hn:=q4.2 n0 sM;have l2:=hs.obs;have e1:=qK5 (g:=g1) (s:=s) (h:=n0) oM;have r2 := @zJd s.obs n0 0;have hG : ∀ {k:Int},0≤k→s.Go k s:=fun hk=>St.go_rfl hs hk
 rcases r2 with r2 | r2
 ·rw[r2] at e1;obtain⟨t,e,⟨hok,_⟩,e2⟩:=zUf (g:=g3) (s:=s) (h:=n0) ⟨hs,hn⟩;obtain⟨r0,e3⟩:=qHp (g:=g4) (s:=s) (e:=7);simp only[stA,rsA] at e1 e2 e3;by_cases c:e=0
  ·subst c;simp(maxSteps:=9^9)(disch:=try exact dS)only[go_sem,kZ,stA,rqA,mcn,iT,h1,h3,e1,e2];repeat refine aiG ?_
   exact zXb t ⟨0,[],[],[]⟩ ((hok rfl).le oM) rfl rfl
  ·simp(maxSteps:=9^9)(disch:=try exact dS)only[go_sem,kZ,stA,rqA,mcn,iT,h1,h3,h4,e1,e2,e3,c];repeat refine aiG ?_
   exact zXb s r0 (hG oM) rfl rfl
 ·have e2:=zM0 (g:=g2) (s:=s) (k:=slP s.obs n0 0) (x:=zVb) ⟨l2.1,oM,oM⟩;have hgo:=St.oput_go hs (k:=slP s.obs n0 0) zMr;generalize slP s.obs n0 0=j at *;simp only[stA,vF,zVb,List.map_nil] at e1 e2;simp(maxSteps:=9^9)(disch:=try exact dS)only[go_sem,kZ,stA,rqA,mcn,iT,h1,h2,e1,e2,r2];repeat refine aiG ?_
  exact zXb (s.oput j zVb) ⟨0,[],[],[]⟩ (hgo.le oM) rfl rfl
theorem qVy {g1}(h1:LkE tab 241 qDu g1){g2}(h2:LkE tab 238 xR g2)(h3:LkC tab 99 kR)(s:St)(q:Rq)(hp:(s.Ok∧s.cn 1000000)∧q.Ok∧q.Al s∧q.co=13) :
  qAq.1.wp tab gl (qD 0 [.t (stA s),.t (rqA q)]) (qD 0 []) (qY [(4,(some (30,true))),(5,(some (4,true)))] 0 (qNr.K (s,q))):=by
 obtain⟨⟨hs,hc⟩,hq,al,rfl'⟩:=hp;have hq':=hq;obtain⟨_,q2,_,q4,q5⟩:=hq';obtain⟨co,hh,au,ns,bl⟩:=q;simp only at rfl' q2 q4 q5;subst rfl';rw[show qFh 13=(1,1,0,0) from rfl] at q2 q4 q5;obtain⟨h0,rfl⟩:=qOu q2.1;have ha:=al.2.1 (.inr (.inr (.inl rfl)));obtain⟨x,hx,e1⟩:=zA9 (g:=g1) (s:=s) (q:=⟨13,[h0],au,ns,bl⟩) ⟨hs,sM,ha⟩;obtain⟨r0,e2⟩:=qHp (g:=g2) (s:=s) (e:=19);have e3:=zR (bs:=x.s.da) (by have:=hx.2.1.2.2;omega);have hG : ∀ {k:Int},0≤k→s.Go k s:=fun hk=>St.go_rfl hs hk
 simp only[mcn,stA,rqA,vF,iT,rsA] at e1 e2;by_cases c1:x.p.kd=3
 ·simp(maxSteps:=9^9)(disch:=try exact dS)only[go_sem,qAq,stA,rqA,vF,mcn,iT,h1,h3,e1,e3,c1,List.take_length];repeat refine aiG ?_
  exact jGn s ⟨0,[],[x.s.da],[]⟩ (hG oM) rfl rfl
 ·simp(maxSteps:=9^9)(disch:=try exact dS)only[go_sem,qAq,stA,rqA,vF,mcn,iT,h1,h2,e1,e2,c1];repeat refine aiG ?_
  exact jGn s r0 (hG oM) rfl rfl
def St.kset (s:St)(l:List Lv):St := { s with a := { s.a with ks:=l } }
theorem St.kset_go {s:St}(h:s.Ok){l:List Lv}(h1:l.length≤8)(h2 : ∀ x∈l,x.Ok):s.Go 0 (s.kset l):=⟨{ h with a := { h.a with ks:=⟨h1,h2⟩ } },fun m hm=>by rw[Int.add_zero];exact hm⟩
theorem zCm (h1:LkC tab 20 wA)(s:St)(x:Obj)(hp:s.Ok∧x.Ok) :
  qGm.1.wp tab gl (qD 0 [.t (stA s),.t (vF x)]) (qD 0 []) (qY [(4,(some (30,true))),(5,none),(6,none)] 0 (qMh.K (s,x))):=by
 obtain⟨hs,hx⟩:=hp;have hk:=hs.a.ks;obtain⟨r,hr,er⟩:=jKp (h:=x.p.ht) hx.1.2.2.1;have hu:=hx.1.2.2.2.2;have t0:0≤x.p.ht:=hx.1.2.2.1.1;have t1:x.p.ht≤3:=hx.1.2.2.1.2;simp(maxSteps:=9^9)(disch:=try exact dS)only[go_sem,qGm,stA,vF];refine qW (σ:=Nat) (fun k=>k≤s.a.ks.length) (fun k=>s.a.ks.length-k) (fun k=>[(2,.ref 4096 0 0),(3,.ref 4112 0 0),(4,.ref 4128 0 0),(7,.t (.int .i64 k))]) (fun k=>[(4128,.live 30 [.agg [.nil,.nil,.nil,.t (.int .i64 0),.t (.int .i64 0),.t (.int .i64 0),.t (.int .i64 0),.t (.bool false),.nil,.t (.int .i64 0),.t (.int .i64 0),.nil,.t (.int .i64 0),.t (.int .i64 0),.t (.int .i64 0),.t (.int .i64 0),.t (.int .i64 0),.t (.int .i64 0),.nil,.t (.bool false),.t (.bool false),.nil,.t (.int .i64 0),.t (.int .i64 0),.t (.bool false),.t (.int .i64 0),.nil,.nil,.nil,.nil]] true true),(4112,.live 9 [.t (vF x)] true true),(4096,.live 30 [.t (stA s)] true true)]) 0 oM (qI.rd id ?_ ?_ rfl) ?_
 ·simp(maxSteps:=9^9)(disch:=try exact dS)only[go_sem,id,stA,vF]
 ·simp(maxSteps:=9^9)(disch:=try exact dS)only[go_sem,id,stA,vF]
 intro k hkl;by_cases hlt:k<s.a.ks.length
 ·obtain⟨y,hg,hm,_⟩:=qQ hlt;have hy:=hk.2 y hm;have e1:=yG (a:=y.un) (b:=x.p.un) ⟨by have:=hy.1;omega,oM⟩;by_cases c1:y.un=x.p.un
  rotate_left
  ·rw[decide_eq_false c1] at e1;simp(maxSteps:=9^9)(disch:=try exact dS)only[go_sem,stA,vF,hlt,hg,oms,lvA,h1,e1];repeat refine aiG ?_
   refine qAf.of (k+1) oM oM (qI.rd id ?_ ?_ rfl);all_goals simp(maxSteps:=9^9)(disch:=try exact dS)only[go_sem,id,stA,vF]
  rw[decide_eq_true c1] at e1;by_cases c2:r≤y.us
  ·simp(maxSteps:=9^9)(disch:=try exact dS)only[go_sem,stA,vF,hlt,hg,oms,lvA,h1,e1,↓er,c2];repeat refine aiG ?_
   exact zQ5 s 0 26 oM rfl rfl
  ·have hgo:=St.kset_go hs (l:=s.a.ks.set k ⟨y.un,y.us+1⟩) (by simp;exact hk.1) (by
    intro z hz;rcases List.mem_or_eq_of_mem_set hz with h1 | rfl
    ·exact hk.2 z h1
    ·exact⟨hy.1,by have:=hy.2;simp only;omega,by have:=hy.2;simp only;omega⟩)
   have hz:qPv 2 (List.map lvA s.a.ks)=true:=zLv;have hy2:=hy.2;simp(maxSteps:=9^9)(disch:=try exact dS)only[go_sem,stA,vF,hlt,hg,oms,lvA,h1,e1,↓er,c2,hz];repeat refine aiG ?_
   exact zQ5 (s.kset (s.a.ks.set k ⟨y.un,y.us+1⟩)) y.us 0 (fun _=>hgo) (by rw[List.take_of_length_le sM];simp only[stA,St.kset,List.map_set,lvA]) rfl
 ·have hz:qPv 2 (List.map lvA s.a.ks)=true:=zLv;by_cases c1:8≤s.a.ks.length
  ·simp(maxSteps:=9^9)(disch:=try exact dS)only[go_sem,stA,vF,hlt,c1];exact zQ5 s 0 25 oM rfl rfl
  ·have hgo:=St.kset_go hs (l:=s.a.ks++[⟨x.p.un,1⟩]) soM (by
    intro z hz;simp only[List.mem_append,List.mem_cons,List.not_mem_nil,or_false] at hz;rcases hz with hz | rfl
    ·exact hk.2 z hz
    ·exact⟨hu,sM,sM⟩)
   simp(maxSteps:=9^9)(disch:=try exact dS)only[go_sem,stA,vF,hlt,c1,hz];repeat refine aiG ?_
   exact zQ5 (s.kset (s.a.ks++[⟨x.p.un,1⟩])) 0 0 (fun _=>hgo) (by rw[List.take_of_length_le sM];simp only[stA,St.kset,List.map_append,mcn,lvA]) rfl
theorem zCn {g1}(h1:LkE tab 266 qMh g1){g2}(h2:LkE tab 173 qHh g2)(s:St)(x:Obj)(b:List UInt8)(hp:s.Ok∧x.Ok∧b.length≤20000) :
  qCi.1.wp tab gl (qD 0 [.t (stA s),.t (vF x),.t (.sl (b.map qA))]) (qD 0 []) (qY [(6,(some (30,true))),(7,none),(8,none)] 0 (qJo.K (s,x,b))):=by
 obtain⟨hs,hx,hb⟩:=hp;obtain⟨t,n,e,hok,e1⟩:=jDr (g:=g1) (s:=s) (x:=x) ⟨hs,hx⟩;obtain⟨y,ly,e2⟩:=zN6 (g:=g2) (s:=x.s.sd) (h:=x.p.ht) (l:=n) (m:=b) ⟨by have:=hx.2.1.2.1;omega,oM⟩;simp only[stA,vF] at e1;by_cases c:e=0
 ·subst c;simp(maxSteps:=9^9)(disch:=try exact dS)only[go_sem,qCi,stA,vF,h1,h2,e1,e2];repeat refine aiG ?_
  exact jFt t y 0 hok rfl rfl
 ·simp(maxSteps:=9^9)(disch:=try exact dS)only[go_sem,qCi,stA,vF,h1,e1,c];repeat refine aiG ?_
  exact jFt s [] e (fun h=>absurd h c) rfl rfl
theorem zCk {g1}(h1:LkE tab 241 qDu g1){g2}(h2:LkE tab 238 xR g2){g3}(h3:LkE tab 243 qJo g3)(s:St)(q:Rq)(hp:(s.Ok∧s.cn 1000000)∧q.Ok∧q.Al s∧q.co=14) :
  vY.1.wp tab gl (qD 0 [.t (stA s),.t (rqA q)]) (qD 0 []) (qY [(4,(some (30,true))),(5,(some (4,true)))] 0 (qNf.K (s,q))):=by
 obtain⟨⟨hs,hc⟩,hq,al,rfl'⟩:=hp;have hq':=hq;obtain⟨_,q2,_,q4,q5⟩:=hq';obtain⟨co,hh,au,ns,bl⟩:=q;simp only at rfl' q2 q4 q5;subst rfl';rw[show qFh 14=(1,1,0,1) from rfl] at q2 q4 q5;obtain⟨h0,rfl⟩:=qOu q2.1;obtain⟨b0,rfl⟩:=qOu (l:=bl) (by rcases q5.1 with h | h;exact h;exact absurd h.1 (by decide));have hb0:=q5.2 b0 sM;have ha:=al.2.1 (.inr (.inr (.inr (.inl rfl))));obtain⟨x,hx,e1⟩:=zA9 (g:=g1) (s:=s) (q:=⟨14,[h0],au,ns,[b0]⟩) ⟨hs,sM,ha⟩;obtain⟨ra,ea⟩:=qHp (g:=g2) (s:=s) (e:=19);obtain⟨rb,eb⟩:=qHp (g:=g2) (s:=s) (e:=20);obtain⟨rc,ec⟩:=qHp (g:=g2) (s:=s) (e:=4);obtain⟨t,y,e,hok,e3⟩:=zVs (g:=g3) (s:=s) (x:=x) (b:=b0) ⟨hs,hx,oM⟩;obtain⟨rd,ed⟩:=qHp (g:=g2) (s:=s) (e:=e);have hG : ∀ {k:Int},0≤k→s.Go k s:=fun hk=>St.go_rfl hs hk
 obtain⟨v,ev⟩:=zPs x.p.ar 4;simp only[mcn,bsT,stA,rqA,vF,iT,rsA] at e1 ea eb ec e3 ed;by_cases c1:x.p.kd=2
 rotate_left
 ·simp(maxSteps:=9^9)(disch:=try exact dS)only[go_sem,vY,stA,rqA,vF,mcn,bsT,iT,h1,h2,e1,ea,c1];repeat refine aiG ?_
  exact zN7 s ra (hG oM) rfl rfl
 rw[c1] at e3;by_cases c2:v=0
 rotate_left
 ·simp(maxSteps:=9^9)(disch:=try exact dS)only[go_sem,vY,stA,rqA,vF,mcn,bsT,iT,h1,h2,e1,eb,c1,↓ev,c2];repeat refine aiG ?_
  exact zN7 s rb (hG oM) rfl rfl
 by_cases c3:128<b0.length
 ·simp(maxSteps:=9^9)(disch:=try exact dS)only[go_sem,vY,stA,rqA,vF,mcn,bsT,iT,h1,h2,e1,ec,c1,↓ev,c2,c3];repeat refine aiG ?_
  exact zN7 s rc (hG oM) rfl rfl
 by_cases c4:e=0
 ·subst c4;simp(maxSteps:=9^9)(disch:=try exact dS)only[go_sem,vY,stA,rqA,vF,mcn,bsT,iT,h1,h3,e1,e3,c1,↓ev,c2,c3];repeat refine aiG ?_
  exact zN7 t ⟨0,[],[y],[]⟩ ((hok rfl).le oM) rfl rfl
 ·simp(maxSteps:=9^9)(disch:=try exact dS)only[go_sem,vY,stA,rqA,vF,mcn,bsT,iT,h1,h2,h3,e1,e3,ed,c1,↓ev,c2,c3,c4];repeat refine aiG ?_
  exact zN7 s rd (hG oM) rfl rfl
theorem qZb {g1}(h1:LkE tab 241 qDu g1){g2}(h2:LkE tab 238 xR g2){g3}(h3:LkE tab 223 qBd g3)(h4:LkC tab 244 qLg){g5}(h5:LkE tab 245 qLk g5){g6}(h6:LkE tab 243 qJo g6)(s:St)(q:Rq)(hp:(s.Ok∧s.cn 1000000)∧q.Ok∧q.Al s∧q.co=15) :
  yM.1.wp tab gl (qD 0 [.t (stA s),.t (rqA q)]) (qD 0 []) (qY [(4,(some (30,true))),(5,(some (4,true)))] 0 (qM9.K (s,q))):=by
 obtain⟨⟨hs,hc⟩,hq,al,rfl'⟩:=hp;have hq':=hq;obtain⟨_,q2,_,q4,q5⟩:=hq';obtain⟨co,hh,au,ns,bl⟩:=q;simp only at rfl' q2 q4 q5;subst rfl';rw[show qFh 15=(1,1,2,1) from rfl] at q2 q4 q5;obtain⟨h0,rfl⟩:=qOu q2.1;obtain⟨n0,n1',rfl⟩:=zXy q4.1;obtain⟨b0,rfl⟩:=qOu (l:=bl) (by rcases q5.1 with h | h;exact h;exact absurd h.1 (by decide));have hb0:=q5.2 b0 sM;have ha:=al.2.1 (.inr (.inr (.inr (.inr rfl))));obtain⟨x,hx,e1⟩:=zA9 (g:=g1) (s:=s) (q:=⟨15,[h0],au,[n0,n1'],[b0]⟩) ⟨hs,sM,ha⟩;obtain⟨ra,ea⟩:=qHp (g:=g2) (s:=s) (e:=19);obtain⟨rb,eb⟩:=qHp (g:=g2) (s:=s) (e:=20);obtain⟨rc,ec⟩:=qHp (g:=g2) (s:=s) (e:=4);obtain⟨nm,lnm,e3⟩:=qTo (g:=g3) (p:=x.p) ⟨by have:=hx.1.2.2.2.1;omega,by have:=hx.1.2.2.2.2;omega⟩;have hG : ∀ {k:Int},0≤k→s.Go k s:=fun hk=>St.go_rfl hs hk
 obtain⟨v,ev⟩:=zPs x.p.ar 4;simp only[mcn,bsT,stA,rqA,vF,puA,iT,rsA] at e1 ea eb ec e3;by_cases c1:x.p.kd=2
 rotate_left
 ·simp(maxSteps:=9^9)(disch:=try exact dS)only[go_sem,yM,stA,rqA,vF,mcn,bsT,iT,h1,h2,e1,ea,c1];repeat refine aiG ?_
  exact zIs s ra (hG oM) rfl rfl
 rw[c1] at e3;by_cases c2:v=0
 ·simp(maxSteps:=9^9)(disch:=try exact dS)only[go_sem,yM,stA,rqA,vF,mcn,bsT,iT,h1,h2,e1,eb,c1,↓ev,c2];repeat refine aiG ?_
  exact zIs s rb (hG oM) rfl rfl
 by_cases c3:128<b0.length
 ·simp(maxSteps:=9^9)(disch:=try exact dS)only[go_sem,yM,stA,rqA,vF,mcn,bsT,iT,h1,h2,e1,ec,c1,↓ev,c2,c3];repeat refine aiG ?_
  exact zIs s rc (hG oM) rfl rfl
 rcases @zK3 s.bk s.u n0 n1' hs.bk.rv with⟨e,he,e4⟩ | ⟨dg,ldg,e4⟩
 ·obtain⟨rd,ed⟩:=qHp (g:=g2) (s:=s) (e:=e);simp only[stA,rsA] at ed;simp(maxSteps:=9^9)(disch:=try exact dS)only[go_sem,yM,stA,rqA,vF,puA,mcn,bsT,iT,h1,h2,h3,h4,e1,e3,e4,ed,c1,↓ev,c2,c3,he];repeat refine aiG ?_
  exact zIs s rd (hG oM) rfl rfl
 have td:List.take 32 dg=dg:=List.take_of_length_le oM;obtain⟨z,lz,e5⟩:=jBh (g:=g5) (a:=⟨nm,b0,s.a.res,s.a.rst,s.clk,s.safe,s.u,n0,n1',dg⟩) ⟨by simp only;omega,by simp only;omega,by simp only;omega⟩;obtain⟨t,y,e,hok,e6⟩:=zVs (g:=g6) (s:=s) (x:=x) (b:=z) ⟨hs,hx,lz⟩;obtain⟨re,ee⟩:=qHp (g:=g2) (s:=s) (e:=e);simp only[stA,vF,zPv,rsA] at e5 e6 ee;rw[c1] at e6;by_cases c4:e=0
 ·subst c4;simp(maxSteps:=9^9)(disch:=try exact dS)only[go_sem,yM,stA,rqA,vF,puA,mcn,bsT,iT,h1,h3,h4,h5,h6,e1,e3,e4,e5,e6,c1,↓ev,c2,c3,td,ldg];repeat refine aiG ?_
  exact zIs t ⟨0,[],[z,y],[]⟩ ((hok rfl).le oM) rfl rfl
 ·simp(maxSteps:=9^9)(disch:=try exact dS)only[go_sem,yM,stA,rqA,vF,puA,mcn,bsT,iT,h1,h2,h3,h4,h5,h6,e1,e3,e4,e5,e6,ee,c1,↓ev,c2,c3,td,ldg,c4];repeat refine aiG ?_
  exact zIs s re (hG oM) rfl rfl
theorem BkS.res {act:Int}{bk:List zE}(h:BkS act bk):BkS act (qU8 bk):=by
 rcases h with rfl | ⟨h1,b0,b1,rfl,h0,h3,z0,z1⟩
 ·exact .inl rfl
 ·exact .inr ⟨h1,_,_,rfl,wO.trans h0,wO.trans h3,zOl sM z0 4,zOl sM z1 4⟩
theorem BkS.new {act:Int}(h:0≤act∧act≤3):BkS act (qCr act):=by
 rcases (by omega:act=0∨(1≤act∧act≤3)) with rfl | h1
 ·exact .inl rfl
 ·exact .inr ⟨h1,.new h1⟩
theorem qT9 {s:St}(h:s.Ok):s.Go 1 (zDp s):=by
 have q1:=h.a.res;refine⟨{ h with a := { h.a with res:=?_,rst:=?_,bk:= .inl rfl,u:=?_ },bk:= .new h.a.act,u:=?_,clk:=h.a.clk },fun m hm=>?_⟩
 ·show 0≤s.a.res+1;omega
 ·show (0:Int)≤0;omega
 ·show (0:Int)≤0;omega
 ·show (0:Int)≤0;omega
 ·unfold St.cn at *;simp only[zDp];omega
theorem zOp {s:St}(h:s.Ok):s.Go 1 (zOo s):=by
 have q1:=h.a.rst;refine⟨{ h with a := { h.a with rst:=?_,bk:= .inl rfl,u:=?_ },bk:=h.a.bk.res,u:=h.a.u,clk:=h.a.clk },fun m hm=>?_⟩
 ·show 0≤s.a.rst+1;omega
 ·show (0:Int)≤0;omega
 ·unfold St.cn at *;simp only[zOo];omega
theorem zOq {s:St}(h:s.Ok){m:Int}(e:(qH4 s m).2=0):s.Go 1 (qH4 s m).1:=by
 unfold qH4 at *;split
 ·rw[if_pos ‹_›] at e;exact absurd e (by decide)
 rw[if_neg ‹_›] at e;split
 ·rw[if_pos ‹_›] at e;exact absurd e (by decide)
 rw[if_neg ‹_›] at e;split
 ·rw[if_pos ‹_›] at e;exact absurd e (by decide)
 split
 ·exact qT9 h
 ·exact zOp h
theorem zN9 {s:St}(h:s.Ok){k:List zE}{u:Int}(hk:BkS s.a.act k)(hu:0≤u∧u≤s.u):s.Go 0 (zN8 s k u):=by
 have hd:=h.dr;refine⟨⟨{ h.a with clk:=h.clk,bk:=hk,u:=hu.1 },.inl rfl,?_,?_,?_,⟨rfl,?_⟩,⟨rfl,?_⟩⟩,fun m hm=>?_⟩
 ·show (0:Int)≤0;omega
 ·show (0:Int)≤0∧(0:Int)≤1099511627776;omega
 ·show (0:Int)≤0;omega
 ·intro x hx;simp only[zN8,jH,List.mem_cons,List.not_mem_nil,or_false] at hx;rcases hx with rfl | rfl | rfl<;>exact Ses.ok0
 ·intro x hx;simp only[zN8,jH,List.mem_cons,List.not_mem_nil,or_false] at hx;rcases hx with rfl | rfl | rfl<;>exact Obj.ok0
 ·have hcu:=h.u;unfold St.cn at *;simp only[zN8,jH,List.length_nil];omega
theorem zEx {s:St}(h:s.Ok){m:Int}(e:(qPe s m).2=0):s.Go 0 (qPe s m).1:=by
 have hu:=h.u;unfold qPe at *;split
 ·rw[if_pos ‹_›] at e;exact absurd e (by decide)
 rw[if_neg ‹_›] at e;split
 ·exact zN9 h (.inl rfl) ⟨oM,hu⟩
 rw[if_neg ‹_›] at e;split
 ·exact zN9 h h.bk ⟨hu,oM⟩
 ·rw[if_neg ‹_›] at e;exact absurd e (by decide)
theorem St.lkd_go {s:St}(h:s.Ok){l:Lk}(hl:l.Ok):s.Go 0 (s.lkd l):=⟨{ h with a := { h.a with lk:=hl } },fun m hm=>by rw[Int.add_zero];exact hm⟩
theorem jEo {g:EF qAu}{s t:St}{e:Int}(hs:s.Ok)(h:e=0→s.Go 3 t) : ∃ (v:St) (r:Rs),s.Go 3 v∧qAu.fs g [.t (stA s),.t (stA t),.t (.int .i64 e)] []=some (.tup [.t (stA v),.t (rsA r)],[]):=by
 obtain⟨v,r,⟨h1,h2⟩,e1⟩:=zVf (g:=g) (s:=s) (t:=t) (e:=e);refine⟨v,r,?_,e1⟩;by_cases c:e=0
 ·rw[h1 c];exact h c
 ·rw[h2 c];exact St.go_rfl hs oM
theorem zCr {g1}(h1:LkE tab 16 xT g1){g2}(h2:LkE tab 154 qAu g2){g3}(h3:LkE tab 12 qBf g3){g4}(h4:LkE tab 155 qLs g4){g5}(h5:LkE tab 156 qMs g5){g6}(h6:LkE tab 157 qMw g6){g7}(h7:LkE tab 158 qNk g7){g8}(h8:LkE tab 159 qLw g8){g9}(h9:LkE tab 160 qNq g9){g10}(h10:LkE tab 161 qG7 g10){g11}(h11:LkE tab 162 qLr g11){g12}(h12:LkE tab 163 qMi g12){g13}(h13:LkE tab 164 qMm g13){g14}(h14:LkE tab 108 wR g14){g15}(h15:LkE tab 165 qNl g15)(s:St)(lo:Int)(q:Rq)(hp:(s.Ok∧s.cn 1000000)∧q.Ok∧q.Al s) :
  zP.1.wp tab gl (qD 0 [.t (stA s),.t (.int .i64 lo),.t (rqA q)]) (qD 0 []) (qY [(6,(some (30,true))),(7,(some (4,true)))] 0 (qI1.K (s,lo,q))):=by
 obtain⟨⟨hs,hc⟩,hq,al⟩:=hp;have hq':=hq;obtain⟨⟨qc,qd⟩,q2,q3,q4,q5⟩:=hq;obtain⟨co,hh,au,ns,bl⟩:=q;simp only at qc qd q2 q3 q4 q5;have hco:co=1∨co=2∨co=4∨(co=5∨co=6∨co=7∨co=8)∨(co=9∨co=10∨co=11∨co=12∨co=13∨co=14∨co=15)∨(co=16∨co=17∨co=18∨co=19∨co=20)∨co=21∨co=22∨co=30∨co=31∨co=32∨co=33∨(23≤co∧co≤29):=by
  by_cases z0:co=0
  ·subst z0;exact absurd rfl qd
  by_cases z3:co=3
  ·subst z3;exact absurd rfl qd
  omega
 rcases hco with rfl | rfl | rfl | hco | hco | hco | rfl | rfl | rfl | rfl | rfl | rfl | hco
 ·obtain⟨n0,rfl⟩:=qOu (l:=ns) q4.1;obtain⟨t,e,⟨ht,he⟩,e1⟩:=yO (g:=g1) (s:=s) (m:=n0) ⟨hs.a,hc⟩;obtain⟨v,r,hv,e2⟩:=jEo (g:=g2) (s:=s) (t:=t) (e:=e) hs (fun c=>by rw[ht];exact (zOq hs (by rw[←he];exact c)).le oM);simp only[stA,rsA] at e1 e2;simp(maxSteps:=9^9)(disch:=try exact dS)only[go_sem,zP,stA,rqA,mcn,iT,h1,h2,e1,e2];repeat refine aiG ?_
  exact qOe v r hv rfl rfl
 ·obtain⟨n0,rfl⟩:=qOu (l:=ns) q4.1;obtain⟨t,e,⟨ht,he⟩,e1⟩:=qFy (g:=g3) (s:=s) (m:=n0);obtain⟨v,r,hv,e2⟩:=jEo (g:=g2) (s:=s) (t:=t) (e:=e) hs (fun c=>by rw[ht];exact (zEx hs (by rw[←he];exact c)).le oM);simp only[stA,rsA] at e1 e2;simp(maxSteps:=9^9)(disch:=try exact dS)only[go_sem,zP,stA,rqA,mcn,iT,h2,h3,e1,e2];repeat refine aiG ?_
  exact qOe v r hv rfl rfl
 ·obtain⟨t,r,rfl,e1⟩:=jCc (g:=g4) (s:=s);simp only[stA,rsA] at e1;simp(maxSteps:=9^9)(disch:=try exact dS)only[go_sem,zP,stA,rqA,h4,e1];repeat refine aiG ?_
  exact qOe _ r (St.go_rfl hs oM) rfl rfl
 ·obtain⟨t,r,hg,e1⟩:=jD6 (g:=g5) (s:=s) (lo:=lo) (q:=⟨co,hh,au,ns,bl⟩) ⟨⟨hs,hc⟩,hq',hco⟩;simp only[stA,rqA,rsA] at e1;rcases hco with rfl | rfl | rfl | rfl;all_goals
   simp(maxSteps:=9^9)(disch:=try exact dS)only[go_sem,zP,stA,rqA,h5,e1];exact qOe t r hg rfl rfl
 ·obtain⟨t,r,hg,e1⟩:=jEb (g:=g6) (s:=s) (q:=⟨co,hh,au,ns,bl⟩) ⟨⟨hs,hc⟩,hq',al,hco⟩;simp only[stA,rqA,rsA] at e1;rcases hco with rfl | rfl | rfl | rfl | rfl | rfl | rfl;all_goals
   simp(maxSteps:=9^9)(disch:=try exact dS)only[go_sem,zP,stA,rqA,h6,e1];exact qOe t r hg rfl rfl
 ·obtain⟨t,r,hg,e1⟩:=jF7 (g:=g7) (s:=s) (q:=⟨co,hh,au,ns,bl⟩) ⟨⟨hs,hc⟩,hq',hco⟩;simp only[stA,rqA,rsA] at e1;rcases hco with rfl | rfl | rfl | rfl | rfl;all_goals
   simp(maxSteps:=9^9)(disch:=try exact dS)only[go_sem,zP,stA,rqA,h7,e1];exact qOe t r hg rfl rfl
 ·obtain⟨t,r,hg,e1⟩:=jCh (g:=g8) (s:=s) (q:=⟨21,hh,au,ns,bl⟩) ⟨⟨hs,hc⟩,hq',rfl⟩;simp only[stA,rqA,rsA] at e1;simp(maxSteps:=9^9)(disch:=try exact dS)only[go_sem,zP,stA,rqA,h8,e1];exact qOe t r hg rfl rfl
 ·obtain⟨t,r,hg,e1⟩:=jGm (g:=g9) (s:=s) (q:=⟨22,hh,au,ns,bl⟩) ⟨⟨hs,hc⟩,hq',rfl⟩;simp only[stA,rqA,rsA] at e1;simp(maxSteps:=9^9)(disch:=try exact dS)only[go_sem,zP,stA,rqA,h9,e1];exact qOe t r hg rfl rfl
 ·obtain⟨t,r,hg,e1⟩:=zWr (g:=g10) (s:=s) (q:=⟨30,hh,au,ns,bl⟩) ⟨⟨hs,hc⟩,hq',al,rfl⟩;simp only[stA,rqA,rsA] at e1;simp(maxSteps:=9^9)(disch:=try exact dS)only[go_sem,zP,stA,rqA,h10,e1];exact qOe t r hg rfl rfl
 ·obtain⟨t,r,hg,e1⟩:=jB9 (g:=g11) (s:=s) ⟨hs,hc⟩;simp only[stA,rsA] at e1;simp(maxSteps:=9^9)(disch:=try exact dS)only[go_sem,zP,stA,rqA,h11,e1];exact qOe t r hg rfl rfl
 ·have e1 := @jDs g12 s.a.lk s.clk;have hl:=hs.a.lk;have hk:=hs.clk;have hgo:=St.lkd_go hs (l := { s.a.lk with fa:=0,si:=s.clk }) (by unfold Lk.Ok at *;simp only;omega);simp only[lkA] at e1;simp(maxSteps:=9^9)(disch:=try exact dS)only[go_sem,zP,stA,rqA,h12,e1];repeat refine aiG ?_
  exact qOe _ ⟨0,[],[],[]⟩ (hgo.le oM) rfl rfl
 ·obtain⟨a,b,c,rfl⟩:=zQ6 (l:=ns) q4.1;obtain⟨l,e,hl,e1⟩:=jDy (g:=g13) (l:=s.a.lk) (a:=a) (b:=b) (c:=c) hs.a.lk;by_cases c0:e=0
  ·subst c0;have hgo:=St.lkd_go hs (hl rfl);simp only[lkA] at e1;simp(maxSteps:=9^9)(disch:=try exact dS)only[go_sem,zP,stA,rqA,mcn,iT,h13,e1];repeat refine aiG ?_
   exact qOe _ ⟨0,[],[],[]⟩ (hgo.le oM) rfl rfl
  ·obtain⟨rb,eb⟩:=qA0 (g:=g14) (s:=s) (e:=e);simp only[stA,rsA,lkA] at e1 eb;simp(maxSteps:=9^9)(disch:=try exact dS)only[go_sem,zP,stA,rqA,mcn,iT,h13,h14,e1,eb,c0];repeat refine aiG ?_
   exact qOe s rb (St.go_rfl hs oM) rfl rfl
 ·obtain⟨t,r,hg,e1⟩:=jF8 (g:=g15) (s:=s) (q:=⟨co,hh,au,ns,bl⟩) ⟨⟨hs,hc⟩,hq',al,hco⟩;simp only[stA,rqA,rsA] at e1;rcases (by omega:co=23∨co=24∨co=25∨co=26∨co=27∨co=28∨co=29) with rfl | rfl | rfl | rfl | rfl | rfl | rfl;all_goals
   simp(maxSteps:=9^9)(disch:=try exact dS)only[go_sem,zP,stA,rqA,h15,e1];exact qOe t r hg rfl rfl
end Go.Eng
end
