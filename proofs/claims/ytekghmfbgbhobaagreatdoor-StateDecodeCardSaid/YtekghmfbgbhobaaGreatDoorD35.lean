/- A part of an abstract machine, its walks, their tie. -/
import Derived.Test.YtekghmfbgbhobaaGreatDoorD26
set_option linter.all false
section
set_option maxHeartbeats 64000000
set_option maxRecDepth 20000
namespace Go.Eng
variable (tab:Tab) (gl:Gl)
theorem jLe : ∀ c:Fin 34,(qG6 (c.val:Int)).1 ≠ -2→((qG6 (c.val:Int)).1=0 → ¬ ((c.val:Int)=9∨(c.val:Int)=10∨(c.val:Int)=11∨(c.val:Int)=13∨(c.val:Int)=14∨(c.val:Int)=15∨18=(c.val:Int)∨20<(c.val:Int)))∧
  ((qG6 (c.val:Int)).1≠0→(c.val:Int)=9∨(c.val:Int)=10∨(c.val:Int)=11∨(c.val:Int)=13∨(c.val:Int)=14∨(c.val:Int)=15∨(c.val:Int)=18∨20<(c.val:Int))∧
  (23≤(c.val:Int)∧(c.val:Int)≤29→(qG6 (c.val:Int)).1=2)∧((qG6 (c.val:Int)).2.1=0∨(qG6 (c.val:Int)).2.1=1∧1≤(qG6 (c.val:Int)).1):=by decide
theorem jLc {c:Int}(h:0≤c∧c<34) : ∃ k:Fin 34,(k.val:Int)=c:=⟨⟨c.toNat,oM⟩,by simp only;omega⟩
theorem qXe {g1}(h1:LkE tab 142 qAi g1){g2}(h2:LkE tab 143 qNn g2){g3}(h3:LkE tab 144 kD g3)(s:St)(q:Rq)(hp:s.Ok∧q.Ok) :
  qZ.1.wp tab gl (qE 0 [.t (stA s),.t (rqA q)]) (qE 0 []) (qX [(4,none)] 0 (qM8.K (s,q))):=by
 obtain⟨hs,hq⟩:=hp;obtain⟨⟨qc,qd⟩,⟨q2,q2'⟩,_,_,_⟩:=hq;obtain⟨co,hh,au,ns,bl⟩:=q;simp only at qc qd q2 q2';obtain⟨kc,hkc⟩:=jLc qc;have T:=jLe kc;rw[hkc] at T;obtain⟨T1,T2,T3,_⟩:=T qd;have l1:=hs.a.ix;have l2:=hs.obs;rcases hh with _ | ⟨h0,hr⟩
 ·have n0:=T1 q2.symm;simp(maxSteps:=9^9)(disch:=try exact dS)only[go_sem,qZ,stA,rqA,List.map_nil];repeat refine aiG ?_
  exact qMc true (fun _=>⟨fun h=>absurd h (by simp only;omega),fun h=>absurd h (by simp only;omega),fun h=>absurd h (by simp only;omega),fun h=>absurd h (by simp only;omega)⟩) rfl rfl
 have p0:=q2' h0 sM;have hcc:=T2 (by rw[←q2];simp only[List.length_cons];omega);have e1:=qMt (g:=g1) (h:=h0) (s:=s) oM;have no : ∀ {b:Bool},(co≠9∧co≠30 ∧ ¬ (co=10∨co=11∨co=13∨co=14∨co=15) ∧ ¬ (23≤co∧co≤29))→(b=true→Rq.Al ⟨co,h0::hr,au,ns,bl⟩ s):=fun h _=>⟨fun e=>absurd e h.1,fun e=>absurd e h.2.2.1,fun e=>absurd e h.2.1,fun e=>absurd e h.2.2.2⟩
 simp only[stA] at e1;by_cases d1:co=9
 ·subst d1;by_cases d2:h0≤2
  ·simp(maxSteps:=9^9)(disch:=try exact dS)only[go_sem,qZ,stA,rqA,List.map_cons,iT,p0.1,d2];exact qMc true (fun _=>⟨fun _=>⟨p0.1,d2⟩,fun h=>absurd h (by simp only;omega),fun h=>absurd h (by simp only;omega),fun h=>absurd h (by simp only;omega)⟩) rfl rfl
  ·simp(maxSteps:=9^9)(disch:=try exact dS)only[go_sem,qZ,stA,rqA,List.map_cons,iT,p0.1,d2];exact qMc false sM rfl rfl
 by_cases d2:co=10∨co=11∨co=13∨co=14∨co=15
 ·by_cases d3:0≤slP s.obs h0 0
  ·have al:Rq.Al ⟨co,h0::hr,au,ns,bl⟩ s:=⟨fun h=>absurd h d1,fun _=>d3,fun h=>absurd h (by simp only;omega),fun h=>absurd h (by simp only;omega)⟩;generalize slP s.obs h0 0=j at *;rcases d2 with rfl | rfl | rfl | rfl | rfl;all_goals
    simp(maxSteps:=9^9)(disch:=try exact dS)only[go_sem,qZ,stA,rqA,List.map_cons,iT,h1,e1,d3];repeat refine aiG ?_
    exact qMc true (fun _=>al) rfl rfl
  ·generalize slP s.obs h0 0=j at *;rcases d2 with rfl | rfl | rfl | rfl | rfl;all_goals
    simp(maxSteps:=9^9)(disch:=try exact dS)only[go_sem,qZ,stA,rqA,List.map_cons,iT,h1,e1,d3];repeat refine aiG ?_
    exact qMc false sM rfl rfl
 by_cases d3:co=18
 ·subst d3;obtain⟨v,_,e2⟩:=jHw (g:=g2) (s:=s) (h:=h0) ⟨⟨l1.1,fun x hx=>(l1.2 x hx).1⟩,oM⟩;simp only[stA] at e2;simp(maxSteps:=9^9)(disch:=try exact dS)only[go_sem,qZ,stA,rqA,List.map_cons,iT,h2,e2];repeat refine aiG ?_
  exact qMc v (no oM) rfl rfl
 by_cases d4:23≤co∧co≤29
 ·have w:=T3 d4;rw[w] at q2;obtain⟨h1',rfl⟩:=qQp (l:=hr) (by simp only[List.length_cons] at q2;omega);have e3:=qHh (g:=g3) (s:=s) (h:=h1') ⟨l1.1,fun x hx=>(l1.2 x hx).1⟩;simp only[stA] at e3;by_cases d5:0≤ixP s.a.ix h1' 0
  ·have al:Rq.Al ⟨co,[h0,h1'],au,ns,bl⟩ s:=⟨fun h=>absurd h d1,fun h=>absurd h d2,fun h=>absurd h (by simp only;omega),fun _=>d5⟩;generalize ixP s.a.ix h1' 0=j at *;have hco:co=23∨co=24∨co=25∨co=26∨co=27∨co=28∨co=29:=oM;by_cases d6:h0=1
   ·subst d6;rcases hco with rfl | rfl | rfl | rfl | rfl | rfl | rfl;all_goals
     simp(maxSteps:=9^9)(disch:=try exact dS)only[go_sem,qZ,stA,rqA,mcn,iT,h3,e3,d5];repeat refine aiG ?_
     exact qMc true (fun _=>al) rfl rfl
   by_cases d7:h0=h1'
   ·subst d7;rcases hco with rfl | rfl | rfl | rfl | rfl | rfl | rfl;all_goals
     simp(maxSteps:=9^9)(disch:=try exact dS)only[go_sem,qZ,stA,rqA,mcn,iT,h3,e3,d5,d6];repeat refine aiG ?_
     exact qMc true (fun _=>al) rfl rfl
   ·rcases hco with rfl | rfl | rfl | rfl | rfl | rfl | rfl;all_goals
     simp(maxSteps:=9^9)(disch:=try exact dS)only[go_sem,qZ,stA,rqA,mcn,iT,h3,e3,d5,d6,d7];repeat refine aiG ?_
     exact qMc false sM rfl rfl
  ·generalize ixP s.a.ix h1' 0=j at *;have hco:co=23∨co=24∨co=25∨co=26∨co=27∨co=28∨co=29:=oM;rcases hco with rfl | rfl | rfl | rfl | rfl | rfl | rfl;all_goals
    simp(maxSteps:=9^9)(disch:=try exact dS)only[go_sem,qZ,stA,rqA,mcn,iT,h3,e3,d5];repeat refine aiG ?_
    exact qMc false sM rfl rfl
 by_cases d5:co=30
 ·subst d5;by_cases d6:h0≤3
  ·simp(maxSteps:=9^9)(disch:=try exact dS)only[go_sem,qZ,stA,rqA,List.map_cons,iT,p0.1,d6];exact qMc true (fun _=>⟨fun h=>absurd h d1,fun h=>absurd h d2,fun _=>⟨p0.1,d6⟩,fun h=>absurd h d4⟩) rfl rfl
  ·simp(maxSteps:=9^9)(disch:=try exact dS)only[go_sem,qZ,stA,rqA,List.map_cons,iT,p0.1,d6];exact qMc false sM rfl rfl
 have hco:co=21∨co=22∨co=31∨co=32∨co=33:=oM;have no' : ∀ {b:Bool},(b=true→Rq.Al ⟨co,h0::hr,au,ns,bl⟩ s):=no ⟨d1,d5,d2,d4⟩;clear no;by_cases c1:h0=1
 ·subst c1;rcases hco with rfl | rfl | rfl | rfl | rfl;all_goals
   simp(maxSteps:=9^9)(disch:=try exact dS)only[go_sem,qZ,stA,rqA,List.map_cons,iT];repeat refine aiG ?_
   exact qMc _ no' rfl rfl
 by_cases c2:h0=2
 ·subst c2;rcases hco with rfl | rfl | rfl | rfl | rfl;all_goals
   simp(maxSteps:=9^9)(disch:=try exact dS)only[go_sem,qZ,stA,rqA,List.map_cons,iT];repeat refine aiG ?_
   exact qMc _ no' rfl rfl
 by_cases c3:h0=3
 ·subst c3;rcases hco with rfl | rfl | rfl | rfl | rfl;all_goals
   simp(maxSteps:=9^9)(disch:=try exact dS)only[go_sem,qZ,stA,rqA,List.map_cons,iT];repeat refine aiG ?_
   exact qMc _ no' rfl rfl
 ·rcases hco with rfl | rfl | rfl | rfl | rfl;all_goals
   simp(maxSteps:=9^9)(disch:=try exact dS)only[go_sem,qZ,stA,rqA,List.map_cons,iT,c1,c2,c3];repeat refine aiG ?_
   exact qMc _ no' rfl rfl
end Go.Eng
end
