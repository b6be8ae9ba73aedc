/- A part of an abstract machine, its walks, their tie. -/
import Derived.Test.YtekghmfbgbhobaaGreatDoorD27
set_option linter.all false
section
set_option maxHeartbeats 64000000
set_option maxRecDepth 20000
namespace Go.Eng
variable (tab:Tab) (gl:Gl)
theorem jGr (a b:Int) : ∃ r,qGy .and (.int .i64 a) (.int .i64 b)=some (.int .i64 r):=⟨_,rfl⟩
theorem qT9 {g1}(h1:LkE tab 144 kD g1){g2}(h2:LkE tab 184 qLg g2){g3}(h3:LkE tab 183 qLb g3){g4}(h4:LkE tab 185 qOw g4)(h5:LkC tab 20 xO)(s:St)(lo:Int)(q:Rq)(x:Ses)(hp:s.Ok∧(0≤lo∧lo≤4)∧1≤q.hs.length∧x.Ok) :
  xZ.1.wp tab gl (qE 0 [.t (stA s),.t (.int .i64 lo),.t (rqA q),.t (jL x)]) (qE 0 []) (qX [(8,none),(9,none)] 0 (qNd.K (s,lo,q,x))):=by
 obtain⟨hs,hlo,hq,hx⟩:=hp;obtain⟨co,hh,au,ns,bl⟩:=q;simp only at hq;obtain⟨h0,g0,_⟩:=jCk hq;have l1:=hs.a.ix;have e1:=qHh (g:=g1) (s:=s) (h:=h0) ⟨l1.1,fun x hx=>(l1.2 x hx).1⟩;obtain⟨r,_,e2⟩ := @jAh g2 co;obtain⟨p1,_,e3⟩ := @zRh g3 r 4 8;obtain⟨pl,hpl,e4⟩:=jJ8 (g:=g4) (h:=h0) hs;have e5:=kX (a:=x.dg) (b:=pl) ⟨by have:=hx.2.2.1;omega,oM⟩;generalize decide (x.dg=pl)=d at *;simp only[stA] at e1 e4;have h5':lo=0∨lo=1∨lo=2∨lo=3∨lo=4:=oM;obtain⟨r5,o5⟩ : ∃ r,qGy .shr (.int .i64 x.lo) (.int .u64 lo)=some (.int .i64 r):=by
  rcases h5' with rfl | rfl | rfl | rfl | rfl<;>exact⟨_,rfl⟩
 obtain⟨r6,o6⟩:=jGr r5 1;rcases @zEd s.a.ix h0 0 with r2 | ⟨r2,r3⟩
 ·rw[r2] at e1;simp +contextual(maxSteps:=9^9)(disch:=try exact dS)only[go_sem,xZ,stA,rqA,jL,g0,oms,iT,h1,h4,h5,e1,e4,e5,o5,o6,↓qB,↓qC,qU]
  (repeat' (first | apply And.intro | intro _))<;>(try rfl)
  all_goals first | exact jHd _ _ trivial rfl rfl | skip
 ·obtain⟨y,hg2,_,_⟩:=qN (l:=s.a.ix) (k:=(ixP s.a.ix h0 0).toNat) oM;generalize ixP s.a.ix h0 0=j at *;obtain⟨r7,o7⟩:=jGr y.ar p1;simp +contextual(maxSteps:=9^9)(disch:=try exact dS)only[go_sem,xZ,stA,rqA,jL,g0,oms,iT,h1,h2,h3,h4,h5,e1,e2,e3,e4,e5,hg2,ixA,r2,o5,o6,o7,↓qB,↓qC,qU]
  (repeat' (first | apply And.intro | intro _))<;>(try rfl)
  all_goals first | exact jHd _ _ trivial rfl rfl | skip
end Go.Eng
end
