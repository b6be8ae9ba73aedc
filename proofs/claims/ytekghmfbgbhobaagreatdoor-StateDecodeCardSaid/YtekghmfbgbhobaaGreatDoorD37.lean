/- A part of an abstract machine, its walks, their tie. -/
import Derived.Test.YtekghmfbgbhobaaGreatDoorD27
import Derived.Test.YtekghmfbgbhobaaGreatDoorD16
import Derived.Test.YtekghmfbgbhobaaGreatDoorD26
set_option linter.all false
section
set_option maxHeartbeats 64000000
set_option maxRecDepth 20000
namespace Go.Eng
variable (tab:Tab) (gl:Gl)
variable {vv:V} {oo:List Ob}
theorem qSy {g1}(h1:LkE tab 184 qLg g1){g2}(h2:LkE tab 142 qAi g2){g3}(h3:LkE tab 144 kD g3){g4}(h4:LkE tab 183 qLb g4)(s:St)(q:Rq)(hp:s.Ok∧1≤q.hs.length) :
  jM.1.wp tab gl (qE 0 [.t (stA s),.t (rqA q)]) (qE 0 []) (qX [(4,none)] 0 (qOt.K (s,q))):=by
 obtain⟨hs,hq⟩:=hp;obtain⟨co,hh,au,ns,bl⟩:=q;simp only at hq;obtain⟨h0,g0,_⟩:=jCk hq;have l1:=hs.a.ix;have l2:=hs.obs;obtain⟨r,_,e1⟩ := @jAh g1 co;have e2:=qMt (g:=g2) (h:=h0) (s:=s) oM;have e3:=fun h=>qHh (g:=g3) (s:=s) (h:=h) ⟨l1.1,fun x hx=>(l1.2 x hx).1⟩
 obtain⟨p1,_,f1⟩ := @zRh g4 r 1 2;obtain⟨p2,_,f2⟩ := @zRh g4 r 16 32;simp only[stA] at e2 e3;rcases zDx hs h0 with⟨x,hm,c,hg⟩ | ⟨c,⟨x,hm,c2,hg⟩ | c2⟩
 ·have r2 := @zNk s.obs h0 0;have e3':=e3 h0;generalize ixP s.a.ix h0 0=i at *;rcases r2 with r2 | ⟨r2,r3⟩
  ·rw[r2] at e2;simp +contextual(maxSteps:=9^9)(disch:=try exact dS)only[go_sem,jM,stA,rqA,g0,oms,iT,h1,h2,h3,h4,e1,e2,e3',f1,f2,hg,ixA,c,↓qB,↓qC,qU]
   (repeat' (first | apply And.intro | intro _))<;>(try rfl)
   all_goals exact zMx _ trivial rfl rfl
  ·obtain⟨y,hg2,_,_⟩:=qN (l:=s.obs) (k:=(slP s.obs h0 0).toNat) oM;generalize slP s.obs h0 0=j at *;simp +contextual(maxSteps:=9^9)(disch:=try exact dS)only[go_sem,jM,stA,rqA,g0,oms,iT,h1,h2,e1,e2,hg2,wI,r2,↓qB,↓qC,qU]
   (repeat' (first | apply And.intro | intro _))<;>(try rfl)
   all_goals exact zMx _ trivial rfl rfl
 ·generalize slP s.obs h0 0=j at *;simp +contextual(maxSteps:=9^9)(disch:=try exact dS)only[go_sem,jM,stA,rqA,g0,oms,iT,h1,h2,e1,e2,hg,wI,c2,↓qB,↓qC,qU]
  (repeat' (first | apply And.intro | intro _))<;>(try rfl)
  all_goals exact zMx _ trivial rfl rfl
 ·have e3':=e3 h0;rw[c] at e3';rw[c2] at e2;by_cases d1:h0=1∧23≤co∧co≤29∧1<hh.length
  ·obtain⟨rfl,d2,d3,d4⟩:=d1;obtain⟨w,gw,_,_⟩:=qN (l:=hh) (k:=1) d4;have e4:=e3 w;rcases @zEd s.a.ix w 0 with r2 | ⟨r2,r3⟩
   ·rw[r2] at e4;simp +contextual(maxSteps:=9^9)(disch:=try exact dS)only[go_sem,jM,stA,rqA,g0,gw,oms,iT,h1,h2,h3,h4,e1,e2,e3',e4,f1,f2,d2,d3,d4,↓qB,↓qC,qU]
    (repeat' (first | apply And.intro | intro _))<;>(try rfl)
    all_goals exact zMx _ trivial rfl rfl
   ·obtain⟨y,hg2,_,_⟩:=qN (l:=s.a.ix) (k:=(ixP s.a.ix w 0).toNat) oM;generalize ixP s.a.ix w 0=j at *;simp +contextual(maxSteps:=9^9)(disch:=try exact dS)only[go_sem,jM,stA,rqA,g0,gw,oms,iT,h1,h2,h3,h4,e1,e2,e3',e4,f1,f2,d2,d3,d4,hg2,ixA,r2,↓qB,↓qC,qU]
    (repeat' (first | apply And.intro | intro _))<;>(try rfl)
    all_goals exact zMx _ trivial rfl rfl
  ·simp +contextual(maxSteps:=9^9)(disch:=try exact dS)only[go_sem,jM,stA,rqA,g0,oms,iT,h1,h2,h3,h4,e1,e2,e3',f1,f2,↓qB,↓qC,qU]
   (repeat' (first | apply And.intro | intro _))<;>(try rfl)
   all_goals exact zMx _ trivial rfl rfl
structure Sh4 where
 a:Int
 b:Int
 c:Int
 d:Int
 deriving Inhabited
inductive Unt where
 | u
 deriving Inhabited
def jNk (x:Sh4):T:= .agg [.int .i64 x.a,.int .i64 x.b,.int .i64 x.c,.int .i64 x.d]
def jQj (_:Unt):T:= .agg (jNl.flatMap fun t=>[.int .i64 t.1,.int .i64 t.2.1,.int .i64 t.2.2.1,.int .i64 t.2.2.2])
def qI3:ECt where
 α:=Unit
 β:=Unt
 aS:=fun _=>[]
 pre:=fun _=>True
 r:=fun r=> .t (jQj r)
 R:=fun _ r=>True
 inj:=fun _ _ _ _=>rfl
theorem jFd {g:EF qI3}  : ∃ (r:Unt),(True)∧qI3.fs g [] []=some (.t (jQj r),[]):=qI3.eq g () trivial
theorem jLh  (r:Unt)(hR:True)(hV:vv = .t (jQj r))(hO:oo=[]):qI3.K () vv oo:=⟨r,hR,hV,hO⟩
def qO3:ECt where
 α:=Int
 β:=Sh4×Bool
 aS:=fun k=>[.t (.int .i64 k)]
 pre:=fun k=>True
 r:=fun (t,b)=> .tup [.t (jNk t),.t (.bool b)]
 R:=fun k (t,b)=>b=true→(0≤k∧k<34)∧(qG6 k).1 ≠ -2∧(t.a,t.b,t.c,t.d)=qG6 k
theorem jLd {g:EF qO3}{k:Int} : ∃ (t:Sh4) (b:Bool),(b=true→(0≤k∧k<34)∧(qG6 k).1 ≠ -2∧(t.a,t.b,t.c,t.d)=qG6 k)∧qO3.fs g [.t (.int .i64 k)] []=some (.tup [.t (jNk t),.t (.bool b)],[]):=by
 obtain⟨y,h1,h2⟩:=qO3.eq g k trivial;exact⟨y.1,y.2,h1,h2⟩
theorem zXy {k:Int}(t:Sh4)(b:Bool)(hR:b=true→(0≤k∧k<34)∧(qG6 k).1 ≠ -2∧(t.a,t.b,t.c,t.d)=qG6 k)(hV:vv = .tup [.t (jNk t),.t (.bool b)])(hO:oo=[]):qO3.K k vv oo:=⟨(t,b),hR,hV,hO⟩
theorem zFy  (a b:Int) :
  qH8.1.wp tab gl (qE 0 [.t (.int .i64 a),.t (.int .i64 b)]) (qE 0 []) (qX [(4,none)] 0 (qNs.K (a,b))):=by
 simp +contextual(disch:=omega)only[go_sem,qH8,↓qB,↓qC,qU]
 (repeat' (first | apply And.intro | intro _))<;>(try rfl)
 all_goals (refine jOf _ ?_ rfl rfl;intro h;simp at h<;>omega)
theorem qYu  (h:Int) :
  qEs.1.wp tab gl (qE 0 [.t (.int .i64 h)]) (qE 0 []) (qX [(2,none)] 0 (qOi.K h)):=by
 simp +contextual(disch:=omega)only[go_sem,qEs,↓qB,↓qC,qU]
 (repeat' (first | apply And.intro | intro _))<;>(try rfl)
 all_goals (refine jO5 _ ?_ rfl rfl;intro h;simp at h<;>omega)
theorem zFz (h1:LkC tab 42 yT)(h2:LkC tab 44 qDj)(q:Rq)(hp:q.B) :
  qH9.1.wp tab gl (qE 0 [.t (rqA q)]) (qE 0 []) (qX [(2,none)] 0 (qNq.K q)):=by
 obtain⟨co,hh,au,ns,bl⟩:=q;obtain⟨q1,q2,q3,q4,q5,q6⟩:=hp;simp only at q1 q2 q3 q4 q5 q6;have k2:((2:Nat):Int)=2:=rfl;have k8:((8:Nat):Int)=8:=rfl;simp(disch:=omega)only[go_sem,qH9,rqA,u8w];refine zD (σ:=Nat×List UInt8×Bool) (fun t=>t.1≤hh.length∧t.2.1.length=5+2*t.1) (fun t=>hh.length-t.1) (fun t=>[(1,.ref 4096 0 0),(3,.sl 9000 0 t.2.1.length),(4,.t (.int .i64 t.1))]) (fun t=>[(9000,.live 1 ((t.2.1.map qA).map V.t) true t.2.2),(4096,.live 5 [.t (rqA ⟨co,hh,au,ns,bl⟩)] true true)]) (0,[83,87,0,0,u8I co],true) ⟨sM,sM⟩ (qI.rd (fun j=>if j=9000 then 8240 else j) ?_ ?_ rfl) ?_
 ·simp(disch:=omega)only[go_sem,id,rqA]
 ·simp(disch:=omega)only[go_sem,id,rqA];all_goals rfl
 rintro⟨k,b,f⟩ ⟨hk,hb⟩;simp only at hk hb;by_cases hlt:k<hh.length
 ·obtain⟨x,hg,hm,_⟩:=qN hlt;obtain⟨y,hy,e⟩:=qF8 (b:=b) (k:=2) (n:=x) ⟨oM,oM,oM⟩;rw[k2] at e;simp(disch:=omega)only[go_sem,rqA,hlt,hg,oms,iT,h1,e,List.take_length];repeat refine aiG ?_
  refine qDd.of (k+1,y,false) ⟨by show k+1≤_;omega,by simp only;omega⟩ (by show hh.length-(k+1)<hh.length-k;omega) (qI.rd (fun j=>if j=9000 then 24672 else j) ?_ ?_ rfl);all_goals simp(disch:=omega)only[go_sem,id,rqA]
  all_goals first | omega | rfl | simp
 simp(disch:=omega)only[go_sem,rqA,hlt];refine zD (σ:=Nat×List UInt8×Bool) (fun t=>t.1≤au.length∧5≤t.2.1.length∧t.2.1.length≤100+10000*t.1) (fun t=>au.length-t.1) (fun t=>[(1,.ref 4096 0 0),(3,.sl 9000 0 t.2.1.length),(5,.t (.int .i64 t.1))]) (fun t=>[(9000,.live 1 ((t.2.1.map qA).map V.t) true t.2.2),(4096,.live 5 [.t (rqA ⟨co,hh,au,ns,bl⟩)] true true)]) (0,b,f) ⟨sM,by simp only;omega,by simp only;omega⟩ (qI.rd id ?_ ?_ rfl) ?_
 ·simp(disch:=omega)only[go_sem,id,rqA]
 ·simp(disch:=omega)only[go_sem,id,rqA]
 clear hb hlt;rintro⟨k,b,f⟩ ⟨hk,hb5,hb⟩;simp only at hk hb5 hb;by_cases hlt:k<au.length
 ·obtain⟨x,hg,hm,_⟩:=qN hlt;have hx:=q6 x hm;obtain⟨y,hy,e⟩:=qF8 (b:=b) (k:=2) (n:=x.s) ⟨oM,oM,oM⟩;obtain⟨z,hz,e2⟩:=qJl (b:=y) (x:=x.no) ⟨oM,oM⟩;obtain⟨w,hw,e3⟩:=qJl (b:=z) (x:=x.va) ⟨oM,oM⟩;rw[k2] at e;simp(disch:=omega)only[go_sem,rqA,hlt,hg,oms,azA,h1,h2,e,e2,e3,List.take_length];repeat refine aiG ?_
  refine qDd.of (k+1,w,false) ⟨by show k+1≤_;omega,by simp only;omega,by simp only;omega⟩ (by show au.length-(k+1)<au.length-k;omega) (qI.rd (fun j=>if j=9000 then 41296 else j) ?_ ?_ rfl);all_goals simp(disch:=omega)only[go_sem,id,rqA]
  all_goals first | omega | rfl | simp
 simp(disch:=omega)only[go_sem,rqA,hlt];refine zD (σ:=Nat×List UInt8×Bool) (fun t=>t.1≤ns.length∧5≤t.2.1.length∧t.2.1.length≤80200+8*t.1) (fun t=>ns.length-t.1) (fun t=>[(1,.ref 4096 0 0),(3,.sl 9000 0 t.2.1.length),(6,.t (.int .i64 t.1))]) (fun t=>[(9000,.live 1 ((t.2.1.map qA).map V.t) true t.2.2),(4096,.live 5 [.t (rqA ⟨co,hh,au,ns,bl⟩)] true true)]) (0,b,f) ⟨sM,by simp only;omega,by simp only;omega⟩ (qI.rd id ?_ ?_ rfl) ?_
 ·simp(disch:=omega)only[go_sem,id,rqA]
 ·simp(disch:=omega)only[go_sem,id,rqA]
 clear hb hb5 hlt;rintro⟨k,b,f⟩ ⟨hk,hb5,hb⟩;simp only at hk hb5 hb;by_cases hlt:k<ns.length
 ·obtain⟨x,hg,hm,_⟩:=qN hlt;obtain⟨y,hy,e⟩:=qF8 (b:=b) (k:=8) (n:=x) ⟨oM,oM,oM⟩;rw[k8] at e;simp(disch:=omega)only[go_sem,rqA,hlt,hg,oms,iT,h1,e,List.take_length];repeat refine aiG ?_
  refine qDd.of (k+1,y,false) ⟨by show k+1≤_;omega,by simp only;omega,by simp only;omega⟩ (by show ns.length-(k+1)<ns.length-k;omega) (qI.rd (fun j=>if j=9000 then 57440 else j) ?_ ?_ rfl);all_goals simp(disch:=omega)only[go_sem,id,rqA]
  all_goals first | omega | rfl | simp
 simp(disch:=omega)only[go_sem,rqA,hlt,u8w];refine zD (σ:=Nat×List UInt8) (fun t=>t.1≤bl.length∧5≤t.2.length∧t.2.length≤81000+5000*t.1) (fun t=>bl.length-t.1) (fun t=>[(1,.ref 4096 0 0),(3,.sl 9000 0 t.2.length),(7,.t (.int .i64 t.1))]) (fun t=>[(9000,.live 1 ((t.2.map qA).map V.t) true false),(4096,.live 5 [.t (rqA ⟨co,hh,au,ns,bl⟩)] true true)]) (0,b++[u8I bl.length]) ⟨sM,soM,soM⟩ (qI.rd (fun j=>if j=9000 then 61536 else j) ?_ ?_ rfl) ?_
 ·simp(disch:=omega)only[go_sem,id,rqA];all_goals simp
 ·simp(disch:=omega)only[go_sem,id,rqA]
 clear hb hb5 hlt;rintro⟨k,b⟩ ⟨hk,hb5,hb⟩;simp only at hk hb5 hb;by_cases hlt:k<bl.length
 ·obtain⟨x,hg,hm,_⟩:=qN hlt;have hx:=q5 x hm;obtain⟨y,hy,e⟩:=qJl (b:=b) (x:=x) ⟨oM,oM⟩;simp(disch:=omega)only[go_sem,rqA,hlt,hg,h2,e,List.take_length];repeat refine aiG ?_
  refine qDd.of (k+1,y) ⟨by show k+1≤_;omega,by simp only;omega,by simp only;omega⟩ (by show bl.length-(k+1)<bl.length-k;omega) (qI.rd (fun j=>if j=9000 then 77920 else j) ?_ ?_ rfl);all_goals simp(disch:=omega)only[go_sem,id,rqA]
  all_goals first | omega | rfl | simp
 ·obtain⟨b0,b1,b2,b3,w,rfl⟩ : ∃ b0 b1 b2 b3 w,b=b0::b1::b2::b3::w:=by
   match b,hb5 with
   | a::b::c::d::e,_=>exact⟨a,b,c,d,e,rfl⟩
  simp(disch:=omega)only[go_sem,rqA,hlt,u8w];exact jOe (b0::b1::_::_::w) trivial rfl rfl
theorem qU5 {α:Type}{P:α→Prop}{l:List α}{k:Nat}{x:α}(h : ∀ y∈l.take k,P y)(hg:l[k]?=some x)(hx:P x) : ∀ y∈l.take (k+1),P y:=by
 have ht:l.take (k+1)=l.take k++[x]:=by rw[List.take_add_one,hg];rfl
 rw[ht];intro y hy;simp only[List.mem_append,List.mem_cons,List.not_mem_nil,or_false] at hy;rcases hy with hy | rfl
 ·exact h y hy
 ·exact hx
def qIu:ECt where
 α:=Rq
 β:=Bool
 aS:=fun q=>[.t (rqA q)]
 pre:=fun q=>q.B
 r:=fun r=> .t (.bool r)
 R:=fun q r=>r=false→(∀ x∈q.bl,x.length≤1024) ∧ ∀ a∈q.au,a.no.length≤128∧a.va.length≤128
theorem jC2 {g:EF qIu}{q:Rq}(hp:q.B) : ∃ (r:Bool),(r=false→(∀ x∈q.bl,x.length≤1024) ∧ ∀ a∈q.au,a.no.length≤128∧a.va.length≤128)∧qIu.fs g [.t (rqA q)] []=some (.t (.bool r),[]):=qIu.eq g q hp
theorem zKw {q:Rq}(r:Bool)(hR:r=false→(∀ x∈q.bl,x.length≤1024) ∧ ∀ a∈q.au,a.no.length≤128∧a.va.length≤128)(hV:vv = .t (.bool r))(hO:oo=[]):qIu.K q vv oo:=⟨r,hR,hV,hO⟩
theorem zF0 {g1}(h1:LkE tab 181 qNq g1)(q:Rq)(hp:q.B) :
  qIa.1.wp tab gl (qE 0 [.t (rqA q)]) (qE 0 []) (qX [(2,none)] 0 (qIu.K q)):=by
 obtain⟨co,hh,au,ns,bl⟩:=q;have hB:=hp;obtain⟨q1,q2,q3,q4,q5,q6⟩:=hp;simp only at q1 q2 q3 q4 q5 q6;obtain⟨fb,_,e1⟩:=jH2 (g:=g1) hB;simp only[rqA] at e1;simp(disch:=omega)only[go_sem,qIa,rqA];refine zD (σ:=Nat) (fun k=>k≤au.length ∧ ∀ a∈au.take k,a.no.length≤128∧a.va.length≤128) (fun k=>au.length-k) (fun k=>[(1,.ref 4096 0 0),(3,.t (.int .i64 k))]) (fun k=>[(4096,.live 5 [.t (rqA ⟨co,hh,au,ns,bl⟩)] true true)]) 0 sM (qI.rd id ?_ ?_ rfl) ?_
 ·simp(disch:=omega)only[go_sem,id,rqA]
 ·simp(disch:=omega)only[go_sem,id,rqA]
 rintro k ⟨hk,ha⟩;by_cases hlt:k<au.length
 ·obtain⟨x,hg,hm,_⟩:=qN hlt;have hx:=q6 x hm;by_cases c1:128<x.no.length
  ·simp(disch:=omega)only[go_sem,rqA,hlt,hg,oms,azA,c1];exact zKw true sM rfl rfl
  by_cases c2:128<x.va.length
  ·simp(disch:=omega)only[go_sem,rqA,hlt,hg,oms,azA,c1,c2];exact zKw true sM rfl rfl
  simp(disch:=omega)only[go_sem,rqA,hlt,hg,oms,azA,c1,c2];refine qDd.of (k+1) ⟨oM,qU5 ha hg oM⟩ oM (qI.rd id ?_ ?_ rfl);all_goals simp(disch:=omega)only[go_sem,id,rqA]
 rw[List.take_of_length_le oM] at ha;simp(disch:=omega)only[go_sem,rqA,hlt];refine zD (σ:=Nat) (fun k=>k≤bl.length ∧ ∀ x∈bl.take k,x.length≤1024) (fun k=>bl.length-k) (fun k=>[(1,.ref 4096 0 0),(4,.t (.int .i64 k))]) (fun k=>[(4096,.live 5 [.t (rqA ⟨co,hh,au,ns,bl⟩)] true true)]) 0 sM (qI.rd id ?_ ?_ rfl) ?_
 ·simp(disch:=omega)only[go_sem,id,rqA]
 ·simp(disch:=omega)only[go_sem,id,rqA]
 rintro k ⟨hk,hx⟩;by_cases hlt:k<bl.length
 ·obtain⟨x,hg,hm,_⟩:=qN hlt;by_cases c1:1024<x.length
  ·simp(disch:=omega)only[go_sem,rqA,hlt,hg,c1];exact zKw true sM rfl rfl
  ·have ht:bl.take (k+1)=bl.take k++[x]:=by rw[List.take_add_one,hg];rfl
   simp(disch:=omega)only[go_sem,rqA,hlt,hg,c1];refine qDd.of (k+1) ⟨oM,?_⟩ oM (qI.rd id ?_ ?_ rfl)
   ·rw[ht];intro y hy;simp only[List.mem_append,List.mem_cons,List.not_mem_nil,or_false] at hy;rcases hy with hy | rfl
    ·exact hx y hy
    ·omega
   all_goals simp(disch:=omega)only[go_sem,id,rqA]
 ·rw[List.take_of_length_le oM] at hx;simp(disch:=omega)only[go_sem,rqA,hlt,h1,e1];exact zKw _ (fun _=>⟨hx,ha⟩) rfl rfl
theorem zCi {g1}(h1:LkE tab 138 qO3 g1){g2}(h2:LkE tab 139 qNs g2){g3}(h3:LkE tab 140 qOi g3){g4}(h4:LkE tab 141 qIu g4)(q:Rq)(hp:q.B) :
  vD.1.wp tab gl (qE 0 [.t (rqA q)]) (qE 0 []) (qX [(2,none)] 0 (qIr.K q)):=by
 obtain⟨t,b,hb,e1⟩ := @jLd g1 q.co;obtain⟨f,hf,e2⟩ := @jH4 g2 t.d q.bl.length;obtain⟨l,hl,e4⟩:=jC2 (g:=g4) hp;have hB:=hp;obtain⟨co,hh,au,ns,bl⟩:=q;obtain⟨ta,tb,tc,td⟩:=t;simp only[jNk,rqA] at *;have t4:List.take 4 [T.int .i64 ta,T.int .i64 tb,T.int .i64 tc,T.int .i64 td]=[T.int .i64 ta,T.int .i64 tb,T.int .i64 tc,T.int .i64 td]:=rfl;have b1:hh.length≤8:=hB.1;have b2:au.length≤8:=hB.2.1;have b3:ns.length≤8:=hB.2.2.1;cases b
 ·simp(disch:=omega)only[go_sem,vD,rqA,h1,e1];exact qKm 6 oM rfl rfl
 obtain⟨s1,s2,s3⟩:=hb rfl;by_cases c1:(hh.length:Int)=ta
 rotate_left
 ·simp +contextual(disch:=omega)only[go_sem,vD,rqA,h1,e1,c1,↓qB,↓qC,qU];repeat refine aiG ?_
  exact qKm 1 oM rfl rfl
 by_cases c2:(au.length:Int)=tb
 rotate_left
 ·simp +contextual(disch:=omega)only[go_sem,vD,rqA,h1,e1,c1,c2,↓qB,↓qC,qU];repeat refine aiG ?_
  exact qKm 1 oM rfl rfl
 by_cases c3:(ns.length:Int)=tc
 rotate_left
 ·simp +contextual(disch:=omega)only[go_sem,vD,rqA,h1,e1,c1,c2,c3,↓qB,↓qC,qU];repeat refine aiG ?_
  exact qKm 1 oM rfl rfl
 subst c1 c2 c3;cases f
 ·simp +contextual(disch:=omega)only[go_sem,vD,rqA,h1,h2,e1,e2,↓qB,↓qC,qU];repeat refine aiG ?_
  exact qKm 1 oM rfl rfl
 have hf:=hf rfl;simp +contextual(disch:=omega)only[go_sem,vD,rqA,h1,h2,e1,e2,↓qB,↓qC,qU];repeat refine aiG ?_
 refine zD (σ:=Nat) (fun k=>k≤hh.length ∧ ∀ x∈hh.take k,0≤x∧x≤65535) (fun k=>hh.length-k) (fun k=>[(1,.ref 4096 0 0),(5,.t (.int .i64 k))]) (fun k=>[(4096,.live 5 [.t (rqA ⟨co,hh,au,ns,bl⟩)] true true)]) 0 sM (qI.rd id ?_ ?_ rfl) ?_
 ·simp(disch:=omega)only[go_sem,id,rqA]
 ·simp(disch:=omega)only[go_sem,id,rqA]
 rintro k ⟨hk,ha⟩;by_cases hlt:k<hh.length
 ·obtain⟨x,hg,hm,_⟩:=qN hlt;obtain⟨r,hr,e⟩ := @zZ1 g3 x;cases r
  ·simp(disch:=omega)only[go_sem,rqA,hlt,hg,oms,iT,h3,e];exact qKm 1 oM rfl rfl
  ·simp(disch:=omega)only[go_sem,rqA,hlt,hg,oms,iT,h3,e];refine qDd.of (k+1) ⟨oM,qU5 ha hg (hr rfl)⟩ oM (qI.rd id ?_ ?_ rfl);all_goals simp(disch:=omega)only[go_sem,id,rqA]
 rw[List.take_of_length_le oM] at ha;simp(disch:=omega)only[go_sem,rqA,hlt];refine zD (σ:=Nat) (fun k=>k≤au.length ∧ ∀ x∈au.take k,0≤x.s∧x.s≤65535) (fun k=>au.length-k) (fun k=>[(1,.ref 4096 0 0),(6,.t (.int .i64 k))]) (fun k=>[(4096,.live 5 [.t (rqA ⟨co,hh,au,ns,bl⟩)] true true)]) 0 sM (qI.rd id ?_ ?_ rfl) ?_
 ·simp(disch:=omega)only[go_sem,id,rqA]
 ·simp(disch:=omega)only[go_sem,id,rqA]
 clear hlt hk k;rintro k ⟨hk,hb⟩;by_cases hlt:k<au.length
 ·obtain⟨x,hg,hm,_⟩:=qN hlt;obtain⟨r,hr,e⟩ := @zZ1 g3 x.s;cases r
  ·simp(disch:=omega)only[go_sem,rqA,hlt,hg,oms,azA,h3,e];exact qKm 1 oM rfl rfl
  ·simp(disch:=omega)only[go_sem,rqA,hlt,hg,oms,azA,h3,e];refine qDd.of (k+1) ⟨oM,qU5 hb hg (hr rfl)⟩ oM (qI.rd id ?_ ?_ rfl);all_goals simp(disch:=omega)only[go_sem,id,rqA]
 rw[List.take_of_length_le oM] at hb;simp(disch:=omega)only[go_sem,rqA,hlt];refine zD (σ:=Nat) (fun k=>k≤ns.length ∧ ∀ x∈ns.take k,tmI x) (fun k=>ns.length-k) (fun k=>[(1,.ref 4096 0 0),(7,.t (.int .i64 k))]) (fun k=>[(4096,.live 5 [.t (rqA ⟨co,hh,au,ns,bl⟩)] true true)]) 0 sM (qI.rd id ?_ ?_ rfl) ?_
 ·simp(disch:=omega)only[go_sem,id,rqA]
 ·simp(disch:=omega)only[go_sem,id,rqA]
 clear hlt hk k;rintro k ⟨hk,hn⟩;by_cases hlt:k<ns.length
 ·obtain⟨x,hg,hm,_⟩:=qN hlt;by_cases d1:x<0
  ·simp(disch:=omega)only[go_sem,rqA,hlt,hg,oms,iT,d1];exact qKm 1 oM rfl rfl
  by_cases d2:1099511627776<x
  ·simp(disch:=omega)only[go_sem,rqA,hlt,hg,oms,iT,d1,d2];exact qKm 1 oM rfl rfl
  simp(disch:=omega)only[go_sem,rqA,hlt,hg,oms,iT,d1,d2];refine qDd.of (k+1) ⟨oM,qU5 hn hg ⟨oM,oM⟩⟩ oM (qI.rd id ?_ ?_ rfl);all_goals simp(disch:=omega)only[go_sem,id,rqA]
 rw[List.take_of_length_le oM] at hn;cases l
 ·have hl:=hl rfl;simp(disch:=omega)only[go_sem,rqA,hlt,h4,e4];refine qKm 0 (fun _=>⟨⟨s1,s2⟩,⟨by rw[←s3],ha⟩,⟨by rw[←s3],fun a ham=>⟨⟨(hb a ham).1,by have:=(hb a ham).2;omega⟩,hl.2 a ham⟩⟩,⟨by rw[←s3],hn⟩,?_,hl.1⟩) rfl rfl;simp only[←s3];omega
 ·simp(disch:=omega)only[go_sem,rqA,hlt,h4,e4];exact qKm 4 oM rfl rfl
end Go.Eng
end
