/- A part of an abstract machine, its walks, their tie. -/
import Derived.Test.YtekghmfbgbhobaaGreatDoorD27
import Derived.Test.YtekghmfbgbhobaaGreatDoorD16
import Derived.Test.YtekghmfbgbhobaaGreatDoorD26
set_option linter.all false
section
set_option maxHeartbeats 64000000
set_option maxRecDepth 20000
namespace Go.Eng
variable (tab:Tab) (gl:Gl)
variable {vv:V} {oo:List Ob}
theorem qSt {g1}(h1:LkE tab 184 qLb g1){g2}(h2:LkE tab 142 qAg g2){g3}(h3:LkE tab 144 kB g3){g4}(h4:LkE tab 183 qK6 g4)(s:St)(q:Rq)(hp:s.Ok∧1≤q.hs.length) :
  jM.1.wp tab gl (qE 0 [.t (stA s),.t (rqA q)]) (qE 0 []) (qX [(4,none)] 0 (qOo.K (s,q))):=by
 obtain⟨hs,hq⟩:=hp;obtain⟨co,hh,au,ns,bl⟩:=q;simp only at hq;obtain⟨h0,g0,_⟩:=jCf hq;have l1:=hs.a.ix;have l2:=hs.obs;obtain⟨r,_,e1⟩ := @jAc g1 co;have e2:=qMo (g:=g2) (h:=h0) (s:=s) oM;have e3:=fun h=>qHc (g:=g3) (s:=s) (h:=h) ⟨l1.1,fun x hx=>(l1.2 x hx).1⟩
 obtain⟨p1,_,f1⟩ := @zRc g4 r 1 2;obtain⟨p2,_,f2⟩ := @zRc g4 r 16 32;simp only[stA] at e2 e3;rcases zDs hs h0 with⟨x,hm,c,hg⟩ | ⟨c,⟨x,hm,c2,hg⟩ | c2⟩
 ·have r2 := @zNf s.obs h0 0;have e3':=e3 h0;generalize ixP s.a.ix h0 0=i at *;rcases r2 with r2 | ⟨r2,r3⟩
  ·rw[r2] at e2;simp +contextual(maxSteps:=9^9)(disch:=try exact dS)only[go_sem,jM,stA,rqA,g0,oms,iT,h1,h2,h3,h4,e1,e2,e3',f1,f2,hg,ixA,c,↓qB,↓qC,qU]
   (repeat' (first | apply And.intro | intro _))<;>(try rfl)
   all_goals exact zMs _ trivial rfl rfl
  ·obtain⟨y,hg2,_,_⟩:=qN (l:=s.obs) (k:=(slP s.obs h0 0).toNat) oM;generalize slP s.obs h0 0=j at *;simp +contextual(maxSteps:=9^9)(disch:=try exact dS)only[go_sem,jM,stA,rqA,g0,oms,iT,h1,h2,e1,e2,hg2,wI,r2,↓qB,↓qC,qU]
   (repeat' (first | apply And.intro | intro _))<;>(try rfl)
   all_goals exact zMs _ trivial rfl rfl
 ·generalize slP s.obs h0 0=j at *;simp +contextual(maxSteps:=9^9)(disch:=try exact dS)only[go_sem,jM,stA,rqA,g0,oms,iT,h1,h2,e1,e2,hg,wI,c2,↓qB,↓qC,qU]
  (repeat' (first | apply And.intro | intro _))<;>(try rfl)
  all_goals exact zMs _ trivial rfl rfl
 ·have e3':=e3 h0;rw[c] at e3';rw[c2] at e2;by_cases d1:h0=1∧23≤co∧co≤29∧1<hh.length
  ·obtain⟨rfl,d2,d3,d4⟩:=d1;obtain⟨w,gw,_,_⟩:=qN (l:=hh) (k:=1) d4;have e4:=e3 w;rcases @zD8 s.a.ix w 0 with r2 | ⟨r2,r3⟩
   ·rw[r2] at e4;simp +contextual(maxSteps:=9^9)(disch:=try exact dS)only[go_sem,jM,stA,rqA,g0,gw,oms,iT,h1,h2,h3,h4,e1,e2,e3',e4,f1,f2,d2,d3,d4,↓qB,↓qC,qU]
    (repeat' (first | apply And.intro | intro _))<;>(try rfl)
    all_goals exact zMs _ trivial rfl rfl
   ·obtain⟨y,hg2,_,_⟩:=qN (l:=s.a.ix) (k:=(ixP s.a.ix w 0).toNat) oM;generalize ixP s.a.ix w 0=j at *;simp +contextual(maxSteps:=9^9)(disch:=try exact dS)only[go_sem,jM,stA,rqA,g0,gw,oms,iT,h1,h2,h3,h4,e1,e2,e3',e4,f1,f2,d2,d3,d4,hg2,ixA,r2,↓qB,↓qC,qU]
    (repeat' (first | apply And.intro | intro _))<;>(try rfl)
    all_goals exact zMs _ trivial rfl rfl
  ·simp +contextual(maxSteps:=9^9)(disch:=try exact dS)only[go_sem,jM,stA,rqA,g0,oms,iT,h1,h2,h3,h4,e1,e2,e3',f1,f2,↓qB,↓qC,qU]
   (repeat' (first | apply And.intro | intro _))<;>(try rfl)
   all_goals exact zMs _ trivial rfl rfl
structure Sh4 where
 a:Int
 b:Int
 c:Int
 d:Int
 deriving Inhabited
inductive Unt where
 | u
 deriving Inhabited
def jNf (x:Sh4):T:= .agg [.int .i64 x.a,.int .i64 x.b,.int .i64 x.c,.int .i64 x.d]
def jQe (_:Unt):T:= .agg (jNg.flatMap fun t=>[.int .i64 t.1,.int .i64 t.2.1,.int .i64 t.2.2.1,.int .i64 t.2.2.2])
def qIy:ECt where
 α:=Unit
 β:=Unt
 aS:=fun _=>[]
 pre:=fun _=>True
 r:=fun r=> .t (jQe r)
 R:=fun _ r=>True
 inj:=fun _ _ _ _=>rfl
theorem jE8 {g:EF qIy}  : ∃ (r:Unt),(True)∧qIy.fs g [] []=some (.t (jQe r),[]):=qIy.eq g () trivial
theorem jLc  (r:Unt)(hR:True)(hV:vv = .t (jQe r))(hO:oo=[]):qIy.K () vv oo:=⟨r,hR,hV,hO⟩
def qOy:ECt where
 α:=Int
 β:=Sh4×Bool
 aS:=fun k=>[.t (.int .i64 k)]
 pre:=fun k=>True
 r:=fun (t,b)=> .tup [.t (jNf t),.t (.bool b)]
 R:=fun k (t,b)=>b=true→(0≤k∧k<34)∧(qG2 k).1 ≠ -2∧(t.a,t.b,t.c,t.d)=qG2 k
theorem jK8 {g:EF qOy}{k:Int} : ∃ (t:Sh4) (b:Bool),(b=true→(0≤k∧k<34)∧(qG2 k).1 ≠ -2∧(t.a,t.b,t.c,t.d)=qG2 k)∧qOy.fs g [.t (.int .i64 k)] []=some (.tup [.t (jNf t),.t (.bool b)],[]):=by
 obtain⟨y,h1,h2⟩:=qOy.eq g k trivial;exact⟨y.1,y.2,h1,h2⟩
theorem zXt {k:Int}(t:Sh4)(b:Bool)(hR:b=true→(0≤k∧k<34)∧(qG2 k).1 ≠ -2∧(t.a,t.b,t.c,t.d)=qG2 k)(hV:vv = .tup [.t (jNf t),.t (.bool b)])(hO:oo=[]):qOy.K k vv oo:=⟨(t,b),hR,hV,hO⟩
theorem zFt  (a b:Int) :
  qH3.1.wp tab gl (qE 0 [.t (.int .i64 a),.t (.int .i64 b)]) (qE 0 []) (qX [(4,none)] 0 (qNn.K (a,b))):=by
 simp +contextual(disch:=omega)only[go_sem,qH3,↓qB,↓qC,qU]
 (repeat' (first | apply And.intro | intro _))<;>(try rfl)
 all_goals (refine jOa _ ?_ rfl rfl;intro h;simp at h<;>omega)
theorem qYp  (h:Int) :
  qEp.1.wp tab gl (qE 0 [.t (.int .i64 h)]) (qE 0 []) (qX [(2,none)] 0 (qOd.K h)):=by
 simp +contextual(disch:=omega)only[go_sem,qEp,↓qB,↓qC,qU]
 (repeat' (first | apply And.intro | intro _))<;>(try rfl)
 all_goals (refine jO0 _ ?_ rfl rfl;intro h;simp at h<;>omega)
theorem zFu (h1:LkC tab 42 yT)(h2:LkC tab 44 qDg)(q:Rq)(hp:q.B) :
  qH4.1.wp tab gl (qE 0 [.t (rqA q)]) (qE 0 []) (qX [(2,none)] 0 (qNl.K q)):=by
 obtain⟨co,hh,au,ns,bl⟩:=q;obtain⟨q1,q2,q3,q4,q5,q6⟩:=hp;simp only at q1 q2 q3 q4 q5 q6;have k2:((2:Nat):Int)=2:=rfl;have k8:((8:Nat):Int)=8:=rfl;simp(disch:=omega)only[go_sem,qH4,rqA,u8w];refine zD (σ:=Nat×List UInt8×Bool) (fun t=>t.1≤hh.length∧t.2.1.length=5+2*t.1) (fun t=>hh.length-t.1) (fun t=>[(1,.ref 4096 0 0),(3,.sl 9000 0 t.2.1.length),(4,.t (.int .i64 t.1))]) (fun t=>[(9000,.live 1 ((t.2.1.map qA).map V.t) true t.2.2),(4096,.live 5 [.t (rqA ⟨co,hh,au,ns,bl⟩)] true true)]) (0,[83,87,0,0,u8I co],true) ⟨sM,sM⟩ (qI.rd (fun j=>if j=9000 then 8240 else j) ?_ ?_ rfl) ?_
 ·simp(disch:=omega)only[go_sem,id,rqA]
 ·simp(disch:=omega)only[go_sem,id,rqA];all_goals rfl
 rintro⟨k,b,f⟩ ⟨hk,hb⟩;simp only at hk hb;by_cases hlt:k<hh.length
 ·obtain⟨x,hg,hm,_⟩:=qN hlt;obtain⟨y,hy,e⟩:=qF4 (b:=b) (k:=2) (n:=x) ⟨oM,oM,oM⟩;rw[k2] at e;simp(disch:=omega)only[go_sem,rqA,hlt,hg,oms,iT,h1,e,List.take_length];repeat refine aiG ?_
  refine qDa.of (k+1,y,false) ⟨by show k+1≤_;omega,by simp only;omega⟩ (by show hh.length-(k+1)<hh.length-k;omega) (qI.rd (fun j=>if j=9000 then 24672 else j) ?_ ?_ rfl);all_goals simp(disch:=omega)only[go_sem,id,rqA]
  all_goals first | omega | rfl | simp
 simp(disch:=omega)only[go_sem,rqA,hlt];refine zD (σ:=Nat×List UInt8×Bool) (fun t=>t.1≤au.length∧5≤t.2.1.length∧t.2.1.length≤100+10000*t.1) (fun t=>au.length-t.1) (fun t=>[(1,.ref 4096 0 0),(3,.sl 9000 0 t.2.1.length),(5,.t (.int .i64 t.1))]) (fun t=>[(9000,.live 1 ((t.2.1.map qA).map V.t) true t.2.2),(4096,.live 5 [.t (rqA ⟨co,hh,au,ns,bl⟩)] true true)]) (0,b,f) ⟨sM,by simp only;omega,by simp only;omega⟩ (qI.rd id ?_ ?_ rfl) ?_
 ·simp(disch:=omega)only[go_sem,id,rqA]
 ·simp(disch:=omega)only[go_sem,id,rqA]
 clear hb hlt;rintro⟨k,b,f⟩ ⟨hk,hb5,hb⟩;simp only at hk hb5 hb;by_cases hlt:k<au.length
 ·obtain⟨x,hg,hm,_⟩:=qN hlt;have hx:=q6 x hm;obtain⟨y,hy,e⟩:=qF4 (b:=b) (k:=2) (n:=x.s) ⟨oM,oM,oM⟩;obtain⟨z,hz,e2⟩:=qJg (b:=y) (x:=x.no) ⟨oM,oM⟩;obtain⟨w,hw,e3⟩:=qJg (b:=z) (x:=x.va) ⟨oM,oM⟩;rw[k2] at e;simp(disch:=omega)only[go_sem,rqA,hlt,hg,oms,azA,h1,h2,e,e2,e3,List.take_length];repeat refine aiG ?_
  refine qDa.of (k+1,w,false) ⟨by show k+1≤_;omega,by simp only;omega,by simp only;omega⟩ (by show au.length-(k+1)<au.length-k;omega) (qI.rd (fun j=>if j=9000 then 41296 else j) ?_ ?_ rfl);all_goals simp(disch:=omega)only[go_sem,id,rqA]
  all_goals first | omega | rfl | simp
 simp(disch:=omega)only[go_sem,rqA,hlt];refine zD (σ:=Nat×List UInt8×Bool) (fun t=>t.1≤ns.length∧5≤t.2.1.length∧t.2.1.length≤80200+8*t.1) (fun t=>ns.length-t.1) (fun t=>[(1,.ref 4096 0 0),(3,.sl 9000 0 t.2.1.length),(6,.t (.int .i64 t.1))]) (fun t=>[(9000,.live 1 ((t.2.1.map qA).map V.t) true t.2.2),(4096,.live 5 [.t (rqA ⟨co,hh,au,ns,bl⟩)] true true)]) (0,b,f) ⟨sM,by simp only;omega,by simp only;omega⟩ (qI.rd id ?_ ?_ rfl) ?_
 ·simp(disch:=omega)only[go_sem,id,rqA]
 ·simp(disch:=omega)only[go_sem,id,rqA]
 clear hb hb5 hlt;rintro⟨k,b,f⟩ ⟨hk,hb5,hb⟩;simp only at hk hb5 hb;by_cases hlt:k<ns.length
 ·obtain⟨x,hg,hm,_⟩:=qN hlt;obtain⟨y,hy,e⟩:=qF4 (b:=b) (k:=8) (n:=x) ⟨oM,oM,oM⟩;rw[k8] at e;simp(disch:=omega)only[go_sem,rqA,hlt,hg,oms,iT,h1,e,List.take_length];repeat refine aiG ?_
  refine qDa.of (k+1,y,false) ⟨by show k+1≤_;omega,by simp only;omega,by simp only;omega⟩ (by show ns.length-(k+1)<ns.length-k;omega) (qI.rd (fun j=>if j=9000 then 57440 else j) ?_ ?_ rfl);all_goals simp(disch:=omega)only[go_sem,id,rqA]
  all_goals first | omega | rfl | simp
 simp(disch:=omega)only[go_sem,rqA,hlt,u8w];refine zD (σ:=Nat×List UInt8) (fun t=>t.1≤bl.length∧5≤t.2.length∧t.2.length≤81000+5000*t.1) (fun t=>bl.length-t.1) (fun t=>[(1,.ref 4096 0 0),(3,.sl 9000 0 t.2.length),(7,.t (.int .i64 t.1))]) (fun t=>[(9000,.live 1 ((t.2.map qA).map V.t) true false),(4096,.live 5 [.t (rqA ⟨co,hh,au,ns,bl⟩)] true true)]) (0,b++[u8I bl.length]) ⟨sM,soM,soM⟩ (qI.rd (fun j=>if j=9000 then 61536 else j) ?_ ?_ rfl) ?_
 ·simp(disch:=omega)only[go_sem,id,rqA];all_goals simp
 ·simp(disch:=omega)only[go_sem,id,rqA]
 clear hb hb5 hlt;rintro⟨k,b⟩ ⟨hk,hb5,hb⟩;simp only at hk hb5 hb;by_cases hlt:k<bl.length
 ·obtain⟨x,hg,hm,_⟩:=qN hlt;have hx:=q5 x hm;obtain⟨y,hy,e⟩:=qJg (b:=b) (x:=x) ⟨oM,oM⟩;simp(disch:=omega)only[go_sem,rqA,hlt,hg,h2,e,List.take_length];repeat refine aiG ?_
  refine qDa.of (k+1,y) ⟨by show k+1≤_;omega,by simp only;omega,by simp only;omega⟩ (by show bl.length-(k+1)<bl.length-k;omega) (qI.rd (fun j=>if j=9000 then 77920 else j) ?_ ?_ rfl);all_goals simp(disch:=omega)only[go_sem,id,rqA]
  all_goals first | omega | rfl | simp
 ·obtain⟨b0,b1,b2,b3,w,rfl⟩ : ∃ b0 b1 b2 b3 w,b=b0::b1::b2::b3::w:=by
   match b,hb5 with
   | a::b::c::d::e,_=>exact⟨a,b,c,d,e,rfl⟩
  simp(disch:=omega)only[go_sem,rqA,hlt,u8w];exact jN9 (b0::b1::_::_::w) trivial rfl rfl
theorem qU0 {α:Type}{P:α→Prop}{l:List α}{k:Nat}{x:α}(h : ∀ y∈l.take k,P y)(hg:l[k]?=some x)(hx:P x) : ∀ y∈l.take (k+1),P y:=by
 have ht:l.take (k+1)=l.take k++[x]:=by rw[List.take_add_one,hg];rfl
 rw[ht];intro y hy;simp only[List.mem_append,List.mem_cons,List.not_mem_nil,or_false] at hy;rcases hy with hy | rfl
 ·exact h y hy
 ·exact hx
def qIp:ECt where
 α:=Rq
 β:=Bool
 aS:=fun q=>[.t (rqA q)]
 pre:=fun q=>q.B
 r:=fun r=> .t (.bool r)
 R:=fun q r=>r=false→(∀ x∈q.bl,x.length≤1024) ∧ ∀ a∈q.au,a.no.length≤128∧a.va.length≤128
theorem jCx {g:EF qIp}{q:Rq}(hp:q.B) : ∃ (r:Bool),(r=false→(∀ x∈q.bl,x.length≤1024) ∧ ∀ a∈q.au,a.no.length≤128∧a.va.length≤128)∧qIp.fs g [.t (rqA q)] []=some (.t (.bool r),[]):=qIp.eq g q hp
theorem zKr {q:Rq}(r:Bool)(hR:r=false→(∀ x∈q.bl,x.length≤1024) ∧ ∀ a∈q.au,a.no.length≤128∧a.va.length≤128)(hV:vv = .t (.bool r))(hO:oo=[]):qIp.K q vv oo:=⟨r,hR,hV,hO⟩
theorem zFv {g1}(h1:LkE tab 181 qNl g1)(q:Rq)(hp:q.B) :
  qH5.1.wp tab gl (qE 0 [.t (rqA q)]) (qE 0 []) (qX [(2,none)] 0 (qIp.K q)):=by
 obtain⟨co,hh,au,ns,bl⟩:=q;have hB:=hp;obtain⟨q1,q2,q3,q4,q5,q6⟩:=hp;simp only at q1 q2 q3 q4 q5 q6;obtain⟨fb,_,e1⟩:=jHx (g:=g1) hB;simp only[rqA] at e1;simp(disch:=omega)only[go_sem,qH5,rqA];refine zD (σ:=Nat) (fun k=>k≤au.length ∧ ∀ a∈au.take k,a.no.length≤128∧a.va.length≤128) (fun k=>au.length-k) (fun k=>[(1,.ref 4096 0 0),(3,.t (.int .i64 k))]) (fun k=>[(4096,.live 5 [.t (rqA ⟨co,hh,au,ns,bl⟩)] true true)]) 0 sM (qI.rd id ?_ ?_ rfl) ?_
 ·simp(disch:=omega)only[go_sem,id,rqA]
 ·simp(disch:=omega)only[go_sem,id,rqA]
 rintro k ⟨hk,ha⟩;by_cases hlt:k<au.length
 ·obtain⟨x,hg,hm,_⟩:=qN hlt;have hx:=q6 x hm;by_cases c1:128<x.no.length
  ·simp(disch:=omega)only[go_sem,rqA,hlt,hg,oms,azA,c1];exact zKr true sM rfl rfl
  by_cases c2:128<x.va.length
  ·simp(disch:=omega)only[go_sem,rqA,hlt,hg,oms,azA,c1,c2];exact zKr true sM rfl rfl
  simp(disch:=omega)only[go_sem,rqA,hlt,hg,oms,azA,c1,c2];refine qDa.of (k+1) ⟨oM,qU0 ha hg oM⟩ oM (qI.rd id ?_ ?_ rfl);all_goals simp(disch:=omega)only[go_sem,id,rqA]
 rw[List.take_of_length_le oM] at ha;simp(disch:=omega)only[go_sem,rqA,hlt];refine zD (σ:=Nat) (fun k=>k≤bl.length ∧ ∀ x∈bl.take k,x.length≤1024) (fun k=>bl.length-k) (fun k=>[(1,.ref 4096 0 0),(4,.t (.int .i64 k))]) (fun k=>[(4096,.live 5 [.t (rqA ⟨co,hh,au,ns,bl⟩)] true true)]) 0 sM (qI.rd id ?_ ?_ rfl) ?_
 ·simp(disch:=omega)only[go_sem,id,rqA]
 ·simp(disch:=omega)only[go_sem,id,rqA]
 rintro k ⟨hk,hx⟩;by_cases hlt:k<bl.length
 ·obtain⟨x,hg,hm,_⟩:=qN hlt;by_cases c1:1024<x.length
  ·simp(disch:=omega)only[go_sem,rqA,hlt,hg,c1];exact zKr true sM rfl rfl
  ·have ht:bl.take (k+1)=bl.take k++[x]:=by rw[List.take_add_one,hg];rfl
   simp(disch:=omega)only[go_sem,rqA,hlt,hg,c1];refine qDa.of (k+1) ⟨oM,?_⟩ oM (qI.rd id ?_ ?_ rfl)
   ·rw[ht];intro y hy;simp only[List.mem_append,List.mem_cons,List.not_mem_nil,or_false] at hy;rcases hy with hy | rfl
    ·exact hx y hy
    ·omega
   all_goals simp(disch:=omega)only[go_sem,id,rqA]
 ·rw[List.take_of_length_le oM] at hx;simp(disch:=omega)only[go_sem,rqA,hlt,h1,e1];exact zKr _ (fun _=>⟨hx,ha⟩) rfl rfl
theorem zCd {g1}(h1:LkE tab 138 qOy g1){g2}(h2:LkE tab 139 qNn g2){g3}(h3:LkE tab 140 qOd g3){g4}(h4:LkE tab 141 qIp g4)(q:Rq)(hp:q.B) :
  vD.1.wp tab gl (qE 0 [.t (rqA q)]) (qE 0 []) (qX [(2,none)] 0 (qIm.K q)):=by
 obtain⟨t,b,hb,e1⟩ := @jK8 g1 q.co;obtain⟨f,hf,e2⟩ := @jHz g2 t.d q.bl.length;obtain⟨l,hl,e4⟩:=jCx (g:=g4) hp;have hB:=hp;obtain⟨co,hh,au,ns,bl⟩:=q;obtain⟨ta,tb,tc,td⟩:=t;simp only[jNf,rqA] at *;have t4:List.take 4 [T.int .i64 ta,T.int .i64 tb,T.int .i64 tc,T.int .i64 td]=[T.int .i64 ta,T.int .i64 tb,T.int .i64 tc,T.int .i64 td]:=rfl;have b1:hh.length≤8:=hB.1;have b2:au.length≤8:=hB.2.1;have b3:ns.length≤8:=hB.2.2.1;cases b
 ·simp(disch:=omega)only[go_sem,vD,rqA,h1,e1];exact qKh 6 oM rfl rfl
 obtain⟨s1,s2,s3⟩:=hb rfl;by_cases c1:(hh.length:Int)=ta
 rotate_left
 ·simp +contextual(disch:=omega)only[go_sem,vD,rqA,h1,e1,c1,↓qB,↓qC,qU];repeat refine aiG ?_
  exact qKh 1 oM rfl rfl
 by_cases c2:(au.length:Int)=tb
 rotate_left
 ·simp +contextual(disch:=omega)only[go_sem,vD,rqA,h1,e1,c1,c2,↓qB,↓qC,qU];repeat refine aiG ?_
  exact qKh 1 oM rfl rfl
 by_cases c3:(ns.length:Int)=tc
 rotate_left
 ·simp +contextual(disch:=omega)only[go_sem,vD,rqA,h1,e1,c1,c2,c3,↓qB,↓qC,qU];repeat refine aiG ?_
  exact qKh 1 oM rfl rfl
 subst c1 c2 c3;cases f
 ·simp +contextual(disch:=omega)only[go_sem,vD,rqA,h1,h2,e1,e2,↓qB,↓qC,qU];repeat refine aiG ?_
  exact qKh 1 oM rfl rfl
 have hf:=hf rfl;simp +contextual(disch:=omega)only[go_sem,vD,rqA,h1,h2,e1,e2,↓qB,↓qC,qU];repeat refine aiG ?_
 refine zD (σ:=Nat) (fun k=>k≤hh.length ∧ ∀ x∈hh.take k,0≤x∧x≤65535) (fun k=>hh.length-k) (fun k=>[(1,.ref 4096 0 0),(5,.t (.int .i64 k))]) (fun k=>[(4096,.live 5 [.t (rqA ⟨co,hh,au,ns,bl⟩)] true true)]) 0 sM (qI.rd id ?_ ?_ rfl) ?_
 ·simp(disch:=omega)only[go_sem,id,rqA]
 ·simp(disch:=omega)only[go_sem,id,rqA]
 rintro k ⟨hk,ha⟩;by_cases hlt:k<hh.length
 ·obtain⟨x,hg,hm,_⟩:=qN hlt;obtain⟨r,hr,e⟩ := @zZw g3 x;cases r
  ·simp(disch:=omega)only[go_sem,rqA,hlt,hg,oms,iT,h3,e];exact qKh 1 oM rfl rfl
  ·simp(disch:=omega)only[go_sem,rqA,hlt,hg,oms,iT,h3,e];refine qDa.of (k+1) ⟨oM,qU0 ha hg (hr rfl)⟩ oM (qI.rd id ?_ ?_ rfl);all_goals simp(disch:=omega)only[go_sem,id,rqA]
 rw[List.take_of_length_le oM] at ha;simp(disch:=omega)only[go_sem,rqA,hlt];refine zD (σ:=Nat) (fun k=>k≤au.length ∧ ∀ x∈au.take k,0≤x.s∧x.s≤65535) (fun k=>au.length-k) (fun k=>[(1,.ref 4096 0 0),(6,.t (.int .i64 k))]) (fun k=>[(4096,.live 5 [.t (rqA ⟨co,hh,au,ns,bl⟩)] true true)]) 0 sM (qI.rd id ?_ ?_ rfl) ?_
 ·simp(disch:=omega)only[go_sem,id,rqA]
 ·simp(disch:=omega)only[go_sem,id,rqA]
 clear hlt hk k;rintro k ⟨hk,hb⟩;by_cases hlt:k<au.length
 ·obtain⟨x,hg,hm,_⟩:=qN hlt;obtain⟨r,hr,e⟩ := @zZw g3 x.s;cases r
  ·simp(disch:=omega)only[go_sem,rqA,hlt,hg,oms,azA,h3,e];exact qKh 1 oM rfl rfl
  ·simp(disch:=omega)only[go_sem,rqA,hlt,hg,oms,azA,h3,e];refine qDa.of (k+1) ⟨oM,qU0 hb hg (hr rfl)⟩ oM (qI.rd id ?_ ?_ rfl);all_goals simp(disch:=omega)only[go_sem,id,rqA]
 rw[List.take_of_length_le oM] at hb;simp(disch:=omega)only[go_sem,rqA,hlt];refine zD (σ:=Nat) (fun k=>k≤ns.length ∧ ∀ x∈ns.take k,tmI x) (fun k=>ns.length-k) (fun k=>[(1,.ref 4096 0 0),(7,.t (.int .i64 k))]) (fun k=>[(4096,.live 5 [.t (rqA ⟨co,hh,au,ns,bl⟩)] true true)]) 0 sM (qI.rd id ?_ ?_ rfl) ?_
 ·simp(disch:=omega)only[go_sem,id,rqA]
 ·simp(disch:=omega)only[go_sem,id,rqA]
 clear hlt hk k;rintro k ⟨hk,hn⟩;by_cases hlt:k<ns.length
 ·obtain⟨x,hg,hm,_⟩:=qN hlt;by_cases d1:x<0
  ·simp(disch:=omega)only[go_sem,rqA,hlt,hg,oms,iT,d1];exact qKh 1 oM rfl rfl
  by_cases d2:1099511627776<x
  ·simp(disch:=omega)only[go_sem,rqA,hlt,hg,oms,iT,d1,d2];exact qKh 1 oM rfl rfl
  simp(disch:=omega)only[go_sem,rqA,hlt,hg,oms,iT,d1,d2];refine qDa.of (k+1) ⟨oM,qU0 hn hg ⟨oM,oM⟩⟩ oM (qI.rd id ?_ ?_ rfl);all_goals simp(disch:=omega)only[go_sem,id,rqA]
 rw[List.take_of_length_le oM] at hn;cases l
 ·have hl:=hl rfl;simp(disch:=omega)only[go_sem,rqA,hlt,h4,e4];refine qKh 0 (fun _=>⟨⟨s1,s2⟩,⟨by rw[←s3],ha⟩,⟨by rw[←s3],fun a ham=>⟨⟨(hb a ham).1,by have:=(hb a ham).2;omega⟩,hl.2 a ham⟩⟩,⟨by rw[←s3],hn⟩,?_,hl.1⟩) rfl rfl;simp only[←s3];omega
 ·simp(disch:=omega)only[go_sem,rqA,hlt,h4,e4];exact qKh 4 oM rfl rfl
end Go.Eng
end
