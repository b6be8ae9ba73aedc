/- A part of an abstract machine, its walks, their tie. -/
import Derived.Test.YtekghmfbgbhobaaGreatDoorD26
import Derived.Test.YtekghmfbgbhobaaGreatDoorD22
import Derived.Test.YtekghmfbgbhobaaGreatDoorD16
import Derived.Test.YtekghmfbgbhobaaGreatDoorD25
set_option linter.all false
section
set_option maxHeartbeats 64000000
set_option maxRecDepth 20000
namespace Go.Eng
variable (tab:Tab) (gl:Gl)
variable {vv:V} {oo:List Ob}
theorem BkS.res {act:Int}{bk:List zB}(h:BkS act bk):BkS act (qXz bk):=by
 rcases h with rfl | ⟨h1,b0,b1,rfl,h0,h3,z0,z1⟩
 ·exact .inl rfl
 ·exact .inr ⟨h1,_,_,rfl,kT.trans h0,kT.trans h3,zS8 sM z0 4,zS8 sM z1 4⟩
theorem BkS.new {act:Int}(h:0≤act∧act≤3):BkS act (kF act):=by
 rcases (by omega:act=0∨(1≤act∧act≤3)) with rfl | h1
 ·exact .inl rfl
 ·exact .inr ⟨h1,.new h1⟩
theorem zBr {s:St}(h:s.Ok):s.Go 1 (zIp s):=by
 have q1:=h.a.res;refine⟨{ h with a := { h.a with res:=?_,rst:=?_,bk:= .inl rfl,u:=?_ },bk:= .new h.a.act,u:=?_,clk:=h.a.clk },fun m hm=>?_⟩
 ·show 0≤s.a.res+1;omega
 ·show (0:Int)≤0;omega
 ·show (0:Int)≤0;omega
 ·show (0:Int)≤0;omega
 ·unfold St.cn at *;simp only[zIp];omega
theorem jFf {s:St}(h:s.Ok):s.Go 1 (zX3 s):=by
 have q1:=h.a.rst;refine⟨{ h with a := { h.a with rst:=?_,bk:= .inl rfl,u:=?_ },bk:=h.a.bk.res,u:=h.a.u,clk:=h.a.clk },fun m hm=>?_⟩
 ·show 0≤s.a.rst+1;omega
 ·show (0:Int)≤0;omega
 ·unfold St.cn at *;simp only[zX3];omega
theorem jFg {s:St}(h:s.Ok){m:Int}(e:(qRe s m).2=0):s.Go 1 (qRe s m).1:=by
 unfold qRe at *;split
 ·rw[if_pos ‹_›] at e;exact absurd e (by decide)
 rw[if_neg ‹_›] at e;split
 ·rw[if_pos ‹_›] at e;exact absurd e (by decide)
 rw[if_neg ‹_›] at e;split
 ·rw[if_pos ‹_›] at e;exact absurd e (by decide)
 split
 ·exact zBr h
 ·exact jFf h
theorem zSt {s:St}(h:s.Ok){k:List zB}{u:Int}(hk:BkS s.a.act k)(hu:0≤u∧u≤s.u):s.Go 0 (zXv s k u):=by
 have hd:=h.dr;refine⟨⟨{ h.a with clk:=h.clk,bk:=hk,u:=hu.1 },.inl rfl,?_,?_,?_,⟨rfl,?_⟩,⟨rfl,?_⟩⟩,fun m hm=>?_⟩
 ·show (0:Int)≤0;omega
 ·show (0:Int)≤0∧(0:Int)≤1099511627776;omega
 ·show (0:Int)≤0;omega
 ·intro x hx;simp only[zXv,qAf,List.mem_cons,List.not_mem_nil,or_false] at hx;rcases hx with rfl | rfl | rfl<;>exact Ses.ok0
 ·intro x hx;simp only[zXv,qAf,List.mem_cons,List.not_mem_nil,or_false] at hx;rcases hx with rfl | rfl | rfl<;>exact Obj.ok0
 ·have hcu:=h.u;unfold St.cn at *;simp only[zXv,qAf,List.length_nil];omega
theorem zSu {s:St}(h:s.Ok){m:Int}(e:(qZ2 s m).2=0):s.Go 0 (qZ2 s m).1:=by
 have hu:=h.u;unfold qZ2 at *;split
 ·rw[if_pos ‹_›] at e;exact absurd e (by decide)
 rw[if_neg ‹_›] at e;split
 ·exact zSt h (.inl rfl) ⟨oM,hu⟩
 rw[if_neg ‹_›] at e;split
 ·exact zSt h h.bk ⟨hu,oM⟩
 ·rw[if_neg ‹_›] at e;exact absurd e (by decide)
theorem St.lkd_go {s:St}(h:s.Ok){l:Lk}(hl:l.Ok):s.Go 0 (s.lkd l):=⟨{ h with a := { h.a with lk:=hl } },fun m hm=>by rw[Int.add_zero];exact hm⟩
theorem jJ2 {g:EF qB4}{s t:St}{e:Int}(hs:s.Ok)(h:e=0→s.Go 3 t) : ∃ (v:St) (r:Rs),s.Go 3 v∧qB4.fs g [.t (stA s),.t (stA t),.t (.int .i64 e)] []=some (.tup [.t (stA v),.t (rsA r)],[]):=by
 obtain⟨v,r,⟨h1,h2⟩,e1⟩:=zZ9 (g:=g) (s:=s) (t:=t) (e:=e);refine⟨v,r,?_,e1⟩;by_cases c:e=0
 ·rw[h1 c];exact h c
 ·rw[h2 c];exact St.go_rfl hs oM
theorem zF1 {g1}(h1:LkE tab 16 qDp g1){g2}(h2:LkE tab 154 qB4 g2){g3}(h3:LkE tab 12 qI2 g3){g4}(h4:LkE tab 155 qNg g4){g5}(h5:LkE tab 156 qOh g5){g6}(h6:LkE tab 157 qOl g6){g7}(h7:LkE tab 158 qO5 g7){g8}(h8:LkE tab 159 qNk g8){g9}(h9:LkE tab 160 qPb g9){g10}(h10:LkE tab 161 qIq g10){g11}(h11:LkE tab 162 qNf g11){g12}(h12:LkE tab 163 qN7 g12){g13}(h13:LkE tab 164 qOb g13){g14}(h14:LkE tab 108 kW g14){g15}(h15:LkE tab 165 qO6 g15)(s:St)(lo:Int)(q:Rq)(hp:(s.Ok∧s.cn 1000000)∧q.Ok∧q.Al s) :
  zV.1.wp tab gl (qE 0 [.t (stA s),.t (.int .i64 lo),.t (rqA q)]) (qE 0 []) (qX [(6,(some (30,true))),(7,(some (4,true)))] 0 (qKt.K (s,lo,q))):=by
 obtain⟨⟨hs,hc⟩,hq,al⟩:=hp;have hq':=hq;obtain⟨⟨qc,qd⟩,q2,q3,q4,q5⟩:=hq;obtain⟨co,hh,au,ns,bl⟩:=q;simp only at qc qd q2 q3 q4 q5;have hco:co=1∨co=2∨co=4∨(co=5∨co=6∨co=7∨co=8)∨(co=9∨co=10∨co=11∨co=12∨co=13∨co=14∨co=15)∨(co=16∨co=17∨co=18∨co=19∨co=20)∨co=21∨co=22∨co=30∨co=31∨co=32∨co=33∨(23≤co∧co≤29):=by
  by_cases z0:co=0
  ·subst z0;exact absurd rfl qd
  by_cases z3:co=3
  ·subst z3;exact absurd rfl qd
  omega
 rcases hco with rfl | rfl | rfl | hco | hco | hco | rfl | rfl | rfl | rfl | rfl | rfl | hco
 ·obtain⟨n0,rfl⟩:=qQp (l:=ns) q4.1;obtain⟨t,e,⟨ht,he⟩,e1⟩:=zLu (g:=g1) (s:=s) (m:=n0) ⟨hs.a,hc⟩;obtain⟨v,r,hv,e2⟩:=jJ2 (g:=g2) (s:=s) (t:=t) (e:=e) hs (fun c=>by rw[ht];exact (jFg hs (by rw[←he];exact c)).le oM);simp only[stA,rsA] at e1 e2;simp(maxSteps:=9^9)(disch:=try exact dS)only[go_sem,zV,stA,rqA,mcn,iT,h1,h2,e1,e2];repeat refine aiG ?_
  exact qP5 v r hv rfl rfl
 ·obtain⟨n0,rfl⟩:=qQp (l:=ns) q4.1;obtain⟨t,e,⟨ht,he⟩,e1⟩:=zSx (g:=g3) (s:=s) (m:=n0);obtain⟨v,r,hv,e2⟩:=jJ2 (g:=g2) (s:=s) (t:=t) (e:=e) hs (fun c=>by rw[ht];exact (zSu hs (by rw[←he];exact c)).le oM);simp only[stA,rsA] at e1 e2;simp(maxSteps:=9^9)(disch:=try exact dS)only[go_sem,zV,stA,rqA,mcn,iT,h2,h3,e1,e2];repeat refine aiG ?_
  exact qP5 v r hv rfl rfl
 ·obtain⟨t,r,rfl,e1⟩:=jHj (g:=g4) (s:=s);simp only[stA,rsA] at e1;simp(maxSteps:=9^9)(disch:=try exact dS)only[go_sem,zV,stA,rqA,h4,e1];repeat refine aiG ?_
  exact qP5 _ r (St.go_rfl hs oM) rfl rfl
 ·obtain⟨t,r,hg,e1⟩:=jJj (g:=g5) (s:=s) (lo:=lo) (q:=⟨co,hh,au,ns,bl⟩) ⟨⟨hs,hc⟩,hq',hco⟩;simp only[stA,rqA,rsA] at e1;rcases hco with rfl | rfl | rfl | rfl;all_goals
   simp(maxSteps:=9^9)(disch:=try exact dS)only[go_sem,zV,stA,rqA,h5,e1];exact qP5 t r hg rfl rfl
 ·obtain⟨t,r,hg,e1⟩:=jJo (g:=g6) (s:=s) (q:=⟨co,hh,au,ns,bl⟩) ⟨⟨hs,hc⟩,hq',al,hco⟩;simp only[stA,rqA,rsA] at e1;rcases hco with rfl | rfl | rfl | rfl | rfl | rfl | rfl;all_goals
   simp(maxSteps:=9^9)(disch:=try exact dS)only[go_sem,zV,stA,rqA,h6,e1];exact qP5 t r hg rfl rfl
 ·obtain⟨t,r,hg,e1⟩:=jLl (g:=g7) (s:=s) (q:=⟨co,hh,au,ns,bl⟩) ⟨⟨hs,hc⟩,hq',hco⟩;simp only[stA,rqA,rsA] at e1;rcases hco with rfl | rfl | rfl | rfl | rfl;all_goals
   simp(maxSteps:=9^9)(disch:=try exact dS)only[go_sem,zV,stA,rqA,h7,e1];exact qP5 t r hg rfl rfl
 ·obtain⟨t,r,hg,e1⟩:=jHq (g:=g8) (s:=s) (q:=⟨21,hh,au,ns,bl⟩) ⟨⟨hs,hc⟩,hq',rfl⟩;simp only[stA,rqA,rsA] at e1;simp(maxSteps:=9^9)(disch:=try exact dS)only[go_sem,zV,stA,rqA,h8,e1];exact qP5 t r hg rfl rfl
 ·obtain⟨t,r,hg,e1⟩:=jL1 (g:=g9) (s:=s) (q:=⟨22,hh,au,ns,bl⟩) ⟨⟨hs,hc⟩,hq',rfl⟩;simp only[stA,rqA,rsA] at e1;simp(maxSteps:=9^9)(disch:=try exact dS)only[go_sem,zV,stA,rqA,h9,e1];exact qP5 t r hg rfl rfl
 ·obtain⟨t,r,hg,e1⟩:=jBp (g:=g10) (s:=s) (q:=⟨30,hh,au,ns,bl⟩) ⟨⟨hs,hc⟩,hq',al,rfl⟩;simp only[stA,rqA,rsA] at e1;simp(maxSteps:=9^9)(disch:=try exact dS)only[go_sem,zV,stA,rqA,h10,e1];exact qP5 t r hg rfl rfl
 ·obtain⟨t,r,hg,e1⟩:=jHg (g:=g11) (s:=s) ⟨hs,hc⟩;simp only[stA,rsA] at e1;simp(maxSteps:=9^9)(disch:=try exact dS)only[go_sem,zV,stA,rqA,h11,e1];exact qP5 t r hg rfl rfl
 ·have e1 := @jI5 g12 s.a.lk s.clk;have hl:=hs.a.lk;have hk:=hs.clk;have hgo:=St.lkd_go hs (l := { s.a.lk with fa:=0,si:=s.clk }) (by unfold Lk.Ok at *;simp only;omega);simp only[lkA] at e1;simp(maxSteps:=9^9)(disch:=try exact dS)only[go_sem,zV,stA,rqA,h12,e1];repeat refine aiG ?_
  exact qP5 _ ⟨0,[],[],[]⟩ (hgo.le oM) rfl rfl
 ·obtain⟨a,b,c,rfl⟩:=zVr (l:=ns) q4.1;obtain⟨l,e,hl,e1⟩:=jJb (g:=g13) (l:=s.a.lk) (a:=a) (b:=b) (c:=c) hs.a.lk;by_cases c0:e=0
  ·subst c0;have hgo:=St.lkd_go hs (hl rfl);simp only[lkA] at e1;simp(maxSteps:=9^9)(disch:=try exact dS)only[go_sem,zV,stA,rqA,mcn,iT,h13,e1];repeat refine aiG ?_
   exact qP5 _ ⟨0,[],[],[]⟩ (hgo.le oM) rfl rfl
  ·obtain⟨rb,eb⟩:=qCc (g:=g14) (s:=s) (e:=e);simp only[stA,rsA,lkA] at e1 eb;simp(maxSteps:=9^9)(disch:=try exact dS)only[go_sem,zV,stA,rqA,mcn,iT,h13,h14,e1,eb,c0];repeat refine aiG ?_
   exact qP5 s rb (St.go_rfl hs oM) rfl rfl
 ·obtain⟨t,r,hg,e1⟩:=jLm (g:=g15) (s:=s) (q:=⟨co,hh,au,ns,bl⟩) ⟨⟨hs,hc⟩,hq',al,hco⟩;simp only[stA,rqA,rsA] at e1;rcases (by omega:co=23∨co=24∨co=25∨co=26∨co=27∨co=28∨co=29) with rfl | rfl | rfl | rfl | rfl | rfl | rfl;all_goals
   simp(maxSteps:=9^9)(disch:=try exact dS)only[go_sem,zV,stA,rqA,h15,e1];exact qP5 t r hg rfl rfl
def Ix.M (x:Ix):Prop:=x.po.length≤100000∧x.au.length≤100000∧x.da.length≤100000
def Obj.M (x:Obj):Prop:=(x.p.po.length≤100000∧x.p.un.length≤100000)∧x.s.au.length≤100000∧x.s.sd.length≤100000∧x.s.da.length≤100000
def Ses.M (x:Ses):Prop:=x.no.length≤100000∧x.dg.length≤100000
structure Sa.M (s:Sa):Prop where
 sd:zEk s.sd
 au:zEk s.au
 en:s.en.length<1000000000
 bk:RM s.bk
 ix:s.ix.length≤1000000 ∧ ∀ x∈s.ix,x.M
 ks:s.ks.length≤1000000 ∧ ∀ x∈s.ks,x.un.length≤100000
structure St.M (s:St):Prop where
 a:s.a.M
 bk:RM s.bk
 rl:s.rl.length≤1000000
 wl:s.wl.length≤1000000
 ses:s.ses.length≤1000000 ∧ ∀ x∈s.ses,x.M
 obs:s.obs.length≤1000000 ∧ ∀ x∈s.obs,x.M
def qN1:ECt where
 α:=Ix×Ix
 β:=Bool
 aS:=fun (a,b)=>[.t (ixA a),.t (ixA b)]
 pre:=fun (a,b)=>a=b∧a.M
 r:=fun r=> .t (.bool r)
 R:=fun (a,b) r=>r=true
theorem jIx {g:EF qN1}{a b:Ix}(hp:a=b∧a.M) : ∃ (r:Bool),(r=true)∧qN1.fs g [.t (ixA a),.t (ixA b)] []=some (.t (.bool r),[]):=qN1.eq g (a,b) hp
theorem jOn {a b:Ix}(r:Bool)(hR:r=true)(hV:vv = .t (.bool r))(hO:oo=[]):qN1.K (a,b) vv oo:=⟨r,hR,hV,hO⟩
def qFh:ECt where
 α:=Sa×Sa
 β:=Bool
 aS:=fun (a,b)=>[.t (saA a),.t (saA b)]
 pre:=fun (a,b)=>a=b∧a.M
 r:=fun r=> .t (.bool r)
 R:=fun (a,b) r=>r=true
theorem jAo {g:EF qFh}{a b:Sa}(hp:a=b∧a.M) : ∃ (r:Bool),(r=true)∧qFh.fs g [.t (saA a),.t (saA b)] []=some (.t (.bool r),[]):=qFh.eq g (a,b) hp
theorem jP3 {a b:Sa}(r:Bool)(hR:r=true)(hV:vv = .t (.bool r))(hO:oo=[]):qFh.K (a,b) vv oo:=⟨r,hR,hV,hO⟩
theorem zKh {b:Bool}:(b==b)=true:=by cases b<;>rfl
theorem zFi (h1:LkC tab 20 xO)(a b:Ix)(hp:a=b∧a.M) :
  qHx.1.wp tab gl (qE 0 [.t (ixA a),.t (ixA b)]) (qE 0 []) (qX [(4,none)] 0 (qN1.K (a,b))):=by
 obtain⟨rfl,m1,m2,m3⟩:=hp;have e1:=kX (a:=a.po) (b:=a.po) ⟨oM,oM⟩;have e2:=kX (a:=a.au) (b:=a.au) ⟨oM,oM⟩;have e3:=kX (a:=a.da) (b:=a.da) ⟨oM,oM⟩;cases a;simp only at e1 e2 e3;simp(disch:=omega)only[go_sem,qHx,ixA,h1,e1,e2,e3,zKh];exact jOn true rfl rfl rfl
theorem qRk (h1:LkC tab 63 qL4)(h2:LkC tab 20 xO)(h3:LkC tab 31 zKl){g4}(h4:LkE tab 64 qN1 g4)(a b:Sa)(hp:a=b∧a.M) :
  qA0.1.wp tab gl (qE 0 [.t (saA a),.t (saA b)]) (qE 0 []) (qX [(4,none)] 0 (qFh.K (a,b))):=by
 obtain⟨rfl,hM⟩:=hp;have e1:=qUt hM.sd;have e2:=qUt hM.au;have e3:=kX (a:=a.en) (b:=a.en) ⟨hM.en,hM.en⟩;have e4:zKl.fs [.t (.agg [.sl (a.bk.map yS),.int .i64 a.u]),.t (.agg [.sl (a.bk.map yS),.int .i64 a.u])] []=some (.t (.bool true),[]):=zKl.eq (a.bk,a.u) hM.bk;have mI:=hM.ix;have mK:=hM.ks;clear hM;obtain⟨sd,au,en,act,res,rst,clk,ord,bk,u,mc,ix,⟨l1,l2,l3,l4,l5,l6⟩,ks⟩:=a;simp only at e1 e2 e3 e4 mI mK;have eb:([l1,l2,l3,l4,l5,l6]==[l1,l2,l3,l4,l5,l6])=true:=sM;simp(maxSteps:=9^9)(disch:=try exact dS)only[go_sem,qA0,saA,lkA,h1,h2,h3,e1,e2,e3,e4,jOi,eb,zKh];refine qD ix.length (fun k=>[(2,.ref 4096 0 0),(3,.ref 4112 0 0),(5,.t (.int .i64 (k:Nat)))]) (fun k=>[(4096,.live 19 [.t (saA ⟨sd,au,en,act,res,rst,clk,ord,bk,u,mc,ix,⟨l1,l2,l3,l4,l5,l6⟩,ks⟩)] true true),(4112,.live 19 [.t (saA ⟨sd,au,en,act,res,rst,clk,ord,bk,u,mc,ix,⟨l1,l2,l3,l4,l5,l6⟩,ks⟩)] true true)]) (qI.rd id ?_ ?_ rfl) (fun k hk=>?_)
 ·simp(maxSteps:=9^9)(disch:=try exact dS)only[go_sem,id]
 ·simp(maxSteps:=9^9)(disch:=try exact dS)only[go_sem,id,saA,lkA]
 by_cases c:k<ix.length
 ·obtain⟨x,hg,hm,_⟩:=qN c;obtain⟨r,rfl,e5⟩:=jIx (g:=g4) (a:=x) (b:=x) ⟨rfl,mI.2 x hm⟩;simp only[ixA] at e5;simp(maxSteps:=9^9)(disch:=try exact dS)only[go_sem,saA,lkA,c,hg,oms,ixA,h4,e5];repeat refine aiG ?_
  refine qI.rd id ?_ ?_ rfl;all_goals simp(maxSteps:=9^9)(disch:=try exact dS)only[go_sem,id,saA,lkA]
 obtain rfl:k=ix.length:=oM;simp(maxSteps:=9^9)(disch:=try exact dS)only[go_sem,saA,lkA];refine qD ks.length (fun k=>[(2,.ref 4096 0 0),(3,.ref 4112 0 0),(6,.t (.int .i64 (k:Nat)))]) (fun k=>[(4096,.live 19 [.t (saA ⟨sd,au,en,act,res,rst,clk,ord,bk,u,mc,ix,⟨l1,l2,l3,l4,l5,l6⟩,ks⟩)] true true),(4112,.live 19 [.t (saA ⟨sd,au,en,act,res,rst,clk,ord,bk,u,mc,ix,⟨l1,l2,l3,l4,l5,l6⟩,ks⟩)] true true)]) (qI.rd id ?_ ?_ rfl) (fun k hk=>?_)
 ·simp(maxSteps:=9^9)(disch:=try exact dS)only[go_sem,id]
 ·simp(maxSteps:=9^9)(disch:=try exact dS)only[go_sem,id,saA,lkA]
 by_cases c:k<ks.length
 ·obtain⟨x,hg,hm,_⟩:=qN c;have e5:=kX (a:=x.un) (b:=x.un) ⟨by have:=mK.2 x hm;omega,by have:=mK.2 x hm;omega⟩;simp(maxSteps:=9^9)(disch:=try exact dS)only[go_sem,saA,lkA,c,hg,oms,lvA,h2,e5];repeat refine aiG ?_
  refine qI.rd id ?_ ?_ rfl;all_goals simp(maxSteps:=9^9)(disch:=try exact dS)only[go_sem,id,saA,lkA]
 obtain rfl:k=ks.length:=oM;simp(maxSteps:=9^9)(disch:=try exact dS)only[go_sem,saA,lkA];exact jP3 true rfl rfl rfl
theorem zGb  (s:Sa) :
  qIk.1.wp tab gl (qE 0 [.t (saA s)]) (qE 0 []) (qX [(2,(some (30,true)))] 0 (qDm.K s)):=by
 simp +contextual(maxSteps:=9^9)(disch:=try exact dS)only[go_sem,qIk,saA,↓qB,↓qC,qU];exact⟨rfl,jG7 rfl rfl⟩
theorem qXk (h1:LkC tab 36 wS)(h2:LkC tab 37 qBj)(s:St)(m:Int)(hp:s.a.Ok∧s.cn 1000000) :
  jU.1.wp tab gl (qE 0 [.t (stA s),.t (.int .i64 m)]) (qE 0 []) (qX [(4,(some (30,true))),(5,none)] 0 (qDp.K (s,m))):=by
 obtain⟨ok,c1,c2,c3,c4,c5⟩:=hp;have q1:=ok.res;have q2:=ok.rst;have q3:=ok.act;have e2:=jAm (u:=s.a.u) ok.bk.rv.rm;simp only[jN] at e2;by_cases d1:s.on=true
 ·simp +contextual(maxSteps:=9^9)(disch:=try exact dS)only[go_sem,jU,stA,d1,↓qB,↓qC,qU];exact qRc default 28 (by rw[qRe,if_pos (.inl d1)];exact⟨rfl,rfl⟩) rfl rfl
 by_cases d2:s.off=true
 ·simp +contextual(maxSteps:=9^9)(disch:=try exact dS)only[go_sem,jU,stA,d1,d2,↓qB,↓qC,qU];exact qRc default 28 (by rw[qRe,if_pos (.inr d2)];exact⟨rfl,rfl⟩) rfl rfl
 have d1':s.on=false:=by simpa using d1
 have d2':s.off=false:=by simpa using d2
 by_cases m0:m=0
 ·subst m0;have hS:qRe s 0=(zIp s,0):=by simp[qRe,d1',d2']
  rcases (by omega:s.a.act=0∨(1≤s.a.act∧s.a.act≤3)) with ha | ha
  ·simp +contextual(maxSteps:=9^9)(disch:=try exact dS)only[go_sem,jU,stA,d1',d2',h1,ha,zK3,↓qB,↓qC,qU]
   (repeat' (first | apply And.intro | intro _))<;>(try rfl)
   refine qRc (zIp s) 0 (by rw[hS];exact⟨rfl,rfl⟩) ?_ rfl;rw[zIp,ha];simp only[stA,ha,d2'];rfl
  ·obtain⟨b0,b1,eb,e1⟩:=zRb ha;simp +contextual(maxSteps:=9^9)(disch:=try exact dS)only[go_sem,jU,stA,d1',d2',h1,e1,List.take_length,↓qB,↓qC,qU]
   (repeat' (first | apply And.intro | intro _))<;>(try rfl)
   refine qRc (zIp s) 0 (by rw[hS];exact⟨rfl,rfl⟩) ?_ rfl;rw[zIp,eb];simp only[stA,d2'];rfl
 by_cases m1:m=1
 ·subst m1;by_cases m2:s.a.bk.length=0
  ·simp +contextual(maxSteps:=9^9)(disch:=try exact dS)only[go_sem,jU,stA,d1',d2',h2,e2,m2,↓qB,↓qC,qU];exact qRc default 16 (by simp[qRe,d1',d2',m2]) rfl rfl
  ·have hS:qRe s 1=(zX3 s,0):=by simp only[qRe,d1',d2',m2];rfl
   simp +contextual(maxSteps:=9^9)(disch:=try exact dS)only[go_sem,jU,stA,d1',d2',h2,e2,m2,↓qB,↓qC,qU]
   (repeat' (first | apply And.intro | intro _))<;>(try rfl)
   refine qRc (zX3 s) 0 (by rw[hS];exact⟨rfl,rfl⟩) ?_ rfl;rw[zX3];simp only[stA,d2',List.map_nil]
 ·simp +contextual(maxSteps:=9^9)(disch:=try exact dS)only[go_sem,jU,stA,d1',d2',m0,m1,↓qB,↓qC,qU];exact qRc default 1 (by simp[qRe,d1',d2',m0,m1]) rfl rfl
theorem zQ6 {l:List (List UInt8)}{n m:Nat}(h:l.length=n ∧ ∀ x∈l,x.length≤m)(hn:n<1000000)(hm:m<1000000):zEk l:=⟨oM,fun x hx=>by have:=h.2 x hx;omega⟩
theorem Ix.Ok.M {x:Ix}(h:x.Ok):x.M:=by
 unfold Ix.Ok at h;unfold Ix.M;omega
theorem Obj.Ok.M {x:Obj}(h:x.Ok):x.M:=by
 unfold Obj.Ok Pu.Ok Sn.Ok at h;unfold Obj.M;omega
theorem Ses.Ok.M {x:Ses}(h:x.Ok):x.M:=by
 unfold Ses.Ok at h;unfold Ses.M;omega
theorem Sa.Ok.M {s:Sa}(h:s.Ok):s.M:=by
 have h1:=h.en;have h2:=h.ix;have h3:=h.ks;refine⟨zQ6 h.sd oM oM,zQ6 h.au oM oM,oM,h.bk.rv.rm,⟨oM,fun x hx=>(h2.2 x hx).M⟩,⟨oM,fun x hx=>?_⟩⟩;have:=h3.2 x hx;unfold Lv.Ok at this;omega
theorem St.Ok.M {s:St}(h:s.Ok)(c:s.cn 1000000):s.M:=by
 have h1:=h.ses;have h2:=h.obs;have hc:=c;unfold St.cn at hc;exact⟨h.a.M,h.bk.rv.rm,oM,oM,⟨oM,fun x hx=>(h1.2 x hx).M⟩,⟨oM,fun x hx=>(h2.2 x hx).M⟩⟩
theorem St.M0:(default:St).M:=by
 refine⟨⟨⟨by decide,?_⟩,⟨by decide,?_⟩,by decide,?_,⟨by decide,?_⟩,⟨by decide,?_⟩⟩,?_,by decide,by decide,⟨by decide,?_⟩,⟨by decide,?_⟩⟩;all_goals first | exact⟨.nil,sM⟩ | exact (BkS.rv (act:=0) (.inl rfl)).rm | (intro x hx;exact absurd hx (by simp[default,instInhabitedSt.default,instInhabitedSa.default]))
theorem qRh  (s:St)(n:Int)(hp:s.Ok∧nnI n) :
  vH.1.wp tab gl (qE 0 [.t (stA s),.t (.int .i64 n)]) (qE 0 []) (qX [(4,none)] 0 (qB3.K (s,n))):=by
 obtain⟨hs,hn⟩:=hp;have l1:=hs.a.ix;have m9:n.tmod 9=n%9:=Int.tmod_eq_emod_of_nonneg hn.1;have m5:n.tmod 5=n%5:=Int.tmod_eq_emod_of_nonneg hn.1;by_cases c0:0<s.a.ix.length
 ·have ml:n.tmod (s.a.ix.length:Int)=n%(s.a.ix.length:Int):=Int.tmod_eq_emod_of_nonneg hn.1;have hm:0≤n%(s.a.ix.length:Int)∧n%(s.a.ix.length:Int)<s.a.ix.length:=⟨Int.emod_nonneg _ oM,Int.emod_lt_of_pos _ oM⟩;by_cases c1:n%9<8
  ·obtain⟨j,hj⟩ : ∃ j:Nat,n%(s.a.ix.length:Int)=j:=⟨(n%(s.a.ix.length:Int)).toNat,oM⟩;rw[hj] at ml hm;obtain⟨x,hg,hm',_⟩:=qN (l:=s.a.ix) (k:=j) oM;have hx:=(l1.2 x hm').1;simp(maxSteps:=9^9)(disch:=try exact dS)only[go_sem,vH,stA,c0,m9,ml,c1,hm,hg,oms,ixA];exact jCr (256+x.n) oM rfl rfl
  ·simp(maxSteps:=9^9)(disch:=try exact dS)only[go_sem,vH,stA,c0,m9,m5,c1];exact jCr (256+n%5) oM rfl rfl
 ·simp(maxSteps:=9^9)(disch:=try exact dS)only[go_sem,vH,stA,c0,m5];exact jCr (256+n%5) oM rfl rfl
theorem zB0  (s:St)(n k:Int)(hp:s.Ok∧nnI n) :
  qGc.1.wp tab gl (qE 0 [.t (stA s),.t (.int .i64 n),.t (.int .i64 k)]) (qE 0 []) (qX [(6,none)] 0 (qDn.K (s,n,k))):=by
 obtain⟨hs,hn⟩:=hp;have l1:=hs.obs;have m3:n.tmod 3=n%3:=Int.tmod_eq_emod_of_nonneg hn.1;simp(maxSteps:=9^9)(disch:=try exact dS)only[go_sem,qGc,stA];refine qD 3 (fun i=>[(1,.t (.int .i64 n)),(2,.t (.int .i64 k)),(3,.ref 4096 0 0),(7,.t (.int .i64 (i:Nat)))]) (fun i=>[(4096,.live 30 [.t (stA s)] true true)]) (qI.rd id ?_ ?_ rfl) (fun i hi=>?_)
 ·simp(maxSteps:=9^9)(disch:=try exact dS)only[go_sem,id,stA]
 ·simp(maxSteps:=9^9)(disch:=try exact dS)only[go_sem,id,stA]
 by_cases c0:i<3
 rotate_left
 ·obtain rfl:i=3:=oM;simp(maxSteps:=9^9)(disch:=try exact dS)only[go_sem,m3];exact jDh (512+n%3) oM rfl rfl
 have m4:(n+(i:Int)).tmod 3=(n+(i:Int))%3:=Int.tmod_eq_emod_of_nonneg oM;obtain⟨j,hj⟩ : ∃ j:Nat,(n+(i:Int))%3=j:=⟨((n+(i:Int))%3).toNat,oM⟩;have hj3:j<3:=oM;obtain⟨x,hg,hm,_⟩:=qN (l:=s.obs) (k:=j) oM;rw[hj] at m4;by_cases c5:x.p.kd=0
 ·simp(maxSteps:=9^9)(disch:=try exact dS)only[go_sem,stA,c0,m4,hj3,hg,oms,wI,l1.1,c5];refine qI.rd id ?_ ?_ rfl;all_goals simp(maxSteps:=9^9)(disch:=try exact dS)only[go_sem,id,stA]
 by_cases c6:k=0
 ·subst c6;simp(maxSteps:=9^9)(disch:=try exact dS)only[go_sem,stA,c0,m4,hj3,hg,oms,wI,l1.1,c5];exact jDh (((512+j:Nat)):Int) oM rfl rfl
 by_cases c7:x.p.kd=k
 ·subst c7;simp(maxSteps:=9^9)(disch:=try exact dS)only[go_sem,stA,c0,m4,hj3,hg,oms,wI,l1.1,c5,c6];exact jDh (((512+j:Nat)):Int) oM rfl rfl
 ·simp(maxSteps:=9^9)(disch:=try exact dS)only[go_sem,stA,c0,m4,hj3,hg,oms,wI,l1.1,c5,c6,c7];refine qI.rd id ?_ ?_ rfl;all_goals simp(maxSteps:=9^9)(disch:=try exact dS)only[go_sem,id,stA]
theorem qMh  (s:St)(n k:Int)(hp:s.Ok∧nnI n) :
  xB.1.wp tab gl (qE 0 [.t (stA s),.t (.int .i64 n),.t (.int .i64 k)]) (qE 0 []) (qX [(6,none)] 0 (qBa.K (s,n,k))):=by
 obtain⟨hs,hn⟩:=hp;have l1:=hs.ses;have m3:n.tmod 3=n%3:=Int.tmod_eq_emod_of_nonneg hn.1;simp(maxSteps:=9^9)(disch:=try exact dS)only[go_sem,xB,stA];refine qD 3 (fun i=>[(1,.t (.int .i64 n)),(2,.t (.int .i64 k)),(3,.ref 4096 0 0),(7,.t (.int .i64 (i:Nat)))]) (fun i=>[(4096,.live 30 [.t (stA s)] true true)]) (qI.rd id ?_ ?_ rfl) (fun i hi=>?_)
 ·simp(maxSteps:=9^9)(disch:=try exact dS)only[go_sem,id,stA]
 ·simp(maxSteps:=9^9)(disch:=try exact dS)only[go_sem,id,stA]
 by_cases c0:i<3
 rotate_left
 ·obtain rfl:i=3:=oM;simp(maxSteps:=9^9)(disch:=try exact dS)only[go_sem,m3];exact jFa (768+n%3) oM rfl rfl
 have m4:(n+(i:Int)).tmod 3=(n+(i:Int))%3:=Int.tmod_eq_emod_of_nonneg oM;obtain⟨j,hj⟩ : ∃ j:Nat,(n+(i:Int))%3=j:=⟨((n+(i:Int))%3).toNat,oM⟩;have hj3:j<3:=oM;obtain⟨x,hg,hm,_⟩:=qN (l:=s.ses) (k:=j) oM;rw[hj] at m4;by_cases c5:x.kd=0
 ·simp(maxSteps:=9^9)(disch:=try exact dS)only[go_sem,stA,c0,m4,hj3,hg,oms,jL,l1.1,c5];refine qI.rd id ?_ ?_ rfl;all_goals simp(maxSteps:=9^9)(disch:=try exact dS)only[go_sem,id,stA]
 by_cases c6:k=0
 ·subst c6;simp(maxSteps:=9^9)(disch:=try exact dS)only[go_sem,stA,c0,m4,hj3,hg,oms,jL,l1.1,c5];exact jFa (((768+j:Nat)):Int) oM rfl rfl
 by_cases c7:x.kd=k
 ·subst c7;simp(maxSteps:=9^9)(disch:=try exact dS)only[go_sem,stA,c0,m4,hj3,hg,oms,jL,l1.1,c5,c6];exact jFa (((768+j:Nat)):Int) oM rfl rfl
 ·simp(maxSteps:=9^9)(disch:=try exact dS)only[go_sem,stA,c0,m4,hj3,hg,oms,jL,l1.1,c5,c6,c7];refine qI.rd id ?_ ?_ rfl;all_goals simp(maxSteps:=9^9)(disch:=try exact dS)only[go_sem,id,stA]
theorem zBz {g1}(h1:LkE tab 123 qB3 g1){g2}(h2:LkE tab 116 qDn g2)(s:St)(n:Int)(hp:s.Ok∧nnI n) :
  qAn.1.wp tab gl (qE 0 [.t (stA s),.t (.int .i64 n)]) (qE 0 []) (qX [(4,none)] 0 (qFc.K (s,n))):=by
 obtain⟨hs,hn⟩:=hp;have m3:n.tmod 3=n%3:=Int.tmod_eq_emod_of_nonneg hn.1;have d3:n.tdiv 3=n/3:=Int.tdiv_eq_ediv_of_nonneg hn.1;have m4:(n/3).tmod 4=n/3%4:=Int.tmod_eq_emod_of_nonneg oM;obtain⟨a,ha,e1⟩:=zKv (g:=g1) (s:=s) (n:=n/3) ⟨hs,oM,oM⟩;obtain⟨b,hb,e2⟩:=qV7 (g:=g2) (s:=s) (n:=n/3) (k:=0) ⟨hs,oM,oM⟩;simp only[stA] at e1 e2;by_cases c0:n%3=0
 ·simp(maxSteps:=9^9)(disch:=try exact dS)only[go_sem,qAn,stA,c0,m3,d3,m4];exact jB8 (n/3%4) oM rfl rfl
 by_cases c1:n%3=1
 ·simp(maxSteps:=9^9)(disch:=try exact dS)only[go_sem,qAn,stA,h1,e1,c1,m3,d3];exact jB8 a ha rfl rfl
 ·simp(maxSteps:=9^9)(disch:=try exact dS)only[go_sem,qAn,stA,h2,e2,c0,c1,m3,d3];exact jB8 b hb rfl rfl
theorem jBl {s:St}(h:s.Ok):s.Go 0 (qAf s.a):=by
 have hd:=h.dr;have hu:=h.u;refine⟨⟨h.a,.inl rfl,?_,?_,?_,⟨rfl,?_⟩,⟨rfl,?_⟩⟩,fun m hm=>?_⟩
 ·show (0:Int)≤0;omega
 ·show (0:Int)≤0∧(0:Int)≤1099511627776;omega
 ·show (0:Int)≤0;omega
 ·intro x hx;simp only[qAf,List.mem_cons,List.not_mem_nil,or_false] at hx;rcases hx with rfl | rfl | rfl<;>exact Ses.ok0
 ·intro x hx;simp only[qAf,List.mem_cons,List.not_mem_nil,or_false] at hx;rcases hx with rfl | rfl | rfl<;>exact Obj.ok0
 ·unfold St.cn at *;simp only[qAf,List.length_nil];omega
theorem zIs {g1}(h1:LkE tab 11 qDm g1){g2}(h2:LkE tab 16 qDp g2)(s:St)(hp:s.Ok∧s.cn 1000000) :
  qFu.1.wp tab gl (qE 0 [.t (stA s)]) (qE 0 []) (qX [(2,(some (30,true)))] 0 (qLp.K s)):=by
 obtain⟨hs,hc⟩:=hp;by_cases c0:s.on=true
 ·simp(maxSteps:=9^9)(disch:=try exact dS)only[go_sem,qFu,stA,c0];exact jM4 s ⟨St.go_rfl hs oM,c0⟩ (by simp only[stA,c0]) rfl
 have c0:s.on=false:=by simpa using c0
 have g0:=jBl hs;have e1 := @zDp g1 s.a;obtain⟨t,e,⟨ht,he⟩,e2⟩:=zLu (g:=g2) (s:=qAf s.a) (m:=0) ⟨g0.1.a,(g0.2 _ hc).le oM⟩;have hS:qRe (qAf s.a) 0=(zIp (qAf s.a),0):=by simp[qRe,qAf]
 rw[hS] at ht he;simp only at ht he;subst he;have hgo:s.Go 1 t:=by rw[ht];exact⟨(zBr g0.1).1,(g0.2.trans (zBr g0.1).2).le oM⟩
 have hon:t.on=true:=by rw[ht];rfl
 clear ht;simp only[stA,saA,qAf,mcn] at e1 e2;simp(maxSteps:=9^9)(disch:=try exact dS)only[go_sem,qFu,stA,h1,h2,e1,e2,c0];repeat refine aiG ?_
 exact jM4 t ⟨hgo,hon⟩ rfl rfl
theorem Rq.B.auth {co:Int}{hh:List Int}{au:List Az}{ns:List Int}{bl:List (List UInt8)}(h:(Rq.mk co hh au ns bl).B)(a:Az)(l1:a.no.length≤4000)(l2:a.va.length≤4000):(Rq.mk co hh [a] ns bl).B:=by
 obtain⟨b1,_,b3,b4,b5,_⟩:=h;refine⟨b1,sM,b3,b4,b5,?_⟩;intro x hx;simp only[List.mem_cons,List.not_mem_nil,or_false] at hx;subst hx;exact⟨l1,l2⟩
theorem qT1 {g1}(h1:LkE tab 146 qLo g1){g2}(h2:LkE tab 118 qBa g2){g3}(h3:LkE tab 145 qCr g3)(h4:LkC tab 113 vT){g5}(h5:LkE tab 175 qOk g5){g6}(h6:LkE tab 152 qKu g6){g7}(h7:LkE tab 151 qKx g7)(s:St)(q:Rq)(m:Int)(b:List UInt8)(hp:s.Ok∧(q.B∧1≤q.hs.length)∧nnI m∧b.length≤60) :
  zK.1.wp tab gl (qE 0 [.t (stA s),.t (rqA q),.t (.int .i64 m),.t (.sl (b.map qA))]) (qE 0 []) (qX [(8,(some (5,true)))] 0 (qFa.K (s,q,m,b))):=by
 obtain⟨hs,⟨hq,h1q⟩,hm,hb⟩:=hp;obtain⟨co,hh,au,ns,bl⟩:=q;obtain⟨x0,g0,_,hd⟩:=qN (l:=hh) (k:=0) (by simp only at h1q;omega);have m8:m.tmod 8=m%8:=Int.tmod_eq_emod_of_nonneg hm.1;have d8:m.tdiv 8=m/8:=Int.tdiv_eq_ediv_of_nonneg hm.1;have m16:m.tmod 16=m%16:=Int.tmod_eq_emod_of_nonneg hm.1;obtain⟨v,lv,e1⟩:=jA5 (g:=g1) (s:=s) (h:=x0) hs;have n8:nnI (m/8):=⟨oM,oM⟩;simp only[stA] at e1;rcases (by omega:m%8=0∨m%8=1∨m%8=2∨m%8=3∨m%8=4∨m%8=5∨m%8=6∨m%8=7) with c | c | c | c | c | c | c | c
 ·simp(maxSteps:=9^9)(disch:=try exact dS)only[go_sem,zK,stA,rqA,g0,oms,iT,h1,e1,m8,c,mcn];repeat refine aiG ?_
  exact qVi ⟨co,hh,[⟨0,[],v++[1]⟩],ns,bl⟩ (hq.auth _ sM soM) (by simp[rqA,azA,List.take_of_length_le]) rfl
 ·obtain⟨y,hy,e2⟩:=qMs (g:=g2) (s:=s) (n:=m/8) (k:=1) ⟨hs,n8⟩;obtain⟨x,e,⟨hx,_⟩,e3⟩:=qQi (g:=g3) (s:=s) (h:=y) ⟨hs,oM,oM⟩;simp only[stA] at e2;by_cases z:e=0
  rotate_left
  ·simp only[stA,jL] at e3;simp(maxSteps:=9^9)(disch:=try exact dS)only[go_sem,zK,stA,rqA,g0,oms,iT,h1,h2,h3,e1,e2,e3,m8,d8,c,z,mcn];repeat refine aiG ?_
   exact qVi ⟨co,hh,[⟨y,[],v⟩],ns,bl⟩ (hq.auth _ sM soM) (by simp[rqA,azA]) rfl
  by_cases k:x.kd=1
  rotate_left
  ·simp only[stA,jL] at e3;simp(maxSteps:=9^9)(disch:=try exact dS)only[go_sem,zK,stA,rqA,g0,oms,iT,h1,h2,h3,e1,e2,e3,m8,d8,c,z,k,mcn];repeat refine aiG ?_
   exact qVi ⟨co,hh,[⟨y,[],v⟩],ns,bl⟩ (hq.auth _ sM soM) (by simp[rqA,azA]) rfl
  have hx2:=hx.2.1;have l16:(b.take 16).length≤16:=soM;have f16:vT.fs [.t (.sl (b.map qA)),.t (.int .i64 16)] []=some (.t (.sl ((b.take 16).map qA)),[]):=qCe (n:=16) ⟨oM,oM⟩;generalize b.take 16=no at *;obtain⟨l,hl,e5⟩:=zZ3 (g:=g5) (s:=s) (q:=⟨co,hh,au,ns,bl⟩) ⟨hs,hq.1⟩;obtain⟨d,ld,e6⟩:=zO2 (g:=g6) (l:=l) (q:=⟨co,hh,au,ns,bl⟩) ⟨hl,hq⟩;obtain⟨w,lw,e7⟩:=zO6 (g:=g7) (v:=v) (d:=d) (m:=x.no) (c:=no) ⟨oM,oM,oM,oM⟩;simp only[stA,jL,rqA] at e3 e5 e6;simp(maxSteps:=9^9)(disch:=try exact dS)only[go_sem,zK,stA,rqA,g0,oms,iT,h1,h2,h3,h4,h5,h6,h7,e1,e2,e3,f16,e5,e6,e7,m8,d8,c,z,k,mcn];repeat refine aiG ?_
  exact qVi ⟨co,hh,[⟨y,no,w⟩],ns,bl⟩ (hq.auth _ soM (by simp only;omega)) (by simp[rqA,azA,List.take_of_length_le]) rfl
 ·obtain⟨y,hy,e2⟩:=qMs (g:=g2) (s:=s) (n:=m/8) (k:=1) ⟨hs,n8⟩;obtain⟨x,e,⟨hx,_⟩,e3⟩:=qQi (g:=g3) (s:=s) (h:=y) ⟨hs,oM,oM⟩;simp only[stA] at e2;by_cases z:e=0
  rotate_left
  ·simp only[stA,jL] at e3;simp(maxSteps:=9^9)(disch:=try exact dS)only[go_sem,zK,stA,rqA,g0,oms,iT,h1,h2,h3,e1,e2,e3,m8,d8,c,z,mcn];repeat refine aiG ?_
   exact qVi ⟨co,hh,[⟨y,[],v⟩],ns,bl⟩ (hq.auth _ sM soM) (by simp[rqA,azA]) rfl
  by_cases k:x.kd=1
  rotate_left
  ·simp only[stA,jL] at e3;simp(maxSteps:=9^9)(disch:=try exact dS)only[go_sem,zK,stA,rqA,g0,oms,iT,h1,h2,h3,e1,e2,e3,m8,d8,c,z,k,mcn];repeat refine aiG ?_
   exact qVi ⟨co,hh,[⟨y,[],v⟩],ns,bl⟩ (hq.auth _ sM soM) (by simp[rqA,azA]) rfl
  have hx2:=hx.2.1;have l16:(b.take 16).length≤16:=soM;have f16:vT.fs [.t (.sl (b.map qA)),.t (.int .i64 16)] []=some (.t (.sl ((b.take 16).map qA)),[]):=qCe (n:=16) ⟨oM,oM⟩;generalize b.take 16=no at *;obtain⟨l,hl,e5⟩:=zZ3 (g:=g5) (s:=s) (q:=⟨co,hh,au,ns,bl⟩) ⟨hs,hq.1⟩;obtain⟨d,ld,e6⟩:=zO2 (g:=g6) (l:=l) (q:=⟨co,hh,au,ns,bl⟩) ⟨hl,hq⟩;obtain⟨w,lw,e7⟩:=zO6 (g:=g7) (v:=v) (d:=d) (m:=x.no) (c:=no) ⟨oM,oM,oM,oM⟩;simp only[stA,jL,rqA] at e3 e5 e6;by_cases c16:m%16=2
  ·simp(maxSteps:=9^9)(disch:=try exact dS)only[go_sem,zK,stA,rqA,g0,oms,iT,h1,h2,h3,h4,h5,h6,h7,e1,e2,e3,f16,e5,e6,e7,m8,d8,c,z,k,m16,c16,mcn];repeat refine aiG ?_
   exact qVi ⟨co,hh,[⟨y,no++[1],w⟩],ns,bl⟩ (hq.auth _ soM (by simp only;omega)) (by simp[rqA,azA,List.take_of_length_le]) rfl
  ·simp(maxSteps:=9^9)(disch:=try exact dS)only[go_sem,zK,stA,rqA,g0,oms,iT,h1,h2,h3,h4,h5,h6,h7,e1,e2,e3,f16,e5,e6,e7,m8,d8,c,z,k,m16,c16,mcn];repeat refine aiG ?_
   exact qVi ⟨co,hh,[⟨y,no,w⟩],ns,bl⟩ (hq.auth _ soM (by simp only;omega)) (by simp[rqA,azA,List.take_of_length_le]) rfl
 ·obtain⟨y,hy,e2⟩:=qMs (g:=g2) (s:=s) (n:=m/8) (k:=2) ⟨hs,n8⟩;simp only[stA] at e2;simp(maxSteps:=9^9)(disch:=try exact dS)only[go_sem,zK,stA,rqA,g0,oms,iT,h1,h2,e1,e2,m8,d8,c,mcn];repeat refine aiG ?_
  exact qVi ⟨co,hh,[⟨y,[],v⟩],ns,bl⟩ (hq.auth _ sM soM) (by simp[rqA,azA]) rfl
 ·obtain⟨y,hy,e2⟩:=qMs (g:=g2) (s:=s) (n:=m/8) (k:=2) ⟨hs,n8⟩;simp only[stA] at e2;simp(maxSteps:=9^9)(disch:=try exact dS)only[go_sem,zK,stA,rqA,g0,oms,iT,h1,h2,e1,e2,m8,d8,c,mcn];repeat refine aiG ?_
  exact qVi ⟨co,hh,[⟨y,[],v⟩],ns,bl⟩ (hq.auth _ sM soM) (by simp[rqA,azA]) rfl
 all_goals
  simp(maxSteps:=9^9)(disch:=try exact dS)only[go_sem,zK,stA,rqA,g0,oms,iT,h1,e1,m8,c,mcn];repeat refine aiG ?_
  exact qVi ⟨co,hh,[⟨0,[],v⟩],ns,bl⟩ (hq.auth _ sM soM) (by simp[rqA,azA]) rfl
end Go.Eng
end
