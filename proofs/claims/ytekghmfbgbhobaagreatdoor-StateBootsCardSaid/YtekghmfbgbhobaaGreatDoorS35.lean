/- A part of an abstract machine, its walks, their tie. -/
import Derived.Test.YtekghmfbgbhobaaGreatDoorS31
import Derived.Test.YtekghmfbgbhobaaGreatDoorS34
import Derived.Test.YtekghmfbgbhobaaGreatDoorS22
import Derived.Test.YtekghmfbgbhobaaGreatDoorS33
set_option linter.all false
section
set_option maxHeartbeats 64000000
set_option maxRecDepth 20000
namespace Go.Eng
variable (tab:Tab) (gl:Gl)
variable {vv:V} {oo:List Ob}
def Ix.M (x:Ix):Prop:=x.po.length≤100000∧x.au.length≤100000∧x.da.length≤100000
def Obj.M (x:Obj):Prop:=(x.p.po.length≤100000∧x.p.un.length≤100000)∧x.s.au.length≤100000∧x.s.sd.length≤100000∧x.s.da.length≤100000
def Ses.M (x:Ses):Prop:=x.no.length≤100000∧x.dg.length≤100000
structure Sa.M (s:Sa):Prop where
 sd:zDo s.sd
 au:zDo s.au
 en:s.en.length<1000000000
 bk:RM s.bk
 ix:s.ix.length≤1000000 ∧ ∀ x∈s.ix,x.M
 ks:s.ks.length≤1000000 ∧ ∀ x∈s.ks,x.un.length≤100000
structure St.M (s:St):Prop where
 a:s.a.M
 bk:RM s.bk
 rl:s.rl.length≤1000000
 wl:s.wl.length≤1000000
 ses:s.ses.length≤1000000 ∧ ∀ x∈s.ses,x.M
 obs:s.obs.length≤1000000 ∧ ∀ x∈s.obs,x.M
def qL6:ECt where
 α:=List Int×List Int
 β:=Bool
 aS:=fun (a,b)=>[.t (.sl (a.map iT)),.t (.sl (b.map iT))]
 pre:=fun (a,b)=>a=b∧a.length≤1000000
 r:=fun r=> .t (.bool r)
 R:=fun (a,b) r=>r=true
theorem zUx {g:EF qL6}{a b:List Int}(hp:a=b∧a.length≤1000000) : ∃ (r:Bool),(r=true)∧qL6.fs g [.t (.sl (a.map iT)),.t (.sl (b.map iT))] []=some (.t (.bool r),[]):=qL6.eq g (a,b) hp
theorem jI4 {a b:List Int}(r:Bool)(hR:r=true)(hV:vv = .t (.bool r))(hO:oo=[]):qL6.K (a,b) vv oo:=⟨r,hR,hV,hO⟩
def qNj:ECt where
 α:=Ses×Ses
 β:=Bool
 aS:=fun (a,b)=>[.t (zZ a),.t (zZ b)]
 pre:=fun (a,b)=>a=b∧a.M
 r:=fun r=> .t (.bool r)
 R:=fun (a,b) r=>r=true
theorem jF6 {g:EF qNj}{a b:Ses}(hp:a=b∧a.M) : ∃ (r:Bool),(r=true)∧qNj.fs g [.t (zZ a),.t (zZ b)] []=some (.t (.bool r),[]):=qNj.eq g (a,b) hp
theorem jKw {a b:Ses}(r:Bool)(hR:r=true)(hV:vv = .t (.bool r))(hO:oo=[]):qNj.K (a,b) vv oo:=⟨r,hR,hV,hO⟩
def qNi:ECt where
 α:=Sn×Sn
 β:=Bool
 aS:=fun (a,b)=>[.t (snA a),.t (snA b)]
 pre:=fun (a,b)=>a=b∧a.au.length≤100000∧a.sd.length≤100000∧a.da.length≤100000
 r:=fun r=> .t (.bool r)
 R:=fun (a,b) r=>r=true
theorem jF5 {g:EF qNi}{a b:Sn}(hp:a=b∧a.au.length≤100000∧a.sd.length≤100000∧a.da.length≤100000) : ∃ (r:Bool),(r=true)∧qNi.fs g [.t (snA a),.t (snA b)] []=some (.t (.bool r),[]):=qNi.eq g (a,b) hp
theorem jKv {a b:Sn}(r:Bool)(hR:r=true)(hV:vv = .t (.bool r))(hO:oo=[]):qNi.K (a,b) vv oo:=⟨r,hR,hV,hO⟩
def qMc:ECt where
 α:=Ix×Ix
 β:=Bool
 aS:=fun (a,b)=>[.t (ixA a),.t (ixA b)]
 pre:=fun (a,b)=>a=b∧a.M
 r:=fun r=> .t (.bool r)
 R:=fun (a,b) r=>r=true
theorem jDj {g:EF qMc}{a b:Ix}(hp:a=b∧a.M) : ∃ (r:Bool),(r=true)∧qMc.fs g [.t (ixA a),.t (ixA b)] []=some (.t (.bool r),[]):=qMc.eq g (a,b) hp
theorem jI9 {a b:Ix}(r:Bool)(hR:r=true)(hV:vv = .t (.bool r))(hO:oo=[]):qMc.K (a,b) vv oo:=⟨r,hR,hV,hO⟩
def qNc:ECt where
 α:=Sa×Sa
 β:=Bool
 aS:=fun (a,b)=>[.t (saA a),.t (saA b)]
 pre:=fun (a,b)=>a=b∧a.M
 r:=fun r=> .t (.bool r)
 R:=fun (a,b) r=>r=true
theorem jFm {g:EF qNc}{a b:Sa}(hp:a=b∧a.M) : ∃ (r:Bool),(r=true)∧qNc.fs g [.t (saA a),.t (saA b)] []=some (.t (.bool r),[]):=qNc.eq g (a,b) hp
theorem jKm {a b:Sa}(r:Bool)(hR:r=true)(hV:vv = .t (.bool r))(hO:oo=[]):qNc.K (a,b) vv oo:=⟨r,hR,hV,hO⟩
def qHk:ECt where
 α:=St×St
 β:=Bool
 aS:=fun (a,b)=>[.t (stA a),.t (stA b)]
 pre:=fun (a,b)=>a=b∧a.M
 r:=fun r=> .t (.bool r)
 R:=fun (a,b) r=>r=true
theorem qEi {g:EF qHk}{a b:St}(hp:a=b∧a.M) : ∃ (r:Bool),(r=true)∧qHk.fs g [.t (stA a),.t (stA b)] []=some (.t (.bool r),[]):=qHk.eq g (a,b) hp
theorem jKy {a b:St}(r:Bool)(hR:r=true)(hV:vv = .t (.bool r))(hO:oo=[]):qHk.K (a,b) vv oo:=⟨r,hR,hV,hO⟩
theorem qR1 {b:Bool}:(b==b)=true:=by cases b<;>rfl
theorem zCe  (a b:List Int)(hp:a=b∧a.length≤1000000) :
  qGg.1.wp tab gl (qD 0 [.t (.sl (a.map iT)),.t (.sl (b.map iT))]) (qD 0 []) (qY [(4,none)] 0 (qL6.K (a,b))):=by
 obtain⟨rfl,hl⟩:=hp;simp(disch:=omega)only[go_sem,qGg];refine qF a.length (fun k=>[(0,.t (.sl (a.map iT))),(1,.t (.sl (a.map iT))),(5,.t (.int .i64 (k:Nat)))]) (fun k=>[]) (qI.rd id ?_ ?_ rfl) (fun k hk=>?_)
 ·simp(disch:=omega)only[go_sem,id]
 ·simp(disch:=omega)only[go_sem,id]
 by_cases c:k<a.length
 ·obtain⟨x,hg,_,_⟩:=qQ c;simp(disch:=omega)only[go_sem,c,hg,oms,iT];repeat refine aiG ?_
  refine qI.rd id ?_ ?_ rfl;all_goals simp(disch:=omega)only[go_sem,id]
 ·obtain rfl:k=a.length:=oM;simp(disch:=omega)only[go_sem];exact jI4 true rfl rfl rfl
theorem qN7 (h1:LkC tab 20 wA)(a b:Ses)(hp:a=b∧a.M) :
  kQ.1.wp tab gl (qD 0 [.t (zZ a),.t (zZ b)]) (qD 0 []) (qY [(4,none)] 0 (qNj.K (a,b))):=by
 obtain⟨rfl,m1,m2⟩:=hp;have e1:=yG (a:=a.no) (b:=a.no) ⟨oM,oM⟩;have e2:=yG (a:=a.dg) (b:=a.dg) ⟨oM,oM⟩;cases a;simp only at e1 e2;simp(disch:=omega)only[go_sem,kQ,zZ,h1,e1,e2,qR1];exact jKw true rfl rfl rfl
theorem zB4 (h1:LkC tab 20 wA)(a b:Sn)(hp:a=b∧a.au.length≤100000∧a.sd.length≤100000∧a.da.length≤100000) :
  qF9.1.wp tab gl (qD 0 [.t (snA a),.t (snA b)]) (qD 0 []) (qY [(4,none)] 0 (qNi.K (a,b))):=by
 obtain⟨rfl,m1,m2,m3⟩:=hp;have e1:=yG (a:=a.au) (b:=a.au) ⟨oM,oM⟩;have e2:=yG (a:=a.sd) (b:=a.sd) ⟨oM,oM⟩;have e3:=yG (a:=a.da) (b:=a.da) ⟨oM,oM⟩;cases a;simp only at e1 e2 e3;simp(disch:=omega)only[go_sem,qF9,snA,h1,e1,e2,e3];exact jKv true rfl rfl rfl
theorem zB6 (h1:LkC tab 20 wA)(a b:Ix)(hp:a=b∧a.M) :
  qGa.1.wp tab gl (qD 0 [.t (ixA a),.t (ixA b)]) (qD 0 []) (qY [(4,none)] 0 (qMc.K (a,b))):=by
 obtain⟨rfl,m1,m2,m3⟩:=hp;have e1:=yG (a:=a.po) (b:=a.po) ⟨oM,oM⟩;have e2:=yG (a:=a.au) (b:=a.au) ⟨oM,oM⟩;have e3:=yG (a:=a.da) (b:=a.da) ⟨oM,oM⟩;cases a;simp only at e1 e2 e3;simp(disch:=omega)only[go_sem,qGa,ixA,h1,e1,e2,e3,qR1];exact jI9 true rfl rfl rfl
theorem qPn (h1:LkC tab 63 qKd)(h2:LkC tab 20 wA)(h3:LkC tab 31 qS3){g4}(h4:LkE tab 64 qMc g4)(a b:Sa)(hp:a=b∧a.M) :
  xL.1.wp tab gl (qD 0 [.t (saA a),.t (saA b)]) (qD 0 []) (qY [(4,none)] 0 (qNc.K (a,b))):=by
 obtain⟨rfl,hM⟩:=hp;have e1:=qR8 hM.sd;have e2:=qR8 hM.au;have e3:=yG (a:=a.en) (b:=a.en) ⟨hM.en,hM.en⟩;have e4:qS3.fs [.t (.agg [.sl (a.bk.map vM),.int .i64 a.u]),.t (.agg [.sl (a.bk.map vM),.int .i64 a.u])] []=some (.t (.bool true),[]):=qS3.eq (a.bk,a.u) hM.bk;have mI:=hM.ix;have mK:=hM.ks;clear hM;obtain⟨sd,au,en,act,res,rst,clk,ord,bk,u,mc,ix,⟨l1,l2,l3,l4,l5,l6⟩,ks⟩:=a;simp only at e1 e2 e3 e4 mI mK;have eb:([l1,l2,l3,l4,l5,l6]==[l1,l2,l3,l4,l5,l6])=true:=sM;simp(maxSteps:=9^9)(disch:=try exact dS)only[go_sem,xL,saA,lkA,h1,h2,h3,e1,e2,e3,e4,jI5,eb,qR1];refine qF ix.length (fun k=>[(2,.ref 4096 0 0),(3,.ref 4112 0 0),(5,.t (.int .i64 (k:Nat)))]) (fun k=>[(4096,.live 19 [.t (saA ⟨sd,au,en,act,res,rst,clk,ord,bk,u,mc,ix,⟨l1,l2,l3,l4,l5,l6⟩,ks⟩)] true true),(4112,.live 19 [.t (saA ⟨sd,au,en,act,res,rst,clk,ord,bk,u,mc,ix,⟨l1,l2,l3,l4,l5,l6⟩,ks⟩)] true true)]) (qI.rd id ?_ ?_ rfl) (fun k hk=>?_)
 ·simp(maxSteps:=9^9)(disch:=try exact dS)only[go_sem,id]
 ·simp(maxSteps:=9^9)(disch:=try exact dS)only[go_sem,id,saA,lkA]
 by_cases c:k<ix.length
 ·obtain⟨x,hg,hm,_⟩:=qQ c;obtain⟨r,rfl,e5⟩:=jDj (g:=g4) (a:=x) (b:=x) ⟨rfl,mI.2 x hm⟩;simp only[ixA] at e5;simp(maxSteps:=9^9)(disch:=try exact dS)only[go_sem,saA,lkA,c,hg,oms,ixA,h4,e5];repeat refine aiG ?_
  refine qI.rd id ?_ ?_ rfl;all_goals simp(maxSteps:=9^9)(disch:=try exact dS)only[go_sem,id,saA,lkA]
 obtain rfl:k=ix.length:=oM;simp(maxSteps:=9^9)(disch:=try exact dS)only[go_sem,saA,lkA];refine qF ks.length (fun k=>[(2,.ref 4096 0 0),(3,.ref 4112 0 0),(6,.t (.int .i64 (k:Nat)))]) (fun k=>[(4096,.live 19 [.t (saA ⟨sd,au,en,act,res,rst,clk,ord,bk,u,mc,ix,⟨l1,l2,l3,l4,l5,l6⟩,ks⟩)] true true),(4112,.live 19 [.t (saA ⟨sd,au,en,act,res,rst,clk,ord,bk,u,mc,ix,⟨l1,l2,l3,l4,l5,l6⟩,ks⟩)] true true)]) (qI.rd id ?_ ?_ rfl) (fun k hk=>?_)
 ·simp(maxSteps:=9^9)(disch:=try exact dS)only[go_sem,id]
 ·simp(maxSteps:=9^9)(disch:=try exact dS)only[go_sem,id,saA,lkA]
 by_cases c:k<ks.length
 ·obtain⟨x,hg,hm,_⟩:=qQ c;have e5:=yG (a:=x.un) (b:=x.un) ⟨by have:=mK.2 x hm;omega,by have:=mK.2 x hm;omega⟩;simp(maxSteps:=9^9)(disch:=try exact dS)only[go_sem,saA,lkA,c,hg,oms,lvA,h2,e5];repeat refine aiG ?_
  refine qI.rd id ?_ ?_ rfl;all_goals simp(maxSteps:=9^9)(disch:=try exact dS)only[go_sem,id,saA,lkA]
 obtain rfl:k=ks.length:=oM;simp(maxSteps:=9^9)(disch:=try exact dS)only[go_sem,saA,lkA];exact jKm true rfl rfl rfl
theorem zCc {g1}(h1:LkE tab 25 qNc g1)(h2:LkC tab 31 qS3){g3}(h3:LkE tab 32 qL6 g3){g4}(h4:LkE tab 33 qNj g4){g5}(h5:LkE tab 34 qM7 g5){g6}(h6:LkE tab 35 qNi g6)(a b:St)(hp:a=b∧a.M) :
  qGe.1.wp tab gl (qD 0 [.t (stA a),.t (stA b)]) (qD 0 []) (qY [(4,none)] 0 (qHk.K (a,b))):=by
 obtain⟨rfl,hM⟩:=hp;obtain⟨r1,rfl,e1⟩:=jFm (g:=g1) (a:=a.a) (b:=a.a) ⟨rfl,hM.a⟩;have e2:qS3.fs [.t (.agg [.sl (a.bk.map vM),.int .i64 a.u]),.t (.agg [.sl (a.bk.map vM),.int .i64 a.u])] []=some (.t (.bool true),[]):=qS3.eq (a.bk,a.u) hM.bk;obtain⟨r3,rfl,e3⟩:=zUx (g:=g3) (a:=a.rl) (b:=a.rl) ⟨rfl,hM.rl⟩;obtain⟨r4,rfl,e4⟩:=zUx (g:=g3) (a:=a.wl) (b:=a.wl) ⟨rfl,hM.wl⟩;have mS:=hM.ses;have mO:=hM.obs;clear hM;simp only[saA] at e1;simp(maxSteps:=9^9)(disch:=try exact dS)only[go_sem,qGe,stA,h1,h2,h3,e1,e2,e3,e4,qR1];repeat refine aiG ?_
 refine qF a.ses.length (fun k=>[(5,.ref 8256 0 0),(6,.ref 8272 0 0),(7,.t (.int .i64 (k:Nat)))]) (fun k=>[(8256,.live 11 [.t (.agg [.bool a.on,.bool a.off,.sl (a.bk.map vM),.int .i64 a.u,.int .i64 a.clk,.bool a.safe,.int .i64 a.dr,.sl (a.ses.map zZ),.sl (a.obs.map vF),.sl (a.rl.map iT),.sl (a.wl.map iT)])] true true),(8272,.live 11 [.t (.agg [.bool a.on,.bool a.off,.sl (a.bk.map vM),.int .i64 a.u,.int .i64 a.clk,.bool a.safe,.int .i64 a.dr,.sl (a.ses.map zZ),.sl (a.obs.map vF),.sl (a.rl.map iT),.sl (a.wl.map iT)])] true true)]) (qI.rd id ?_ ?_ rfl) (fun k hk=>?_)
 ·simp(maxSteps:=9^9)(disch:=try exact dS)only[go_sem,id]
 ·simp(maxSteps:=9^9)(disch:=try exact dS)only[go_sem,id]
 by_cases c:k<a.ses.length
 ·obtain⟨x,hg,hm,_⟩:=qQ c;obtain⟨r,rfl,e5⟩:=jF6 (g:=g4) (a:=x) (b:=x) ⟨rfl,mS.2 x hm⟩;simp only[zZ] at e5;simp(maxSteps:=9^9)(disch:=try exact dS)only[go_sem,c,hg,oms,zZ,h4,e5];repeat refine aiG ?_
  refine qI.rd id ?_ ?_ rfl;all_goals simp(maxSteps:=9^9)(disch:=try exact dS)only[go_sem,id]
 obtain rfl:k=a.ses.length:=oM;simp(maxSteps:=9^9)(disch:=try exact dS)only[go_sem];refine qF a.obs.length (fun k=>[(5,.ref 8256 0 0),(6,.ref 8272 0 0),(8,.t (.int .i64 (k:Nat)))]) (fun k=>[(8256,.live 11 [.t (.agg [.bool a.on,.bool a.off,.sl (a.bk.map vM),.int .i64 a.u,.int .i64 a.clk,.bool a.safe,.int .i64 a.dr,.sl (a.ses.map zZ),.sl (a.obs.map vF),.sl (a.rl.map iT),.sl (a.wl.map iT)])] true true),(8272,.live 11 [.t (.agg [.bool a.on,.bool a.off,.sl (a.bk.map vM),.int .i64 a.u,.int .i64 a.clk,.bool a.safe,.int .i64 a.dr,.sl (a.ses.map zZ),.sl (a.obs.map vF),.sl (a.rl.map iT),.sl (a.wl.map iT)])] true true)]) (qI.rd id ?_ ?_ rfl) (fun k hk=>?_)
 ·simp(maxSteps:=9^9)(disch:=try exact dS)only[go_sem,id]
 ·simp(maxSteps:=9^9)(disch:=try exact dS)only[go_sem,id]
 by_cases c:k<a.obs.length
 ·obtain⟨x,hg,hm,_⟩:=qQ c;have mX:=mO.2 x hm;obtain⟨r5,rfl,e5⟩:=jEu (g:=g5) (p:=x.p) (q:=x.p) ⟨rfl,mX.1.1,mX.1.2⟩;obtain⟨r6,rfl,e6⟩:=jF5 (g:=g6) (a:=x.s) (b:=x.s) ⟨rfl,mX.2.1,mX.2.2.1,mX.2.2.2⟩;simp only[puA,snA] at e5 e6;simp(maxSteps:=9^9)(disch:=try exact dS)only[go_sem,c,hg,oms,vF,h5,h6,e5,e6];repeat refine aiG ?_
  refine qI.rd id ?_ ?_ rfl;all_goals simp(maxSteps:=9^9)(disch:=try exact dS)only[go_sem,id]
 obtain rfl:k=a.obs.length:=oM;simp(maxSteps:=9^9)(disch:=try exact dS)only[go_sem];exact jKy true rfl rfl rfl
theorem zC1  (s:Sa) :
  qGz.1.wp tab gl (qD 0 [.t (saA s)]) (qD 0 []) (qY [(2,(some (30,true)))] 0 (kF.K s)):=by
 simp +contextual(maxSteps:=9^9)(disch:=try exact dS)only[go_sem,qGz,saA,↓qB,↓qC,qN];exact⟨rfl,jB0 rfl rfl⟩
theorem qUr (h1:LkC tab 36 xD)(h2:LkC tab 37 qAe)(s:St)(m:Int)(hp:s.a.Ok∧s.cn 1000000) :
  jN.1.wp tab gl (qD 0 [.t (stA s),.t (.int .i64 m)]) (qD 0 []) (qY [(4,(some (30,true))),(5,none)] 0 (xT.K (s,m))):=by
 obtain⟨ok,c1,c2,c3,c4,c5⟩:=hp;have q1:=ok.res;have q2:=ok.rst;have q3:=ok.act;have e2:=zVp (u:=s.a.u) ok.bk.rv.rm;simp only[yL] at e2;by_cases d1:s.on=true
 ·simp +contextual(maxSteps:=9^9)(disch:=try exact dS)only[go_sem,jN,stA,d1,↓qB,↓qC,qN];exact qPh default 28 (by rw[qH4,if_pos (.inl d1)];exact⟨rfl,rfl⟩) rfl rfl
 by_cases d2:s.off=true
 ·simp +contextual(maxSteps:=9^9)(disch:=try exact dS)only[go_sem,jN,stA,d1,d2,↓qB,↓qC,qN];exact qPh default 28 (by rw[qH4,if_pos (.inr d2)];exact⟨rfl,rfl⟩) rfl rfl
 have d1':s.on=false:=by simpa using d1
 have d2':s.off=false:=by simpa using d2
 by_cases m0:m=0
 ·subst m0;have hS:qH4 s 0=(zDp s,0):=by simp[qH4,d1',d2']
  rcases (by omega:s.a.act=0∨(1≤s.a.act∧s.a.act≤3)) with ha | ha
  ·simp +contextual(maxSteps:=9^9)(disch:=try exact dS)only[go_sem,jN,stA,d1',d2',h1,ha,zG8,↓qB,↓qC,qN]
   (repeat' (first | apply And.intro | intro _))<;>(try rfl)
   refine qPh (zDp s) 0 (by rw[hS];exact⟨rfl,rfl⟩) ?_ rfl;rw[zDp,ha];simp only[stA,ha,d2'];rfl
  ·obtain⟨b0,b1,eb,e1⟩:=zMp ha;simp +contextual(maxSteps:=9^9)(disch:=try exact dS)only[go_sem,jN,stA,d1',d2',h1,e1,List.take_length,↓qB,↓qC,qN]
   (repeat' (first | apply And.intro | intro _))<;>(try rfl)
   refine qPh (zDp s) 0 (by rw[hS];exact⟨rfl,rfl⟩) ?_ rfl;rw[zDp,eb];simp only[stA,d2'];rfl
 by_cases m1:m=1
 ·subst m1;by_cases m2:s.a.bk.length=0
  ·simp +contextual(maxSteps:=9^9)(disch:=try exact dS)only[go_sem,jN,stA,d1',d2',h2,e2,m2,↓qB,↓qC,qN];exact qPh default 16 (by simp[qH4,d1',d2',m2]) rfl rfl
  ·have hS:qH4 s 1=(zOo s,0):=by simp only[qH4,d1',d2',m2];rfl
   simp +contextual(maxSteps:=9^9)(disch:=try exact dS)only[go_sem,jN,stA,d1',d2',h2,e2,m2,↓qB,↓qC,qN]
   (repeat' (first | apply And.intro | intro _))<;>(try rfl)
   refine qPh (zOo s) 0 (by rw[hS];exact⟨rfl,rfl⟩) ?_ rfl;rw[zOo];simp only[stA,d2',List.map_nil]
 ·simp +contextual(maxSteps:=9^9)(disch:=try exact dS)only[go_sem,jN,stA,d1',d2',m0,m1,↓qB,↓qC,qN];exact qPh default 1 (by simp[qH4,d1',d2',m0,m1]) rfl rfl
theorem qRr {g1}(h1:LkE tab 14 kF g1)(s:St)(m:Int) :
  yR.1.wp tab gl (qD 0 [.t (stA s),.t (.int .i64 m)]) (qD 0 []) (qY [(4,(some (30,true))),(5,none)] 0 (qBf.K (s,m))):=by
 by_cases d1:s.on=true
 ·by_cases m0:m=0
  ·have e1 := @kA g1 { s.a with ord:=s.safe,clk:=s.clk,bk:=[],u:=0 };simp only[saA,stA,jH,mcn] at e1;simp +contextual(maxSteps:=9^9)(disch:=try exact dS)only[go_sem,yR,stA,h1,e1,d1,m0,↓qB,↓qC,qN]
   (repeat' (first | apply And.intro | intro _))<;>(try rfl)
   refine zBu (zN8 s [] 0) 0 (by simp[qPe,d1,m0]) ?_ rfl;rfl
  by_cases m1:m=1
  ·have e1 := @kA g1 { s.a with ord:=s.safe,clk:=s.clk,bk:=s.bk,u:=s.u };simp only[saA,stA,jH,mcn] at e1;simp +contextual(maxSteps:=9^9)(disch:=try exact dS)only[go_sem,yR,stA,h1,e1,d1,m1,↓qB,↓qC,qN]
   (repeat' (first | apply And.intro | intro _))<;>(try rfl)
   refine zBu (zN8 s s.bk s.u) 0 (by simp[qPe,d1,m0,m1]) ?_ rfl;rfl
  ·simp +contextual(maxSteps:=9^9)(disch:=try exact dS)only[go_sem,yR,stA,d1,m0,m1,↓qB,↓qC,qN];exact zBu default 1 (by simp[qPe,d1,m0,m1]) rfl rfl
 ·simp +contextual(maxSteps:=9^9)(disch:=try exact dS)only[go_sem,yR,stA,d1,↓qB,↓qC,qN];exact zBu default 28 (by simp[qPe,d1]) rfl rfl
theorem qWa (h1:LkC tab 40 vN)(h2:LkC tab 41 qAd)(s:St)(n:Int)(hp:s.a.en.length=32∧(0≤s.dr∧s.dr≤1000000000)∧1≤n∧n≤1024) :
  qDh.1.wp tab gl (qD 0 [.t (stA s),.t (.int .i64 n)]) (qD 0 []) (qY [(4,(some (30,true))),(5,none)] 0 (kS.K (s,n))):=by
 have e1 := @zE7 [] s.a.res (by decide);have e2 := @zE7 (beI 8 s.a.res 8) s.a.rst (by simp[beI]);have e3 := @zE7 (beI 8 s.a.res 8++beI 8 s.a.rst 8) s.dr (by simp[beI]);have e4:=qQw (k:=s.a.en) (l:=[114,97,110,100,111,109]) (c:=zSk s) (n:=n.toNat) ⟨oM,sM,by simp[zSk,beI],oM,oM⟩;rw[show ((n.toNat:Nat):Int)=n by omega,show drv s.a.en [114,97,110,100,111,109] (zSk s) n.toNat=jA4 s n from rfl] at e4;have l1:(beI 8 s.a.res 8).length=8:=by simp[beI]
 have l2:(beI 8 s.a.res 8++beI 8 s.a.rst 8).length=16:=by simp[beI]
 have l3:(beI 8 s.a.res 8++beI 8 s.a.rst 8++beI 8 s.dr 8).length=24:=by simp[beI]
 simp only[List.map_nil,List.nil_append,List.length_nil,zSk,l1,l2,Nat.reduceAdd] at e1 e2 e3 e4;generalize beI 8 s.a.res 8++beI 8 s.a.rst 8++beI 8 s.dr 8=y3 at *;generalize beI 8 s.a.res 8++beI 8 s.a.rst 8=y2 at *;generalize beI 8 s.a.res 8=y1 at *;have t1:y1.take 8=y1:=List.take_of_length_le oM;have t2:y2.take 16=y2:=List.take_of_length_le oM;have t3:y3.take 24=y3:=List.take_of_length_le oM;simp +contextual(maxSteps:=9^9)(disch:=try exact dS)only[go_sem,qDh,stA,h1,h2,e1,e2,e3,e4,l1,l2,l3,t1,t2,t3,↓qB,↓qC,qN]
 (repeat' (first | apply And.intro | intro _))<;>(try rfl)
 exact jE9 { s with dr:=s.dr+1 } _ ⟨rfl,rfl⟩ rfl rfl
theorem zMm {l:List (List UInt8)}{n m:Nat}(h:l.length=n ∧ ∀ x∈l,x.length≤m)(hn:n<1000000)(hm:m<1000000):zDo l:=⟨oM,fun x hx=>by have:=h.2 x hx;omega⟩
theorem Ix.Ok.M {x:Ix}(h:x.Ok):x.M:=by
 unfold Ix.Ok at h;unfold Ix.M;omega
theorem Obj.Ok.M {x:Obj}(h:x.Ok):x.M:=by
 unfold Obj.Ok Pu.Ok Sn.Ok at h;unfold Obj.M;omega
theorem Ses.Ok.M {x:Ses}(h:x.Ok):x.M:=by
 unfold Ses.Ok at h;unfold Ses.M;omega
theorem Sa.Ok.M {s:Sa}(h:s.Ok):s.M:=by
 have h1:=h.en;have h2:=h.ix;have h3:=h.ks;refine⟨zMm h.sd oM oM,zMm h.au oM oM,oM,h.bk.rv.rm,⟨oM,fun x hx=>(h2.2 x hx).M⟩,⟨oM,fun x hx=>?_⟩⟩;have:=h3.2 x hx;unfold Lv.Ok at this;omega
theorem St.Ok.M {s:St}(h:s.Ok)(c:s.cn 1000000):s.M:=by
 have h1:=h.ses;have h2:=h.obs;have hc:=c;unfold St.cn at hc;exact⟨h.a.M,h.bk.rv.rm,oM,oM,⟨oM,fun x hx=>(h1.2 x hx).M⟩,⟨oM,fun x hx=>(h2.2 x hx).M⟩⟩
theorem St.M0:(default:St).M:=by
 refine⟨⟨⟨by decide,?_⟩,⟨by decide,?_⟩,by decide,?_,⟨by decide,?_⟩,⟨by decide,?_⟩⟩,?_,by decide,by decide,⟨by decide,?_⟩,⟨by decide,?_⟩⟩;all_goals first | exact⟨.nil,sM⟩ | exact (BkS.rv (act:=0) (.inl rfl)).rm | (intro x hx;exact absurd hx (by simp[default,instInhabitedSt.default,instInhabitedSa.default]))
theorem jGd {s:St}{m:Int}(h:(qH4 s m).2≠0):(qH4 s m).1=default:=by
 unfold qH4 at *;split
 ·rfl
 rw[if_neg ‹_›] at h;split
 ·rfl
 rw[if_neg ‹_›] at h;split
 ·rfl
 rw[if_neg ‹_›] at h;split
 ·rw[if_pos ‹_›] at h;exact absurd rfl h
 ·rw[if_neg ‹_›] at h;exact absurd rfl h
theorem jFu {s:St}{m:Int}(h:(qPe s m).2≠0):(qPe s m).1=default:=by
 unfold qPe at *;split
 ·rfl
 rw[if_neg ‹_›] at h;split
 ·rw[if_pos ‹_›] at h;exact absurd rfl h
 rw[if_neg ‹_›] at h;split
 ·rw[if_pos ‹_›] at h;exact absurd rfl h
 ·rfl
theorem zBy {s:St}{m:Int}(h:s.Ok)(c:s.cn 100000):(qH4 s m).1.M:=by
 by_cases e:(qH4 s m).2=0
 ·have g:=zOq h e;exact g.1.M ((g.2 _ c).le oM)
 ·rw[jGd e];exact St.M0
theorem zVt {s:St}{m:Int}(h:s.Ok)(c:s.cn 100000):(qPe s m).1.M:=by
 by_cases e:(qPe s m).2=0
 ·have g:=zEx h e;exact g.1.M ((g.2 _ c).le oM)
 ·rw[jFu e];exact St.M0
theorem qPk  (s:St)(n:Int)(hp:s.Ok∧nnI n) :
  yT.1.wp tab gl (qD 0 [.t (stA s),.t (.int .i64 n)]) (qD 0 []) (qY [(4,none)] 0 (qAt.K (s,n))):=by
 obtain⟨hs,hn⟩:=hp;have l1:=hs.a.ix;have m9:n.tmod 9=n%9:=Int.tmod_eq_emod_of_nonneg hn.1;have m5:n.tmod 5=n%5:=Int.tmod_eq_emod_of_nonneg hn.1;by_cases c0:0<s.a.ix.length
 ·have ml:n.tmod (s.a.ix.length:Int)=n%(s.a.ix.length:Int):=Int.tmod_eq_emod_of_nonneg hn.1;have hm:0≤n%(s.a.ix.length:Int)∧n%(s.a.ix.length:Int)<s.a.ix.length:=⟨Int.emod_nonneg _ oM,Int.emod_lt_of_pos _ oM⟩;by_cases c1:n%9<8
  ·obtain⟨j,hj⟩ : ∃ j:Nat,n%(s.a.ix.length:Int)=j:=⟨(n%(s.a.ix.length:Int)).toNat,oM⟩;rw[hj] at ml hm;obtain⟨x,hg,hm',_⟩:=qQ (l:=s.a.ix) (k:=j) oM;have hx:=(l1.2 x hm').1;simp(maxSteps:=9^9)(disch:=try exact dS)only[go_sem,yT,stA,c0,m9,ml,c1,hm,hg,oms,ixA];exact zXn (256+x.n) oM rfl rfl
  ·simp(maxSteps:=9^9)(disch:=try exact dS)only[go_sem,yT,stA,c0,m9,m5,c1];exact zXn (256+n%5) oM rfl rfl
 ·simp(maxSteps:=9^9)(disch:=try exact dS)only[go_sem,yT,stA,c0,m5];exact zXn (256+n%5) oM rfl rfl
theorem qYu  (s:St)(n k:Int)(hp:s.Ok∧nnI n) :
  qEo.1.wp tab gl (qD 0 [.t (stA s),.t (.int .i64 n),.t (.int .i64 k)]) (qD 0 []) (qY [(6,none)] 0 (qB4.K (s,n,k))):=by
 obtain⟨hs,hn⟩:=hp;have l1:=hs.obs;have m3:n.tmod 3=n%3:=Int.tmod_eq_emod_of_nonneg hn.1;simp(maxSteps:=9^9)(disch:=try exact dS)only[go_sem,qEo,stA];refine qF 3 (fun i=>[(1,.t (.int .i64 n)),(2,.t (.int .i64 k)),(3,.ref 4096 0 0),(7,.t (.int .i64 (i:Nat)))]) (fun i=>[(4096,.live 30 [.t (stA s)] true true)]) (qI.rd id ?_ ?_ rfl) (fun i hi=>?_)
 ·simp(maxSteps:=9^9)(disch:=try exact dS)only[go_sem,id,stA]
 ·simp(maxSteps:=9^9)(disch:=try exact dS)only[go_sem,id,stA]
 by_cases c0:i<3
 rotate_left
 ·obtain rfl:i=3:=oM;simp(maxSteps:=9^9)(disch:=try exact dS)only[go_sem,m3];exact zYd (512+n%3) oM rfl rfl
 have m4:(n+(i:Int)).tmod 3=(n+(i:Int))%3:=Int.tmod_eq_emod_of_nonneg oM;obtain⟨j,hj⟩ : ∃ j:Nat,(n+(i:Int))%3=j:=⟨((n+(i:Int))%3).toNat,oM⟩;have hj3:j<3:=oM;obtain⟨x,hg,hm,_⟩:=qQ (l:=s.obs) (k:=j) oM;rw[hj] at m4;by_cases c5:x.p.kd=0
 ·simp(maxSteps:=9^9)(disch:=try exact dS)only[go_sem,stA,c0,m4,hj3,hg,oms,vF,l1.1,c5];refine qI.rd id ?_ ?_ rfl;all_goals simp(maxSteps:=9^9)(disch:=try exact dS)only[go_sem,id,stA]
 by_cases c6:k=0
 ·subst c6;simp(maxSteps:=9^9)(disch:=try exact dS)only[go_sem,stA,c0,m4,hj3,hg,oms,vF,l1.1,c5];exact zYd (((512+j:Nat)):Int) oM rfl rfl
 by_cases c7:x.p.kd=k
 ·subst c7;simp(maxSteps:=9^9)(disch:=try exact dS)only[go_sem,stA,c0,m4,hj3,hg,oms,vF,l1.1,c5,c6];exact zYd (((512+j:Nat)):Int) oM rfl rfl
 ·simp(maxSteps:=9^9)(disch:=try exact dS)only[go_sem,stA,c0,m4,hj3,hg,oms,vF,l1.1,c5,c6,c7];refine qI.rd id ?_ ?_ rfl;all_goals simp(maxSteps:=9^9)(disch:=try exact dS)only[go_sem,id,stA]
theorem qKs  (s:St)(n k:Int)(hp:s.Ok∧nnI n) :
  wW.1.wp tab gl (qD 0 [.t (stA s),.t (.int .i64 n),.t (.int .i64 k)]) (qD 0 []) (qY [(6,none)] 0 (xS.K (s,n,k))):=by
 obtain⟨hs,hn⟩:=hp;have l1:=hs.ses;have m3:n.tmod 3=n%3:=Int.tmod_eq_emod_of_nonneg hn.1;simp(maxSteps:=9^9)(disch:=try exact dS)only[go_sem,wW,stA];refine qF 3 (fun i=>[(1,.t (.int .i64 n)),(2,.t (.int .i64 k)),(3,.ref 4096 0 0),(7,.t (.int .i64 (i:Nat)))]) (fun i=>[(4096,.live 30 [.t (stA s)] true true)]) (qI.rd id ?_ ?_ rfl) (fun i hi=>?_)
 ·simp(maxSteps:=9^9)(disch:=try exact dS)only[go_sem,id,stA]
 ·simp(maxSteps:=9^9)(disch:=try exact dS)only[go_sem,id,stA]
 by_cases c0:i<3
 rotate_left
 ·obtain rfl:i=3:=oM;simp(maxSteps:=9^9)(disch:=try exact dS)only[go_sem,m3];exact zZ4 (768+n%3) oM rfl rfl
 have m4:(n+(i:Int)).tmod 3=(n+(i:Int))%3:=Int.tmod_eq_emod_of_nonneg oM;obtain⟨j,hj⟩ : ∃ j:Nat,(n+(i:Int))%3=j:=⟨((n+(i:Int))%3).toNat,oM⟩;have hj3:j<3:=oM;obtain⟨x,hg,hm,_⟩:=qQ (l:=s.ses) (k:=j) oM;rw[hj] at m4;by_cases c5:x.kd=0
 ·simp(maxSteps:=9^9)(disch:=try exact dS)only[go_sem,stA,c0,m4,hj3,hg,oms,zZ,l1.1,c5];refine qI.rd id ?_ ?_ rfl;all_goals simp(maxSteps:=9^9)(disch:=try exact dS)only[go_sem,id,stA]
 by_cases c6:k=0
 ·subst c6;simp(maxSteps:=9^9)(disch:=try exact dS)only[go_sem,stA,c0,m4,hj3,hg,oms,zZ,l1.1,c5];exact zZ4 (((768+j:Nat)):Int) oM rfl rfl
 by_cases c7:x.kd=k
 ·subst c7;simp(maxSteps:=9^9)(disch:=try exact dS)only[go_sem,stA,c0,m4,hj3,hg,oms,zZ,l1.1,c5,c6];exact zZ4 (((768+j:Nat)):Int) oM rfl rfl
 ·simp(maxSteps:=9^9)(disch:=try exact dS)only[go_sem,stA,c0,m4,hj3,hg,oms,zZ,l1.1,c5,c6,c7];refine qI.rd id ?_ ?_ rfl;all_goals simp(maxSteps:=9^9)(disch:=try exact dS)only[go_sem,id,stA]
theorem qYt {g1}(h1:LkE tab 123 qAt g1){g2}(h2:LkE tab 116 qB4 g2)(s:St)(n:Int)(hp:s.Ok∧nnI n) :
  kY.1.wp tab gl (qD 0 [.t (stA s),.t (.int .i64 n)]) (qD 0 []) (qY [(4,none)] 0 (qDs.K (s,n))):=by
 obtain⟨hs,hn⟩:=hp;have m3:n.tmod 3=n%3:=Int.tmod_eq_emod_of_nonneg hn.1;have d3:n.tdiv 3=n/3:=Int.tdiv_eq_ediv_of_nonneg hn.1;have m4:(n/3).tmod 4=n/3%4:=Int.tmod_eq_emod_of_nonneg oM;obtain⟨a,ha,e1⟩:=zG1 (g:=g1) (s:=s) (n:=n/3) ⟨hs,oM,oM⟩;obtain⟨b,hb,e2⟩:=qTg (g:=g2) (s:=s) (n:=n/3) (k:=0) ⟨hs,oM,oM⟩;simp only[stA] at e1 e2;by_cases c0:n%3=0
 ·simp(maxSteps:=9^9)(disch:=try exact dS)only[go_sem,kY,stA,c0,m3,d3,m4];exact zW4 (n/3%4) oM rfl rfl
 by_cases c1:n%3=1
 ·simp(maxSteps:=9^9)(disch:=try exact dS)only[go_sem,kY,stA,h1,e1,c1,m3,d3];exact zW4 a ha rfl rfl
 ·simp(maxSteps:=9^9)(disch:=try exact dS)only[go_sem,kY,stA,h2,e2,c0,c1,m3,d3];exact zW4 b hb rfl rfl
theorem qBa {s:St}(h:s.Ok):s.Go 0 (jH s.a):=by
 have hd:=h.dr;have hu:=h.u;refine⟨⟨h.a,.inl rfl,?_,?_,?_,⟨rfl,?_⟩,⟨rfl,?_⟩⟩,fun m hm=>?_⟩
 ·show (0:Int)≤0;omega
 ·show (0:Int)≤0∧(0:Int)≤1099511627776;omega
 ·show (0:Int)≤0;omega
 ·intro x hx;simp only[jH,List.mem_cons,List.not_mem_nil,or_false] at hx;rcases hx with rfl | rfl | rfl<;>exact Ses.ok0
 ·intro x hx;simp only[jH,List.mem_cons,List.not_mem_nil,or_false] at hx;rcases hx with rfl | rfl | rfl<;>exact Obj.ok0
 ·unfold St.cn at *;simp only[jH,List.length_nil];omega
theorem zFa {g1}(h1:LkE tab 11 kF g1){g2}(h2:LkE tab 16 xT g2)(s:St)(hp:s.Ok∧s.cn 1000000) :
  qD7.1.wp tab gl (qD 0 [.t (stA s)]) (qD 0 []) (qY [(2,(some (30,true)))] 0 (qJw.K s)):=by
 obtain⟨hs,hc⟩:=hp;by_cases c0:s.on=true
 ·simp(maxSteps:=9^9)(disch:=try exact dS)only[go_sem,qD7,stA,c0];exact jHp s ⟨St.go_rfl hs oM,c0⟩ (by simp only[stA,c0]) rfl
 have c0:s.on=false:=by simpa using c0
 have g0:=qBa hs;have e1 := @kA g1 s.a;obtain⟨t,e,⟨ht,he⟩,e2⟩:=yO (g:=g2) (s:=jH s.a) (m:=0) ⟨g0.1.a,(g0.2 _ hc).le oM⟩;have hS:qH4 (jH s.a) 0=(zDp (jH s.a),0):=by simp[qH4,jH]
 rw[hS] at ht he;simp only at ht he;subst he;have hgo:s.Go 1 t:=by rw[ht];exact⟨(qT9 g0.1).1,(g0.2.trans (qT9 g0.1).2).le oM⟩
 have hon:t.on=true:=by rw[ht];rfl
 clear ht;simp only[stA,saA,jH,mcn] at e1 e2;simp(maxSteps:=9^9)(disch:=try exact dS)only[go_sem,qD7,stA,h1,h2,e1,e2,c0];repeat refine aiG ?_
 exact jHp t ⟨hgo,hon⟩ rfl rfl
theorem Rq.B.auth {co:Int}{hh:List Int}{au:List Az}{ns:List Int}{bl:List (List UInt8)}(h:(Rq.mk co hh au ns bl).B)(a:Az)(l1:a.no.length≤4000)(l2:a.va.length≤4000):(Rq.mk co hh [a] ns bl).B:=by
 obtain⟨b1,_,b3,b4,b5,_⟩:=h;refine⟨b1,sM,b3,b4,b5,?_⟩;intro x hx;simp only[List.mem_cons,List.not_mem_nil,or_false] at hx;subst hx;exact⟨l1,l2⟩
theorem qRf {g1}(h1:LkE tab 146 qJv g1){g2}(h2:LkE tab 118 xS g2){g3}(h3:LkE tab 145 qBc g3)(h4:LkC tab 113 vB){g5}(h5:LkE tab 175 qMv g5){g6}(h6:LkE tab 152 qI2 g6){g7}(h7:LkE tab 151 qI5 g7)(s:St)(q:Rq)(m:Int)(b:List UInt8)(hp:s.Ok∧(q.B∧1≤q.hs.length)∧nnI m∧b.length≤60) :
  zG.1.wp tab gl (qD 0 [.t (stA s),.t (rqA q),.t (.int .i64 m),.t (.sl (b.map qA))]) (qD 0 []) (qY [(8,(some (5,true)))] 0 (qDq.K (s,q,m,b))):=by
 obtain⟨hs,⟨hq,h1q⟩,hm,hb⟩:=hp;obtain⟨co,hh,au,ns,bl⟩:=q;obtain⟨x0,g0,_,hd⟩:=qQ (l:=hh) (k:=0) (by simp only at h1q;omega);have m8:m.tmod 8=m%8:=Int.tmod_eq_emod_of_nonneg hm.1;have d8:m.tdiv 8=m/8:=Int.tdiv_eq_ediv_of_nonneg hm.1;have m16:m.tmod 16=m%16:=Int.tmod_eq_emod_of_nonneg hm.1;obtain⟨v,lv,e1⟩:=zV6 (g:=g1) (s:=s) (h:=x0) hs;have n8:nnI (m/8):=⟨oM,oM⟩;simp only[stA] at e1;rcases (by omega:m%8=0∨m%8=1∨m%8=2∨m%8=3∨m%8=4∨m%8=5∨m%8=6∨m%8=7) with c | c | c | c | c | c | c | c
 ·simp(maxSteps:=9^9)(disch:=try exact dS)only[go_sem,zG,stA,rqA,g0,oms,iT,h1,e1,m8,c,mcn];repeat refine aiG ?_
  exact qSu ⟨co,hh,[⟨0,[],v++[1]⟩],ns,bl⟩ (hq.auth _ sM soM) (by simp[rqA,azA,List.take_of_length_le]) rfl
 ·obtain⟨y,hy,e2⟩:=qK4 (g:=g2) (s:=s) (n:=m/8) (k:=1) ⟨hs,n8⟩;obtain⟨x,e,⟨hx,_⟩,e3⟩:=qOo (g:=g3) (s:=s) (h:=y) ⟨hs,oM,oM⟩;simp only[stA] at e2;by_cases z:e=0
  rotate_left
  ·simp only[stA,zZ] at e3;simp(maxSteps:=9^9)(disch:=try exact dS)only[go_sem,zG,stA,rqA,g0,oms,iT,h1,h2,h3,e1,e2,e3,m8,d8,c,z,mcn];repeat refine aiG ?_
   exact qSu ⟨co,hh,[⟨y,[],v⟩],ns,bl⟩ (hq.auth _ sM soM) (by simp[rqA,azA]) rfl
  by_cases k:x.kd=1
  rotate_left
  ·simp only[stA,zZ] at e3;simp(maxSteps:=9^9)(disch:=try exact dS)only[go_sem,zG,stA,rqA,g0,oms,iT,h1,h2,h3,e1,e2,e3,m8,d8,c,z,k,mcn];repeat refine aiG ?_
   exact qSu ⟨co,hh,[⟨y,[],v⟩],ns,bl⟩ (hq.auth _ sM soM) (by simp[rqA,azA]) rfl
  have hx2:=hx.2.1;have l16:(b.take 16).length≤16:=soM;have f16:vB.fs [.t (.sl (b.map qA)),.t (.int .i64 16)] []=some (.t (.sl ((b.take 16).map qA)),[]):=qA2 (n:=16) ⟨oM,oM⟩;generalize b.take 16=no at *;obtain⟨l,hl,e5⟩:=zU9 (g:=g5) (s:=s) (q:=⟨co,hh,au,ns,bl⟩) ⟨hs,hq.1⟩;obtain⟨d,ld,e6⟩:=zKp (g:=g6) (l:=l) (q:=⟨co,hh,au,ns,bl⟩) ⟨hl,hq⟩;obtain⟨w,lw,e7⟩:=zKt (g:=g7) (v:=v) (d:=d) (m:=x.no) (c:=no) ⟨oM,oM,oM,oM⟩;simp only[stA,zZ,rqA] at e3 e5 e6;simp(maxSteps:=9^9)(disch:=try exact dS)only[go_sem,zG,stA,rqA,g0,oms,iT,h1,h2,h3,h4,h5,h6,h7,e1,e2,e3,f16,e5,e6,e7,m8,d8,c,z,k,mcn];repeat refine aiG ?_
  exact qSu ⟨co,hh,[⟨y,no,w⟩],ns,bl⟩ (hq.auth _ soM (by simp only;omega)) (by simp[rqA,azA,List.take_of_length_le]) rfl
 ·obtain⟨y,hy,e2⟩:=qK4 (g:=g2) (s:=s) (n:=m/8) (k:=1) ⟨hs,n8⟩;obtain⟨x,e,⟨hx,_⟩,e3⟩:=qOo (g:=g3) (s:=s) (h:=y) ⟨hs,oM,oM⟩;simp only[stA] at e2;by_cases z:e=0
  rotate_left
  ·simp only[stA,zZ] at e3;simp(maxSteps:=9^9)(disch:=try exact dS)only[go_sem,zG,stA,rqA,g0,oms,iT,h1,h2,h3,e1,e2,e3,m8,d8,c,z,mcn];repeat refine aiG ?_
   exact qSu ⟨co,hh,[⟨y,[],v⟩],ns,bl⟩ (hq.auth _ sM soM) (by simp[rqA,azA]) rfl
  by_cases k:x.kd=1
  rotate_left
  ·simp only[stA,zZ] at e3;simp(maxSteps:=9^9)(disch:=try exact dS)only[go_sem,zG,stA,rqA,g0,oms,iT,h1,h2,h3,e1,e2,e3,m8,d8,c,z,k,mcn];repeat refine aiG ?_
   exact qSu ⟨co,hh,[⟨y,[],v⟩],ns,bl⟩ (hq.auth _ sM soM) (by simp[rqA,azA]) rfl
  have hx2:=hx.2.1;have l16:(b.take 16).length≤16:=soM;have f16:vB.fs [.t (.sl (b.map qA)),.t (.int .i64 16)] []=some (.t (.sl ((b.take 16).map qA)),[]):=qA2 (n:=16) ⟨oM,oM⟩;generalize b.take 16=no at *;obtain⟨l,hl,e5⟩:=zU9 (g:=g5) (s:=s) (q:=⟨co,hh,au,ns,bl⟩) ⟨hs,hq.1⟩;obtain⟨d,ld,e6⟩:=zKp (g:=g6) (l:=l) (q:=⟨co,hh,au,ns,bl⟩) ⟨hl,hq⟩;obtain⟨w,lw,e7⟩:=zKt (g:=g7) (v:=v) (d:=d) (m:=x.no) (c:=no) ⟨oM,oM,oM,oM⟩;simp only[stA,zZ,rqA] at e3 e5 e6;by_cases c16:m%16=2
  ·simp(maxSteps:=9^9)(disch:=try exact dS)only[go_sem,zG,stA,rqA,g0,oms,iT,h1,h2,h3,h4,h5,h6,h7,e1,e2,e3,f16,e5,e6,e7,m8,d8,c,z,k,m16,c16,mcn];repeat refine aiG ?_
   exact qSu ⟨co,hh,[⟨y,no++[1],w⟩],ns,bl⟩ (hq.auth _ soM (by simp only;omega)) (by simp[rqA,azA,List.take_of_length_le]) rfl
  ·simp(maxSteps:=9^9)(disch:=try exact dS)only[go_sem,zG,stA,rqA,g0,oms,iT,h1,h2,h3,h4,h5,h6,h7,e1,e2,e3,f16,e5,e6,e7,m8,d8,c,z,k,m16,c16,mcn];repeat refine aiG ?_
   exact qSu ⟨co,hh,[⟨y,no,w⟩],ns,bl⟩ (hq.auth _ soM (by simp only;omega)) (by simp[rqA,azA,List.take_of_length_le]) rfl
 ·obtain⟨y,hy,e2⟩:=qK4 (g:=g2) (s:=s) (n:=m/8) (k:=2) ⟨hs,n8⟩;simp only[stA] at e2;simp(maxSteps:=9^9)(disch:=try exact dS)only[go_sem,zG,stA,rqA,g0,oms,iT,h1,h2,e1,e2,m8,d8,c,mcn];repeat refine aiG ?_
  exact qSu ⟨co,hh,[⟨y,[],v⟩],ns,bl⟩ (hq.auth _ sM soM) (by simp[rqA,azA]) rfl
 ·obtain⟨y,hy,e2⟩:=qK4 (g:=g2) (s:=s) (n:=m/8) (k:=2) ⟨hs,n8⟩;simp only[stA] at e2;simp(maxSteps:=9^9)(disch:=try exact dS)only[go_sem,zG,stA,rqA,g0,oms,iT,h1,h2,e1,e2,m8,d8,c,mcn];repeat refine aiG ?_
  exact qSu ⟨co,hh,[⟨y,[],v⟩],ns,bl⟩ (hq.auth _ sM soM) (by simp[rqA,azA]) rfl
 all_goals
  simp(maxSteps:=9^9)(disch:=try exact dS)only[go_sem,zG,stA,rqA,g0,oms,iT,h1,e1,m8,c,mcn];repeat refine aiG ?_
  exact qSu ⟨co,hh,[⟨0,[],v⟩],ns,bl⟩ (hq.auth _ sM soM) (by simp[rqA,azA]) rfl
end Go.Eng
end
