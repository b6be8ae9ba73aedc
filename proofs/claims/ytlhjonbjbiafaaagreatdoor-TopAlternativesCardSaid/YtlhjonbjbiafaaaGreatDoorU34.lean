/- A part of an abstract machine, its walks, their tie. -/
import Derived.Test.YtlhjonbjbiafaaaGreatDoorU30
import Derived.Test.YtlhjonbjbiafaaaGreatDoorU32
set_option linter.all false
section
set_option maxHeartbeats 64000000
set_option maxRecDepth 20000
namespace Go.Eng
variable (tab:Tab) (gl:Gl)
variable {vv:V} {oo:List Ob}
def brD (cs:List UInt8)(m:Int):List UInt8:=rgD (qTm cs (qHc cs)).bk 0 m
def brP (cs:List UInt8)(m:Int):List UInt8:=qU9 z32 (.reg 0 m (brD cs m))
theorem qBl {cs:List UInt8}{m:Int}:(brP cs m).length=32:=qDr
theorem qJq {cs:List UInt8}{m:Int}:(brD cs m).length=32:=zEr
theorem jCi {cs:List UInt8}{m:Int}(hm:0≤m∧m≤65535):qGd.fs [.t (mgA (qTm cs (qHc cs))),.t (.agg [.int .i64 0,.int .i64 m])] []=some (.tup [.sl 0 0 32,.t (.int .i64 0)],[.live 1 (((brD cs m).map qA).map V.t) true false]):=
 zLb (qTn cs _).1.rv (zLa (qTn cs _).1 hm)
theorem jCj {cs:List UInt8}{m:Int}(hm:0≤m∧m≤65535):qK0.fs [.t (.sl [.agg [.int .i64 1,.int .i64 0,.int .i64 m,.sl ((brD cs m).map qA),.int .i64 0,.int .i64 0,.sl [],.sl [],.sl [],.sl []]])] []=some (.t (.sl ((brP cs m).map qA)),[]):=
 zEn (a:= .reg 0 m (brD cs m)) ⟨oM,hm,qJq⟩
theorem zW3 {bs:List (List UInt8)}(h:(As.alt bs).Ok):qK0.fs [.t (.sl [.agg [.int .i64 8,.int .i64 0,.int .i64 0,.sl [],.int .i64 0,.int .i64 0,.sl [],.sl [],.sl [],.sl (bs.map bsT)]])] []=some (.t (.sl ((qU9 z32 (.alt bs)).map qA)),[]):=zEn h
def brL (b1 b2 b3:List UInt8)(two:Bool):Nat→List (List UInt8)
 | 0=>[]
 | 1=>[b1]
 | 2=>[b1,b2]
 | _=>if two then [b1,b2] else [b1,b2,b3]
def zLd:ECt where
 α:=List UInt8×List UInt8×List UInt8×List UInt8×Int×List UInt8×Bool
 β:=Bool
 aS:=fun (c1,c2,c3,cn,m,da,two)=>[.t (.sl (c1.map qA)),.t (.sl (c2.map qA)),.t (.sl (c3.map qA)),.t (.sl (cn.map qA)),.t (.int .i64 m),.t (.sl (da.map qA)),.t (.bool two)]
 pre:=fun (c1,c2,c3,cn,m,da,two)=>c1.length≤9223372036854775807∧c2.length≤9223372036854775807∧c3.length≤9223372036854775807∧cn.length≤9223372036854775807∧da.length≤9223372036854775807
 r:=fun r'=> .t (.bool r')
 R:=fun (c1,c2,c3,cn,m,da,two) r'=>r'=true
theorem zEf {c1 c2 c3 cn:List UInt8}{m:Int}{da:List UInt8}{two:Bool}(hV:vv = .t (.bool (true)))(hO:oo=[]):zLd.K (c1,c2,c3,cn,m,da,two) vv oo:=⟨_,rfl,hV,hO⟩
theorem qJn {g1}(h1:LkE tab 5 qI5 g1){g2}(h2:LkE tab 7 qI7 g2)(h3:LkC tab 6 qGd)(h4:LkC tab 8 qK0)(h5:LkC tab 9 qK2){g6}(h6:LkE tab 10 qGr g6){g7}(h7:LkE tab 11 qGs g7){g8}(h8:LkE tab 13 qCk g8){g9}(h9:LkE tab 12 yS g9){g10}(h10:LkE tab 14 qCj g10){g11}(h11:LkE tab 15 kX g11){g12}(h12:LkE tab 16 kE g12){g13}(h13:LkE tab 18 qCi g13)(h14:LkC tab 17 qWn)(c1 c2 c3 cn:List UInt8)(m:Int)(da:List UInt8)(two:Bool)(hp:c1.length≤9223372036854775807∧c2.length≤9223372036854775807∧c3.length≤9223372036854775807∧cn.length≤9223372036854775807∧da.length≤9223372036854775807) :
  vG.1.wp tab gl (qF 0 [.t (.sl (c1.map qA)),.t (.sl (c2.map qA)),.t (.sl (c3.map qA)),.t (.sl (cn.map qA)),.t (.int .i64 m),.t (.sl (da.map qA)),.t (.bool two)]) (qF 0 []) (zD [(14,none)] 0 (zLd.K (c1,c2,c3,cn,m,da,two))):=by
 obtain⟨hc1,hc2,hc3,hcn,hda⟩:=hp;obtain⟨a,rfl,e1⟩ := @zWt g1;by_cases hd:60<da.length
 ·simp(maxSteps:=9^9)(disch:=try exact dS)only[go_sem,vG,h1,e1,hd];first | exact (zEf rfl rfl) | exact⟨rfl,(zEf rfl rfl)⟩ | exact⟨rfl,rfl,(zEf rfl rfl)⟩ | exact⟨rfl,rfl,rfl,(zEf rfl rfl)⟩
 have hd':da.length≤60:=oM;have hm:0≤m%65536∧m%65536≤65535:=oM;have e2:=fun c h=>jId (g:=g2) (cs:=c) h
 have e3:=fun c=>jCi (cs:=c) hm
 have e4:=fun c=>jCj (cs:=c) hm
 have lD:=fun c => @qJq c (m%65536)
 have tD:=fun c=>List.take_of_length_le (l:=brD c (m%65536)) (i:=32) (by rw[qJq];exact Nat.le_refl _)
 simp(maxSteps:=9^9)(disch:=try exact dS)only[go_sem,vG,h1,e1,hd];generalize hmm:m%65536=mm at *;refine qB 3 (fun k=>[(3,.t (.sl (cn.map qA))),(5,.t (.sl (da.map qA))),(6,.t (.bool two)),(15,.ref 24624 0 0),(16,.sl 9001 0 ((brL (brP c1 mm) (brP c2 mm) (brP c3 mm) two k).length)),(45,.sl 32816 0 3),(46,.t (.int .i64 3)),(47,.t (.int .i64 (k:Nat)))]) (fun k=>[(9001,.live 1 (((brL (brP c1 mm) (brP c2 mm) (brP c3 mm) two k).map bsT).map V.t) true false),(24624,.live 1 [.t (.int .i64 0),.t (.int .i64 mm)] true true),(32816,.live 1 [.t (.sl (c1.map qA)),.t (.sl (c2.map qA)),.t (.sl (c3.map qA))] true true)]) ?_ (fun k hk=>?_)
 ·refine qJ.cv0 (hv:=[(9001,.live 1 [] true false)]) (ho:=[(24624,.live 1 [.t (.int .i64 0),.t (.int .i64 mm)] true true),(32816,.live 1 [.t (.sl (c1.map qA)),.t (.sl (c2.map qA)),.t (.sl (c3.map qA))] true true)]) id ?_ ?_ rfl rfl;all_goals simp(maxSteps:=9^9)(disch:=try exact dS)only[go_sem,id]
  all_goals rfl
 have x0:[c1,c2,c3][0]?=some c1:=rfl;have tP:=fun c=>List.take_of_length_le (l:=brP c mm) (i:=32) (by rw[qBl];exact Nat.le_refl _)
 obtain rfl | rfl | rfl | rfl:k=0∨k=1∨k=2∨k=3:=oM
 ·have y2:=e2 c1 hc1;have y3:=e3 c1;have y4:=e4 c1;have y5:=tD c1;have y6:=lD c1;generalize qTm c1 (qHc c1)=g at *;simp(maxSteps:=9^9)(disch:=try exact dS)only[go_sem,zYl,zYn,zYm,zYk,h2,y2,h3,y3,h4,y4,y5,y6,brL];repeat refine aiG ?_
  refine qJ.rd (fun j=>if j=9001 then 53360 else j) ?_ ?_ rfl;all_goals simp(maxSteps:=9^9)(disch:=try exact dS)only[go_sem,id,brL,mcn,qO]
 ·have y2:=e2 c2 hc2;have y3:=e3 c2;have y4:=e4 c2;have y5:=tD c2;have y6:=lD c2;generalize qTm c2 (qHc c2)=g at *;simp(maxSteps:=9^9)(disch:=try exact dS)only[go_sem,zYl,zYn,zYm,zYk,h2,y2,h3,y3,h4,y4,y5,y6,brL];repeat refine aiG ?_
  refine qJ.rd (fun j=>if j=9001 then 53360 else j) ?_ ?_ rfl;all_goals simp(maxSteps:=9^9)(disch:=try exact dS)only[go_sem,id,brL,mcn,qO]
 ·have y2:=e2 c3 hc3;have y3:=e3 c3;have y4:=e4 c3;have y5:=tD c3;have y6:=lD c3;generalize qTm c3 (qHc c3)=g at *;cases two
  ·simp(maxSteps:=9^9)(disch:=try exact dS)only[go_sem,zYl,zYn,zYm,zYk,h2,y2,h3,y3,h4,y4,y5,y6,brL];repeat refine aiG ?_
   refine qJ.rd (fun j=>if j=9001 then 53360 else j) ?_ ?_ rfl;all_goals simp(maxSteps:=9^9)(disch:=try exact dS)only[go_sem,id,brL,mcn,qO]
  ·simp(maxSteps:=9^9)(disch:=try exact dS)only[go_sem,zYl,zYn,zYm,zYk,h2,y2,h3,y3,h4,y4,y5,y6,brL];repeat refine aiG ?_
   refine qJ.rd id ?_ ?_ rfl;all_goals simp(maxSteps:=9^9)(disch:=try exact dS)only[go_sem,id,brL,mcn,qO]
 clear x0;obtain⟨bs,hbs⟩ : ∃ bs,brL (brP c1 mm) (brP c2 mm) (brP c3 mm) two 3=bs:=⟨_,rfl⟩;have hb3:(2≤bs.length∧bs.length≤3) ∧ ∀ b∈bs,b.length=32:=by
  rw[←hbs];cases two
  ·exact⟨by show 2≤3∧3≤3;decide,jBs qBl qBl qBl⟩
  ·exact⟨by show 2≤2∧2≤3;decide,jKb qBl qBl⟩
 have hbA:(As.alt bs).Ok:=⟨oM,hb3.2⟩;rw[hbs];have y2:=e2 cn hcn;have y3:=e3 cn;have y4:=e4 cn;have y5:=tD cn;have hgn:=qTn cn (qHc cn);have hbD:brD cn mm=rgD (qTm cn (qHc cn)).bk 0 mm:=rfl;have hbP:brP cn mm=qU9 z32 (.reg 0 mm (brD cn mm)):=rfl;have lp := @qBl cn mm;have lq := @qJq cn mm;clear e2 e3 e4 tD tP hbs lD;obtain⟨v,ok,⟨rfl,hv⟩,e6⟩:=zO9 (g:=g6) (a:=2) rfl;obtain⟨dk,s,nx,hf,hF,-,-⟩:=zL5;rw[hv,hf] at e6;obtain⟨w,ok,⟨rfl,hw⟩,e7⟩:=zWu (g:=g7) (d:=⟨dk,s,true,nx⟩) (cs:=cn) ⟨⟨hF.hk,rfl,hF.tp,by rw[hF.hu];decide⟩,hcn⟩;rw[hw] at e7;have hyb:=zMu hF.hb cn (qHc cn);obtain⟨T0,u0,a0,dr0,se0,ob0⟩:=qYh hF.tp (by rw[hF.hu];decide) cn (qHc cn) (by unfold qHc;omega);rw[hF.se] at se0;rw[hF.ob] at ob0;rw[hF.hd] at dr0;have hk':=hF.hk;simp only at e7;clear hv hf hw;generalize qWv s cn (qHc cn)=y at *;generalize qTm cn (qHc cn)=g at *;generalize brD cn mm=dn at *;generalize brP cn mm=pn at *;simp(maxSteps:=9^9)(disch:=try exact dS)only[go_sem,zYl,zYn,zYm,zYk,h2,y2,h3,y3,h4,y4,y5,lq];repeat refine aiG ?_
 refine qB bs.length (fun k=>[(3,.t (.sl (cn.map qA))),(5,.t (.sl (da.map qA))),(15,.ref 24624 0 0),(16,.t (.sl (bs.map bsT))),(23,.t (.sl (pn.map qA))),(24,.t (.bool (decide (pn∈bs.take k)))),(25,.t (.int .i64 (k:Nat)))]) (fun k=>[(24624,.live 1 [.t (.int .i64 0),.t (.int .i64 mm)] true true)]) (qJ.cv (hv:=[]) [9001] id ?_ rfl) (fun k hk=>?_)
 ·simp(maxSteps:=9^9)(disch:=try exact dS)only[go_sem,id,List.take_zero,List.take_length];exact⟨rfl,rfl⟩
 rcases (by omega:k<bs.length∨k=bs.length) with c | hke
 ·obtain⟨x,hg,hm',_⟩:=qX c;have hx:=hb3.2 x hm';have e5:=qPp (a:=x) (b:=pn) ⟨oM,oM⟩;have ht:bs.take (k+1)=bs.take k++[x]:=qJl hg;have hdec:decide (pn∈bs.take (k+1))=(decide (pn∈bs.take k)||decide (x=pn)):=by
   rw[ht,Bool.eq_iff_iff];simp only[decide_eq_true_eq,Bool.or_eq_true,List.mem_append,List.mem_cons,List.not_mem_nil,or_false];exact⟨fun h=>h.imp id Eq.symm,fun h=>h.imp id Eq.symm⟩
  generalize decide (pn∈bs.take k)=w at *;cases w
  ·simp(maxSteps:=9^9)(disch:=try exact dS)only[go_sem,c,hg,h5,e5];refine qJ.rd id ?_ ?_ rfl;all_goals simp(maxSteps:=9^9)(disch:=try exact dS)only[go_sem,id,hdec,Bool.false_or]
  ·simp(maxSteps:=9^9)(disch:=try exact dS)only[go_sem,c];refine qJ.rd id ?_ ?_ rfl;all_goals simp(maxSteps:=9^9)(disch:=try exact dS)only[go_sem,id,hdec,Bool.true_or]
 subst hke;clear y2 y3 y4 y5 hgn hF u0 a0;have a4:=zW3 hbA;have hpv : ∀ d,zD3 d (.alt bs)=qU9 z32 (.alt bs):=fun _=>rfl
 have lv:(qU9 z32 (.alt bs)).length=32:=qDr;generalize qU9 z32 (.alt bs)=pv at *;obtain⟨q1,⟨en,nm,f1⟩,T1⟩:=jAw T0 (j:=0) (by rw[ob0];rfl) oM (hh:=0) (po:=pv) (au:=[]) (da:=da) oM lv sM hd';have i8:qCk.fs g8 [.t (.int .i64 0),.t (.int .i64 3),.t (.int .i64 0),.t (.int .i64 0),.t (.sl (pv.map qA)),.t (.sl []),.t (.sl (da.map qA))] []=some (.t (rqA (qC (.pr 0 pv [] da))),[]):=zPc (u:=[]);have m1:yS.fs g9 [.t (dvA ⟨dk,y,true,nx⟩),.t (.int .i64 0),.t (rqA (qC (.pr 0 pv [] da))),.t (.int .i64 1),.t (.int .i64 2)] []=some (.tup [.t (dvA ⟨dk,prS y 0 0 pv [] da,true,nx⟩),.t (rsA ⟨0,[512],[en,nm],[]⟩),.t (.bool true)],[]):=qQ1 hk' T0 q1 f1 rfl ⟨rfl,rfl,rfl⟩;obtain⟨s1,hs1⟩ : ∃ s1,prS y 0 0 pv [] da=s1:=⟨_,rfl⟩;have ses1:s1.ses=[sd,sd,sd]:=by rw[←hs1];exact se0
 have obs1:s1.obs[0]?=some (qHk y 0 pv [] da):=by rw[←hs1];show (y.obs.set 0 _)[0]?=_;rw[ob0];rfl
 have bk1:s1.bk=g.bk:=by rw[←hs1];exact hyb
 have dr1:s1.dr=0:=by rw[←hs1];exact dr0
 rw[hs1] at m1 T1;clear q1 f1 hs1;obtain⟨q2,f2,T2⟩:=jAv T1 (by rw[dr1];decide) (j:=0) (by rw[ses1];rfl) (k:=2) oM;have i10:qCj.fs g10 [.t (.int .i64 2)] []=some (.t (rqA (qC (.op 2))),[]):=zPb;have m2:yS.fs g9 [.t (dvA ⟨dk,s1,true,nx⟩),.t (.int .i64 0),.t (rqA (qC (.op 2))),.t (.int .i64 1),.t (.int .i64 1)] []=some (.tup [.t (dvA ⟨dk,opS s1 0 2,true,nx⟩),.t (rsA ⟨0,[768],[qR1 s1 16],[]⟩),.t (.bool true)],[]):=qQ1 hk' T1 q2 f2 rfl ⟨rfl,rfl,rfl⟩;obtain⟨x2,hx2⟩ : ∃ x2,nwS s1 2=x2:=⟨_,rfl⟩;obtain⟨s2,hs2⟩ : ∃ s2,opS s1 0 2=s2:=⟨_,rfl⟩;have kd2:x2.kd=2:=by rw[←hx2];rfl
 have up2:x2.up = -1:=by rw[←hx2];rfl
 have cm2:x2.cm=0:=by rw[←hx2];rfl
 have lo2:x2.lo=31:=by rw[←hx2];rfl
 have av2:x2.av=false:=by rw[←hx2];rfl
 have dg2:x2.dg=z32:=by rw[←hx2];rfl
 have ses2:s2.ses=[x2,sd,sd]:=by rw[←hs2,←hx2];show s1.ses.set 0 _=_;rw[ses1];rfl
 have obs2:s2.obs[0]?=some (qHk y 0 pv [] da):=by rw[←hs2];exact obs1
 have bk2:s2.bk=g.bk:=by rw[←hs2];exact bk1
 rw[hs2] at m2 T2;clear q2 f2 hs2 hx2;obtain⟨q3,f3,T3⟩:=zT4 T2 (j:=0) (x:=x2) (by rw[ses2];rfl) (.inl kd2) (a:= .reg 0 mm []) ⟨rfl,hm,rfl⟩ (by intros;nofun) (.inl up2) (.inl cm2);have i11:kX.fs g11 [.t (.int .i64 768),.t (.int .i64 1),.t (.agg [.int .i64 0,.int .i64 mm]),.t (.int .i64 0),.t (.int .i64 0),.t (.sl [.sl []])] []=some (.t (rqA (qC (.po 768 (.reg 0 mm [])))),[]):=qU4 (s:=⟨0,mm⟩) (b:=[[]]);have m3:yS.fs g9 [.t (dvA ⟨dk,s2,true,nx⟩),.t (.int .i64 0),.t (rqA (qC (.po 768 (.reg 0 mm [])))),.t (.int .i64 0),.t (.int .i64 0)] []=some (.tup [.t (dvA ⟨dk,poS s2 0 x2 (.reg 0 mm []),true,nx⟩),.t (rsA ⟨0,[],[],[]⟩),.t (.bool true)],[]):=qQ1 hk' T2 q3 f3 rfl ⟨rfl,rfl,rfl⟩;obtain⟨x3,hx3⟩ : ∃ x3,poY s2 x2 (.reg 0 mm [])=x3:=⟨_,rfl⟩;obtain⟨s3,hs3⟩ : ∃ s3,poS s2 0 x2 (.reg 0 mm [])=s3:=⟨_,rfl⟩;have hy3:x3 = { x2 with up:=s2.u,dg:=pn }:=by
  rw[←hx3,poY];simp only[qA9,kd2,if_true];rw[dg2,bk2,←hbD,hbP];rfl
 have ses3:s3.ses=[x3,sd,sd]:=by rw[←hs3,←hx3];show s2.ses.set 0 _=_;rw[ses2];rfl
 have obs3:s3.obs[0]?=some (qHk y 0 pv [] da):=by rw[←hs3];exact obs2
 have u3:s3.u=s2.u:=by rw[←hs3];rfl
 have kd3:x3.kd=2:=by rw[hy3];exact kd2
 have up3:x3.up=s3.u:=by rw[hy3,u3]
 have cm3:x3.cm=0:=by rw[hy3];exact cm2
 have lo3:x3.lo=31:=by rw[hy3];exact lo2
 have av3:x3.av=false:=by rw[hy3];exact av2
 have dg3:x3.dg=pn:=by rw[hy3]
 rw[hs3] at m3 T3;clear q3 f3 hs3 hx3 hy3;obtain⟨q4,f4,T4⟩:=zT4 T3 (j:=0) (x:=x3) (by rw[ses3];rfl) (.inl kd3) (a:= .alt bs) hb3 (by intros;nofun) (.inr up3) (.inl cm3);have i11':kX.fs g11 [.t (.int .i64 768),.t (.int .i64 8),.t (.agg [.int .i64 0,.int .i64 0]),.t (.int .i64 0),.t (.int .i64 0),.t (.sl (bs.map bsT))] []=some (.t (rqA (qC (.po 768 (.alt bs)))),[]):=qU4 (s:=⟨0,0⟩);have i13:qCi.fs g13 [.t (.int .i64 13),.t (.int .i64 512),.t (.sl [])] []=some (.t (rqA ⟨13,[512],[],[],[]⟩),[]):=zPa (b:=[]);have i14 := @zP9 13 [512] [] [] [] 768;have i5:=qPp (a:=da) (b:=da) ⟨oM,oM⟩;rw[show decide (da=da)=true by simp] at i5;have i5':=qPp (a:=pn) (b:=pv) ⟨oM,oM⟩;have hE4:(qA9 s3 x3 (.alt bs)).2.2=if pn∈bs then 0 else 16:=by
  simp only[qA9,kd3,dg3,true_and];by_cases c:pn∈bs<;>simp[c]
 rw[hE4] at f4;by_cases c:pn∈bs
 ·rw[if_pos c,if_pos rfl] at f4;have m4:kE.fs g12 [.t (dvA ⟨dk,s3,true,nx⟩),.t (.int .i64 0),.t (rqA (qC (.po 768 (.alt bs))))] []=some (.tup [.t (dvA ⟨dk,poS s3 0 x3 (.alt bs),true,nx⟩),.t (rsA ⟨0,[],[],[]⟩),.t (.bool true)],[]):=zDm hk' T3 q4 f4 rfl;obtain⟨x4,hx4⟩ : ∃ x4,poY s3 x3 (.alt bs)=x4:=⟨_,rfl⟩;obtain⟨s4,hs4⟩ : ∃ s4,poS s3 0 x3 (.alt bs)=s4:=⟨_,rfl⟩;have hy4:x4 = { x3 with dg:=pv }:=by
   rw[←hx4,poY];simp only[qA9];rw[hpv]
  have ses4:s4.ses=[x4,sd,sd]:=by rw[←hs4,←hx4];show s3.ses.set 0 _=_;rw[ses3];rfl
  have obs4:s4.obs[0]?=some (qHk y 0 pv [] da):=by rw[←hs4];exact obs3
  have u4:s4.u=s3.u:=by rw[←hs4];rfl
  rw[hs4] at m4 T4;clear hs4 hx4;obtain⟨q5,f5,T5⟩:=zOr T4 (i:=0) (j:=0) (x:=x4) (o:=qHk y 0 pv [] da) (v:=[]) (by rw[ses4];rfl) (.inl (by rw[hy4];exact kd3)) obs4 oM rfl sM (fun _=>⟨by rw[hy4];show x3.lo%2=1;rw[lo3];rfl,.inr (by rw[hy4,u4];exact up3),fun h=>rfl⟩);have hu:unE x4 (qHk y 0 pv [] da)=0:=by
   unfold unE;rw[if_pos (by rw[hy4];exact kd3),if_pos (by rw[hy4];rfl)]
  rw[if_pos hu] at f5;have m5:kE.fs g12 [.t (dvA ⟨dk,s4,true,nx⟩),.t (.int .i64 0),.t (rqA (qC (.un 512 768 [])))] []=some (.tup [.t (dvA ⟨dk,qU5 s4 768,true,nx⟩),.t (rsA ⟨0,[],[da],[]⟩),.t (.bool true)],[]):=zDm hk' T4 q5 f5 rfl;have hdc:decide (pn∈bs)=true:=by simpa using c
  clear q4 f4 q5 f5 T1 T2 T3 T4 T5 T0 hu hy4 hE4 hpv;generalize qU5 _ _=s5 at m5;generalize qR1 _ _=rb at m2;generalize qC (.pr 0 pv [] da)=r1 at *;generalize qC (.op 2)=r2 at *;generalize qC (.po 768 (.reg 0 mm []))=r3 at *;generalize qC (.po 768 (.alt bs))=r4 at *;generalize (⟨13,[512],[],[],[]⟩:Rq)=r6 at *;simp only[rsA,iT,mcn,qO] at m1 m2 m3 m4;simp only[rsA,rqA,qC,azA,iT,mcn,qO] at m5;simp only[iT,mcn] at i14;simp(maxSteps:=9^9)(disch:=try exact dS)only[go_sem,qX5,qYv,qX7,qYx,qX6,qYw,qX4,qYu,iT,mcn,qO,List.take_length,hdc,h4,a4,h6,e6,h7,e7,h8,i8,h9,m1,h10,i10,m2,h11,i11,m3,i11',h12,m4,h13,i13,h14,i14,m5,h5,i5];repeat refine aiG ?_
  exact zEf rfl rfl
 ·rw[if_neg c,if_neg (by decide)] at f4;have m4:kE.fs g12 [.t (dvA ⟨dk,s3,true,nx⟩),.t (.int .i64 0),.t (rqA (qC (.po 768 (.alt bs))))] []=some (.tup [.t (dvA ⟨dk,s3,true,nx⟩),.t (rsA ⟨16,[],[],[]⟩),.t (.bool true)],[]):=zDm hk' T3 q4 f4 rfl;obtain⟨q5,f5,T5⟩:=zOr T3 (i:=0) (j:=0) (x:=x3) (o:=qHk y 0 pv [] da) (v:=[]) (by rw[ses3];rfl) (.inl kd3) obs3 oM rfl sM (fun _=>⟨by rw[lo3];rfl,.inr up3,fun h=>rfl⟩);have hdc:decide (pn∈bs)=false:=by simpa using c
  have hu:unE x3 (qHk y 0 pv [] da)=if pn=pv then 0 else 11:=by
   unfold unE;rw[if_pos kd3,dg3];rfl
  rw[hu] at f5;by_cases c5:pn=pv
  ·rw[if_pos c5,if_pos rfl] at f5;rw[show decide (pn=pv)=true by simpa using c5] at i5';have m5:kE.fs g12 [.t (dvA ⟨dk,s3,true,nx⟩),.t (.int .i64 0),.t (rqA (qC (.un 512 768 [])))] []=some (.tup [.t (dvA ⟨dk,qU5 s3 768,true,nx⟩),.t (rsA ⟨0,[],[da],[]⟩),.t (.bool true)],[]):=zDm hk' T3 q5 f5 rfl;clear q4 f4 q5 f5 T1 T2 T3 T4 T5 T0 hu hE4 hpv c5;generalize qU5 _ _=s5 at m5;generalize qR1 _ _=rb at m2;generalize qC (.pr 0 pv [] da)=r1 at *;generalize qC (.op 2)=r2 at *;generalize qC (.po 768 (.reg 0 mm []))=r3 at *;generalize qC (.po 768 (.alt bs))=r4 at *;generalize (⟨13,[512],[],[],[]⟩:Rq)=r6 at *;simp only[rsA,iT,mcn,qO] at m1 m2 m3 m4;simp only[rsA,rqA,qC,azA,iT,mcn,qO] at m5;simp only[iT,mcn] at i14;simp(maxSteps:=9^9)(disch:=try exact dS)only[go_sem,qX5,qYv,qX7,qYx,qX6,qYw,qX4,qYu,iT,mcn,qO,List.take_length,hdc,h4,a4,h6,e6,h7,e7,h8,i8,h9,m1,h10,i10,m2,h11,i11,m3,i11',h12,m4,h13,i13,h14,i14,m5,h5,i5,i5'];repeat refine aiG ?_
   exact zEf rfl rfl
  ·rw[if_neg c5,if_neg (by decide)] at f5;rw[show decide (pn=pv)=false by simpa using c5] at i5';have m5:kE.fs g12 [.t (dvA ⟨dk,s3,true,nx⟩),.t (.int .i64 0),.t (rqA (qC (.un 512 768 [])))] []=some (.tup [.t (dvA ⟨dk,s3,true,nx⟩),.t (rsA ⟨11,[],[],[]⟩),.t (.bool true)],[]):=zDm hk' T3 q5 f5 rfl;clear q4 f4 q5 f5 T1 T2 T3 T4 T5 T0 hu hE4 hpv c5;generalize qR1 _ _=rb at m2;generalize qC (.pr 0 pv [] da)=r1 at *;generalize qC (.op 2)=r2 at *;generalize qC (.po 768 (.reg 0 mm []))=r3 at *;generalize qC (.po 768 (.alt bs))=r4 at *;generalize (⟨13,[512],[],[],[]⟩:Rq)=r6 at *;simp only[rsA,iT,mcn,qO] at m1 m2 m3 m4;simp only[rsA,rqA,qC,azA,iT,mcn,qO] at m5;simp only[iT,mcn] at i14;simp(maxSteps:=9^9)(disch:=try exact dS)only[go_sem,qX5,qYv,qX7,qYx,qX6,qYw,qX4,qYu,iT,mcn,qO,List.take_length,hdc,h4,a4,h6,e6,h7,e7,h8,i8,h9,m1,h10,i10,m2,h11,i11,m3,i11',h12,m4,h13,i13,h14,i14,m5,h5,i5,i5'];repeat refine aiG ?_
   exact zEf rfl rfl
end Go.Eng
end
section
set_option maxRecDepth 100000
namespace Go.Eng
open Go.Proofs Go.Proofs.YtlhjonbjbiafaaaGreatDoor
theorem qHl (c1 c2 c3 cn:List UInt8)(m:Int)(da:List UInt8)(two:Bool)(hp:c1.length≤9223372036854775807∧c2.length≤9223372036854775807∧c3.length≤9223372036854775807∧cn.length≤9223372036854775807∧da.length≤9223372036854775807):zDf Tryz.prog gl0 3 [.t (.sl (c1.map qA)),.t (.sl (c2.map qA)),.t (.sl (c3.map qA)),.t (.sl (cn.map qA)),.t (.int .i64 m),.t (.sl (da.map qA)),.t (.bool two)] [] (.t (.bool true)) []:=jGv _ _ _ _ jIk.h (jP5 (qJn jIk.t gl0  rfl rfl rfl rfl rfl rfl rfl rfl rfl rfl rfl rfl rfl rfl c1 c2 c3 cn m da two hp) (by rintro _ rfl;exact⟨rfl,rfl⟩)) (hann:=vG.2)
end Go.Eng
end
