/- A part of an abstract machine, its walks, their tie. -/
import Derived.Test.YtkffggdjdmimgaaGreatDoorA32
import Derived.Test.YtkffggdjdmimgaaGreatDoorA16
import Derived.Test.YtkffggdjdmimgaaGreatDoorA24
import Derived.Test.YtkffggdjdmimgaaGreatDoorA21
import Derived.Test.YtkffggdjdmimgaaGreatDoorA22
import Derived.Test.YtkffggdjdmimgaaGreatDoorA31
import Derived.Test.YtkffggdjdmimgaaGreatDoorA29
import Derived.Test.YtkffggdjdmimgaaGreatDoorA18
import Derived.Lib.MakeNoZero
import Derived.Laws.Externs
import Derived.Test.YtkffggdjdmimgaaGreatDoorA9
set_option linter.all false
section
set_option maxHeartbeats 64000000
set_option maxRecDepth 20000
namespace Go.Eng
open List
variable (tab:Tab) (gl:Gl)
theorem zN9 {s:Rd}{m:Int}(h:s.2.2≠0):(qYh s m).2=s:=by
 obtain⟨b,p,e⟩:=s;have e1:qQ (b,p,e) 1=(0,(b,p,e)):=qT4 h;unfold qYh;rw[e1,if_neg (fun g=>h g.1)]
theorem qQs {s:Rd}{k:Nat}(h:s.2.2≠0):(qQ s k).2=s:=by
 obtain⟨b,p,e⟩:=s;rw[qT4 h]
theorem qFw {s:Rd}{k:Nat}(h:s.2.2≠0):(zF s k).2=s:=by
 obtain⟨b,p,e⟩:=s;rw[zCa h]
theorem zN4 {s:Rd}(h:s.2.2≠0) : ∀ n,(zI8 s n).2=s
 | 0=>rfl
 | n+1=>by
  have ih:=zN4 h n;show (zF (zI8 s n).2 4096).2=s;rw[ih,qFw h]
theorem jAi {s:Rd}(h:s.2.2≠0):(jEk s).2=s:=by
 have e:=qFw (k:=4096) h;unfold jEk;rw[e,if_pos h]
theorem jAc {s:Rd}(h:s.2.2≠0):(zRf s).2=s:=by
 have e1:=fun k=>qQs (k:=k) h
 have e2:=qFw (k:=4096) h;have e3:=zN9 (m:=1) h;unfold zRf;simp only[e1,e2,e3]
theorem zOb {s:Rd}(h:s.2.2≠0) : ∀ n,(zRi s n).2=s
 | 0=>rfl
 | n+1=>by
  have ih:=zOb h n;show (zRf (zRi s n).2).2=s;rw[ih,jAc h]
theorem zN6 {s:Rd}(h:s.2.2≠0) : ∀ n,(zRg s n).2=s
 | 0=>rfl
 | n+1=>by
  have ih:=zN6 h n;show (qQ (zF (zRg s n).2 4096).2 1).2=s;rw[ih,qFw h,qQs h]
theorem jAh {s:Rd}(h:s.2.2≠0):(zRh s).2=s:=by
 have e1:=fun k=>qQs (k:=k) h
 have e2:=qFw (k:=4096) h;have e3:=fun m=>zN9 (m:=m) h
 have e4:=zN4 h;have e5:=jAi h;have e6:=zOb h;have e7:=zN6 h;unfold zRh;simp only[e1,e2,e3,e4,e5,e6,e7]
theorem zHk {s:Rd}(h:s.2.2≠0):kF s=s.2.2:=if_neg (fun g=>h g.1)
noncomputable def jKe (s:Rd):Sa×Int:=if kF (zRh s).2≠0 then (default,kF (zRh s).2) else ((zRh s).1,0)
theorem zM7 {s:Rd}(h:s.2.2≠0):jKe s=(default,s.2.2):=by
 unfold jKe;rw[jAh h,zHk h,if_pos h]
theorem zAv (h1:LkC tab 129 qFr){g2}(h2:LkE tab 130 qOy g2){g3}(h3:LkE tab 131 qJa g3){g4}(h4:LkE tab 132 qTo g4){g5}(h5:LkE tab 133 qHh g5){g6}(h6:LkE tab 134 qOz g6){g7}(h7:LkE tab 135 qTp g7){g8}(h8:LkE tab 136 qTq g8)(h9:LkC tab 137 qI5)(b:List UInt8)(hp:b.length<100000000) :
  xU.1.wp tab gl (qE 0 [.t (.sl (b.map qA))]) (qE 0 []) (qV [(2,(some (19,true))),(3,none)] 0 (qOt.K b)):=by
 have en:=qJu (b:=b) oM;have o:Rn (b,0,0) 0:=⟨⟨Nat.zero_le _,by simp only;omega⟩,fun _=>rfl⟩;obtain⟨v,s0,e0,⟨q0,m0⟩,c0⟩:=qEc (g:=g2) (k:=1) ⟨o,oM,oM⟩;have hd:zX7 b=if e0≠0 then (default,e0) else if v≠1 then (default,5) else jKe (et s0 e0):=by
  have q0':qQ (b,0,0) 1=(v,et s0 e0):=q0.symm;simp only[zX7,jKe,q0']
 have cz:(((0:Nat):Nat):Int)=0:=rfl;rw[show ((1:Nat):Int)=1 from rfl] at c0;simp only[rdO,yC,cz] at en c0;obtain⟨E,mE,hB,hE⟩ : ∃ E,Rn s0 E∧zX7 b=jKe (et s0 E)∧((e0=0∧v≠1∧E=5)∨(¬ (e0=0∧v≠1)∧E=e0)):=by
  by_cases x0:e0=0
  ·by_cases x1:v=1
   ·exact⟨e0,m0,by rw[hd,if_neg (by simpa using x0),if_neg (by simpa using x1)],.inr ⟨fun h=>h.2 x1,rfl⟩⟩
   ·refine⟨5,⟨m0.1,fun h=>absurd h (by decide)⟩,?_,.inl ⟨x0,x1,rfl⟩⟩;rw[hd,if_neg (by simpa using x0),if_pos x1];exact (zM7 (s:=et s0 5) (show (5:Int)≠0 by decide)).symm
  ·refine⟨e0,m0,?_,.inr ⟨fun h=>x0 h.1,rfl⟩⟩;rw[hd,if_pos x0];exact (zM7 (s:=et s0 e0) x0).symm
 clear hd;obtain⟨act,s1,f1,⟨q1,m1⟩,c1⟩:=zGy (g:=g3) (k:=1) (m:=3) ⟨mE,oM,oM⟩;rw[show ((1:Nat):Int)=1 from rfl] at c1
 replace q1:(act,et s1 f1)=qYh _ 3:=q1
 obtain⟨sd,s2,f2,⟨q2,m2⟩,c2⟩:=jDu (g:=g4) (n:=3) ⟨m1,oM⟩;rw[show ((3:Nat):Int)=3 from rfl] at c2;obtain⟨au,s3,f3,⟨q3,m3⟩,c3⟩:=jDu (g:=g4) (n:=4) ⟨m2,oM⟩;rw[show ((4:Nat):Int)=4 from rfl] at c3;obtain⟨ent,s4,f4,⟨q4,m4⟩,c4⟩:=qX4 (g:=g5) m3;obtain⟨res,s5,f5,⟨q5,m5⟩,c5⟩:=qEc (g:=g2) (k:=8) ⟨m4,oM,oM⟩;rw[show ((8:Nat):Int)=8 from rfl] at c5;obtain⟨rst,s6,f6,⟨q6,m6⟩,c6⟩:=qEc (g:=g2) (k:=8) ⟨m5,oM,oM⟩;rw[show ((8:Nat):Int)=8 from rfl] at c6;obtain⟨clk,s7,f7,⟨q7,m7⟩,c7⟩:=qEc (g:=g2) (k:=8) ⟨m6,oM,oM⟩;rw[show ((8:Nat):Int)=8 from rfl] at c7;obtain⟨w,s8,f8,⟨⟨q8,q8'⟩,m8⟩,c8⟩:=jDw (g:=g6) m7;obtain⟨w',hw⟩ : ∃ x,qYh (et s7 f7) 1=(x,et s8 f8):=⟨_,Prod.ext rfl q8'.symm⟩;rw[hw] at q8;obtain⟨⟨bk,u⟩,s9,f9,⟨q9,m9⟩,c9⟩:=jM0 (g:=g7) m8;obtain⟨mc,s10,f10,⟨q10,m10⟩,c10⟩:=qEc (g:=g2) (k:=8) ⟨m9,oM,oM⟩;rw[show ((8:Nat):Int)=8 from rfl] at c10;obtain⟨n,s11,f11,⟨q11,m11⟩,c11⟩:=zGy (g:=g3) (k:=1) (m:=6) ⟨m10,oM,oM⟩;rw[show ((1:Nat):Int)=1 from rfl] at c11
 replace q11:(n,et s11 f11)=qYh _ 6:=q11
 have hn:=jEj (s:=et s10 f10) (m:=6) oM;rw[←q11] at hn;simp only at hn;obtain⟨N,rfl⟩:=Int.eq_ofNat_of_zero_le hn.1;simp only[rdO,yC] at c1 c2 c3 c4 c5 c6 c7 c8 c9 c10 c11;generalize hσ:et s0 E=σ at q1 hB;have rd:(e0=0∧v≠1∧E=5)∨(e0=0∧v=1∧E=e0)∨(e0≠0∧E=e0):=by
  rcases hE with h | ⟨hx,h⟩
  ·exact .inl h
  ·by_cases x0:e0=0
   ·have x1:v=1:=by by_cases h:v=1;exact h;exact absurd ⟨x0,h⟩ hx
    exact .inr (.inl ⟨x0,x1,h⟩)
   ·exact .inr (.inr ⟨x0,h⟩)
 clear hE;rcases rd with⟨x0,x1,rfl⟩ | ⟨x0,x1,rfl⟩ | ⟨x0,rfl⟩
 case' inl=>
  subst x0;simp(maxSteps:=9^9)(disch:=try exact dS)only[go_sem,xU,h1,en,h2,c0,h3,h4,h5,h6,h7,c1,c2,c3,c4,c5,c6,c7,c8,c9,c10,c11,yC,vJ,x1];repeat refine aiG ?_
 case' inr.inl=>
  have d0:(E==0)=true:=by simpa using x0
  have d1:decide (E=0)=true:=by simpa using x0
  simp(maxSteps:=9^9)(disch:=try exact dS)only[go_sem,xU,h1,en,h2,c0,h3,h4,h5,h6,h7,c1,c2,c3,c4,c5,c6,c7,c8,c9,c10,c11,yC,vJ,x1,d0,d1];repeat refine aiG ?_
 case' inr.inr=>
  simp(maxSteps:=9^9)(disch:=try exact dS)only[go_sem,xU,h1,en,h2,c0,h3,h4,h5,h6,h7,c1,c2,c3,c4,c5,c6,c7,c8,c9,c10,c11,yC,vJ,x0];repeat refine aiG ?_
 all_goals
  refine yU (σ:=Nat×List Ix×Rd×Int) (fun t=>t.1≤N∧(t.2.1,et t.2.2.1 t.2.2.2)=zRi (et s11 f11) t.1∧Rn t.2.2.1 t.2.2.2) (fun t=>N-t.1) (fun t=>[(2,.ref 4096 0 0),(4,.ref 8256 0 0),(6,.ref 24624 0 0),(62,.t (.int .i64 N)),(63,.t (.int .i64 t.1))]) (fun t=>[(9002,.live 8 ((t.2.1.map ixA).map V.t) true false),(8256,.live 1 [.ref 8240 0 0] true true),(8240,IE 8208 t.2.2.2),(8208,vD t.2.2.1),(24624,.live 19 [.agg [.t (.sl (sd.map bsT)),.t (.sl (au.map bsT)),.t (.sl (ent.map qA)),.t (.int .i64 act),.t (.int .i64 res),.t (.int .i64 rst),.t (.int .i64 clk),.t (.bool w),.t (.sl (bk.map vS)),.t (.int .i64 u),.t (.int .i64 mc),.sl 9002 0 t.1,.t (.int .i64 0),.t (.int .i64 0),.t (.int .i64 0),.t (.int .i64 0),.t (.int .i64 0),.t (.int .i64 0),.nil]] true true),(4096,.live 19 [.agg [.nil,.nil,.nil,.t (.int .i64 0),.t (.int .i64 0),.t (.int .i64 0),.t (.int .i64 0),.t (.bool false),.nil,.t (.int .i64 0),.t (.int .i64 0),.nil,.t (.int .i64 0),.t (.int .i64 0),.t (.int .i64 0),.t (.int .i64 0),.t (.int .i64 0),.t (.int .i64 0),.nil]] true true)]) (0,[],s11,f11) ⟨sM,rfl,m11⟩ ?_ ?_
  ·refine qJ.cv0 (hv:=[(9002,.live 8 [] true false)]) (ho:=[(8256,.live 1 [.ref 8240 0 0] true true),(8240,IE 8208 f11),(8208,vD s11),(24624,.live 19 [.agg [.t (.sl (sd.map bsT)),.t (.sl (au.map bsT)),.t (.sl (ent.map qA)),.t (.int .i64 act),.t (.int .i64 res),.t (.int .i64 rst),.t (.int .i64 clk),.t (.bool w),.t (.sl (bk.map vS)),.t (.int .i64 u),.t (.int .i64 mc),.sl 9002 0 0,.t (.int .i64 0),.t (.int .i64 0),.t (.int .i64 0),.t (.int .i64 0),.t (.int .i64 0),.t (.int .i64 0),.nil]] true true),(4096,.live 19 [.agg [.nil,.nil,.nil,.t (.int .i64 0),.t (.int .i64 0),.t (.int .i64 0),.t (.int .i64 0),.t (.bool false),.nil,.t (.int .i64 0),.t (.int .i64 0),.nil,.t (.int .i64 0),.t (.int .i64 0),.t (.int .i64 0),.t (.int .i64 0),.t (.int .i64 0),.t (.int .i64 0),.nil]] true true)]) id ?_ ?_ rfl rfl;all_goals simp(maxSteps:=9^9)(disch:=try exact dS)only[go_sem,id,yC,vJ]
   all_goals rfl
  rintro⟨k,l,t,f⟩ ⟨hk,hR,ht⟩;simp only at hk hR ht;have ll:l.length=k:=by have:=zOc (s:=et s11 f11) (n:=k);rw[←hR] at this;exact this
  rcases (by omega:k<N∨N=k) with c | rfl
  ·obtain⟨x,t',f',⟨hx',ht'⟩,e1⟩:=jM1 (g:=g8) ht;have hs:(l++[x],et t' f')=zRi (et s11 f11) (k+1):=by simp only[zRi,←hR,←hx']
   simp only[rdO,yC,ixA] at e1;simp(maxSteps:=9^9)(disch:=try exact dS)only[go_sem,yC,vJ,c,h8,e1,ll];repeat refine aiG ?_
   refine qZz.of (k+1,l++[x],t',f') ⟨by show k+1≤N;omega,hs,ht'⟩ (by show N-(k+1)<N-k;omega) (qJ.rd (fun j=>if j=9002 then 77904 else j) ?_ ?_ rfl);all_goals simp(maxSteps:=9^9)(disch:=try exact dS)only[go_sem,id,yC,vJ,ixA]
   all_goals simp only[map_append,mcn,ixA]
  obtain⟨y13,s13,f13,⟨q13,m13⟩,c13⟩:=qEc (g:=g2) (k:=8) ⟨ht,oM,oM⟩;rw[show ((8:Nat):Int)=8 from rfl] at c13;obtain⟨y14,s14,f14,⟨q14,m14⟩,c14⟩:=qEc (g:=g2) (k:=8) ⟨m13,oM,oM⟩;rw[show ((8:Nat):Int)=8 from rfl] at c14;obtain⟨y15,s15,f15,⟨q15,m15⟩,c15⟩:=qEc (g:=g2) (k:=8) ⟨m14,oM,oM⟩;rw[show ((8:Nat):Int)=8 from rfl] at c15;obtain⟨y16,s16,f16,⟨q16,m16⟩,c16⟩:=qEc (g:=g2) (k:=8) ⟨m15,oM,oM⟩;rw[show ((8:Nat):Int)=8 from rfl] at c16;obtain⟨y17,s17,f17,⟨q17,m17⟩,c17⟩:=qEc (g:=g2) (k:=8) ⟨m16,oM,oM⟩;rw[show ((8:Nat):Int)=8 from rfl] at c17;obtain⟨y18,s18,f18,⟨q18,m18⟩,c18⟩:=qEc (g:=g2) (k:=8) ⟨m17,oM,oM⟩;rw[show ((8:Nat):Int)=8 from rfl] at c18;obtain⟨m,s19,f19,⟨q19,m19⟩,c19⟩:=zGy (g:=g3) (k:=1) (m:=8) ⟨m18,oM,oM⟩;rw[show ((1:Nat):Int)=1 from rfl] at c19
  replace q19:(m,et s19 f19)=qYh _ 8:=q19
  have hm:=jEj (s:=et s18 f18) (m:=8) oM;rw[←q19] at hm;simp only at hm;obtain⟨M,rfl⟩:=Int.eq_ofNat_of_zero_le hm.1;simp only[rdO,yC] at c13 c14 c15 c16 c17 c18 c19;simp(maxSteps:=9^9)(disch:=try exact dS)only[go_sem,yC,vJ];repeat refine aiG ?_
  refine qG 7 ?_;simp(maxSteps:=9^9)(disch:=try exact dS)only[go_sem,qD,yC,vJ,h2,h3,c13,c14,c15,c16,c17,c18,c19];repeat refine aiG ?_
  refine yU (σ:=Nat×List Lv×Rd×Int) (fun t=>t.1≤M∧(t.2.1,et t.2.2.1 t.2.2.2)=zRg (et s19 f19) t.1∧Rn t.2.2.1 t.2.2.2) (fun t=>M-t.1) (fun t=>[(2,.ref 4096 0 0),(4,.ref 8256 0 0),(6,.ref 24624 0 0),(104,.t (.int .i64 M)),(105,.t (.int .i64 t.1))]) (fun t=>[(9003,.live 2 ((t.2.1.map lvA).map V.t) true false),(9002,.live 8 ((l.map ixA).map V.t) true false),(8256,.live 1 [.ref 8240 0 0] true true),(8240,IE 8208 t.2.2.2),(8208,vD t.2.2.1),(24624,.live 19 [.agg [.t (.sl (sd.map bsT)),.t (.sl (au.map bsT)),.t (.sl (ent.map qA)),.t (.int .i64 act),.t (.int .i64 res),.t (.int .i64 rst),.t (.int .i64 clk),.t (.bool w),.t (.sl (bk.map vS)),.t (.int .i64 u),.t (.int .i64 mc),.sl 9002 0 N,.t (.int .i64 y13),.t (.int .i64 y14),.t (.int .i64 y15),.t (.int .i64 y16),.t (.int .i64 y17),.t (.int .i64 y18),.sl 9003 0 t.1]] true true),(4096,.live 19 [.agg [.nil,.nil,.nil,.t (.int .i64 0),.t (.int .i64 0),.t (.int .i64 0),.t (.int .i64 0),.t (.bool false),.nil,.t (.int .i64 0),.t (.int .i64 0),.nil,.t (.int .i64 0),.t (.int .i64 0),.t (.int .i64 0),.t (.int .i64 0),.t (.int .i64 0),.t (.int .i64 0),.nil]] true true)]) (0,[],s19,f19) ⟨sM,rfl,m19⟩ ?_ ?_
  ·refine qJ.cv0 (hv:=[(9003,.live 2 [] true false)]) (ho:=[(9002,.live 8 ((l.map ixA).map V.t) true false),(8256,.live 1 [.ref 8240 0 0] true true),(8240,IE 8208 f19),(8208,vD s19),(24624,.live 19 [.agg [.t (.sl (sd.map bsT)),.t (.sl (au.map bsT)),.t (.sl (ent.map qA)),.t (.int .i64 act),.t (.int .i64 res),.t (.int .i64 rst),.t (.int .i64 clk),.t (.bool w),.t (.sl (bk.map vS)),.t (.int .i64 u),.t (.int .i64 mc),.sl 9002 0 N,.t (.int .i64 y13),.t (.int .i64 y14),.t (.int .i64 y15),.t (.int .i64 y16),.t (.int .i64 y17),.t (.int .i64 y18),.sl 9003 0 0]] true true),(4096,.live 19 [.agg [.nil,.nil,.nil,.t (.int .i64 0),.t (.int .i64 0),.t (.int .i64 0),.t (.int .i64 0),.t (.bool false),.nil,.t (.int .i64 0),.t (.int .i64 0),.nil,.t (.int .i64 0),.t (.int .i64 0),.t (.int .i64 0),.t (.int .i64 0),.t (.int .i64 0),.t (.int .i64 0),.nil]] true true)]) id ?_ ?_ rfl rfl;all_goals simp(maxSteps:=9^9)(disch:=try exact dS)only[go_sem,id,yC,vJ]
   all_goals rfl
  rintro⟨k,ks,a,f2'⟩ ⟨hk2,hR2,ha⟩;simp only at hk2 hR2 ha;have lk:ks.length=k:=by have:=zN7 (s:=et s19 f19) (n:=k);rw[←hR2] at this;exact this
  rcases (by omega:k<M∨M=k) with c | rfl
  ·obtain⟨un,a1,g1',⟨hx1,ha1⟩,e1⟩:=qX4 (g:=g5) ha;obtain⟨us,a2,g2',⟨hx2,ha2⟩,e2⟩:=qEc (g:=g2) (k:=1) ⟨ha1,oM,oM⟩;rw[show ((1:Nat):Int)=1 from rfl] at e2;have hs:(ks++[⟨un,us⟩],et a2 g2')=zRg (et s19 f19) (k+1):=by simp only[zRg,jKk,←hR2,←hx1,←hx2]
   simp only[rdO,yC] at e1 e2;simp(maxSteps:=9^9)(disch:=try exact dS)only[go_sem,yC,vJ,c,h2,h5,e1,e2,lk];repeat refine aiG ?_
   refine qZz.of (k+1,ks++[⟨un,us⟩],a2,g2') ⟨by show k+1≤M;omega,hs,ha2⟩ (by show M-(k+1)<M-k;omega) (qJ.rd (fun j=>if j=9003 then 127040 else j) ?_ ?_ rfl);all_goals simp(maxSteps:=9^9)(disch:=try exact dS)only[go_sem,id,yC,vJ,lvA]
   all_goals simp only[map_append,mcn,lvA]
  have hsa:zRh σ=(⟨sd,au,ent,act,res,rst,clk,w,bk,u,mc,l,⟨y13,y14,y15,y16,y17,y18⟩,ks⟩,et a f2'):=by simp only[zRh,Int.toNat_natCast,←q1,←q2,←q3,←q4,←q5,←q6,←q7,hw,q8,←q9,←q10,←q11,←hR,←q13,←q14,←q15,←q16,←q17,←q18,←q19,←hR2]
  have hB':zX7 b=if kF (et a f2')≠0 then (default,kF (et a f2')) else (⟨sd,au,ent,act,res,rst,clk,w,bk,u,mc,l,⟨y13,y14,y15,y16,y17,y18⟩,ks⟩,0):=by rw[hB,jKe,hsa]
  have ta:List.take N l=l:=take_of_length_le oM;have td:List.take M ks=ks:=take_of_length_le oM;by_cases cf:f2'=0
  rotate_left
  ·rw[zHk (s:=et a f2') cf,if_pos cf] at hB';simp(maxSteps:=9^9)(disch:=try exact dS)only[go_sem,yC,vJ,cf,ll,lk];repeat refine aiG ?_
   exact jGi default f2' hB'.symm rfl rfl
  have hae:=ha.2 cf;have ee:=qQt ha.1;have hee:kF (et a f2')=kF a:=by simp only[kF,cf,hae]
  rw[hee] at hB';subst cf;simp only[rdO,hae] at ee;generalize kF a=z at *;by_cases cz':z=0
  ·subst cz';rw[if_neg sM] at hB';simp(maxSteps:=9^9)(disch:=try exact dS)only[go_sem,yC,vJ,hae,h9,ee,ll,lk];repeat refine aiG ?_
   exact jGi _ 0 hB'.symm (by simp only[saA,lkA,ta,td]) rfl
  ·rw[if_pos cz'] at hB';simp(maxSteps:=9^9)(disch:=try exact dS)only[go_sem,yC,vJ,hae,h9,ee,cz',ll,lk];repeat refine aiG ?_
   exact jGi default z hB'.symm rfl rfl
theorem BkS.ext {act:Int}{bk:List zB}(h:BkS act bk)(i:Nat)(ds:List (List UInt8)):BkS act (qKd bk i ds):=by
 rcases h with rfl | ⟨h1,h2⟩
 ·exact .inl rfl
 ·exact .inr ⟨h1,h2.ext i ds⟩
theorem BkS.rst {act:Int}{bk:List zB}(h:BkS act bk)(i:Nat):BkS act (zKs bk i):=by
 rcases h with rfl | ⟨h1,b0,b1,rfl,h0,h3,z0,z1⟩
 ·exact .inl rfl
 ·refine .inr ⟨h1,_,_,rfl,jV.trans h0,jV.trans h3,?_,?_⟩
  ·unfold qYl;split
   ·exact zEa z0 (by simp[szA])
   ·exact z0
  ·unfold qYl;split
   ·exact zEa z1 (by simp[szA])
   ·exact z1
theorem BkS.res {act:Int}{bk:List zB}(h:BkS act bk):BkS act (zD0 bk):=by
 rcases h with rfl | ⟨h1,b0,b1,rfl,h0,h3,z0,z1⟩
 ·exact .inl rfl
 ·exact .inr ⟨h1,_,_,rfl,qC4.trans h0,qC4.trans h3,zV8 sM z0 4,zV8 sM z1 4⟩
theorem BkS.new {act:Int}(h:0≤act∧act≤3):BkS act (yV act):=by
 rcases (by omega:act=0∨(1≤act∧act≤3)) with rfl | h1
 ·exact .inl rfl
 ·exact .inr ⟨h1,.new h1⟩
theorem zH8  (s:Sa) :
  qIx.1.wp tab gl (qE 0 [.t (saA s)]) (qE 0 []) (qV [(2,(some (30,true)))] 0 (qLe.K s)):=by
 simp +contextual(maxSteps:=9^9)(disch:=try exact dS)only[go_sem,qIx,saA,↓jX,↓yW,qLa];exact⟨rfl,jS2 rfl rfl⟩
theorem qZo (h1:LkC tab 197 kH)(h2:LkC tab 200 qLd)(s:St)(m:Int)(hp:s.a.Ok∧s.cn 1000000) :
  jS.1.wp tab gl (qE 0 [.t (stA s),.t (.int .i64 m)]) (qE 0 []) (qV [(4,(some (30,true))),(5,none)] 0 (qPu.K (s,m))):=by
 obtain⟨ok,c1,c2,c3,c4,c5⟩:=hp;have q1:=ok.res;have q2:=ok.rst;have q3:=ok.act;have e2:=jOw (u:=s.a.u) ok.bk.rv.rm;simp only[zY] at e2;by_cases d1:s.on=true
 ·simp +contextual(maxSteps:=9^9)(disch:=try exact dS)only[go_sem,jS,stA,d1,↓jX,↓yW,qLa];exact zK7 default 28 (by rw[zI9,if_pos (.inl d1)];exact⟨rfl,rfl⟩) rfl rfl
 by_cases d2:s.off=true
 ·simp +contextual(maxSteps:=9^9)(disch:=try exact dS)only[go_sem,jS,stA,d1,d2,↓jX,↓yW,qLa];exact zK7 default 28 (by rw[zI9,if_pos (.inr d2)];exact⟨rfl,rfl⟩) rfl rfl
 have d1':s.on=false:=by simpa using d1
 have d2':s.off=false:=by simpa using d2
 by_cases m0:m=0
 ·subst m0;have hS:zI9 s 0=(qZ1 s,0):=by simp[zI9,d1',d2']
  rcases (by omega:s.a.act=0∨(1≤s.a.act∧s.a.act≤3)) with ha | ha
  ·simp +contextual(maxSteps:=9^9)(disch:=try exact dS)only[go_sem,jS,stA,d1',d2',h1,ha,zZr,↓jX,↓yW,qLa]
   (repeat' (first | apply And.intro | intro _))<;>(try rfl)
   refine zK7 (qZ1 s) 0 (by rw[hS];exact⟨rfl,rfl⟩) ?_ rfl;rw[qZ1,ha];simp only[stA,ha,d2'];rfl
  ·obtain⟨b0,b1,eb,e1⟩:=zKm ha;simp +contextual(maxSteps:=9^9)(disch:=try exact dS)only[go_sem,jS,stA,d1',d2',h1,e1,take_length,↓jX,↓yW,qLa]
   (repeat' (first | apply And.intro | intro _))<;>(try rfl)
   refine zK7 (qZ1 s) 0 (by rw[hS];exact⟨rfl,rfl⟩) ?_ rfl;rw[qZ1,eb];simp only[stA,d2'];rfl
 by_cases m1:m=1
 ·subst m1;by_cases m2:s.a.bk.length=0
  ·simp +contextual(maxSteps:=9^9)(disch:=try exact dS)only[go_sem,jS,stA,d1',d2',h2,e2,m2,↓jX,↓yW,qLa];exact zK7 default 16 (by simp[zI9,d1',d2',m2]) rfl rfl
  ·have hS:zI9 s 1=(jSn s,0):=by simp only[zI9,d1',d2',m2];rfl
   simp +contextual(maxSteps:=9^9)(disch:=try exact dS)only[go_sem,jS,stA,d1',d2',h2,e2,m2,↓jX,↓yW,qLa]
   (repeat' (first | apply And.intro | intro _))<;>(try rfl)
   refine zK7 (jSn s) 0 (by rw[hS];exact⟨rfl,rfl⟩) ?_ rfl;rw[jSn];simp only[stA,d2',map_nil]
 ·simp +contextual(maxSteps:=9^9)(disch:=try exact dS)only[go_sem,jS,stA,d1',d2',m0,m1,↓jX,↓yW,qLa];exact zK7 default 1 (by simp[zI9,d1',d2',m0,m1]) rfl rfl
theorem zAx (h1:LkC tab 98 vB)(h2:LkC tab 96 qH2)(s:St)(n:Int)(hp:s.a.en.length=32∧(0≤s.dr∧s.dr≤1000000000)∧1≤n∧n≤1024) :
  qFi.1.wp tab gl (qE 0 [.t (stA s),.t (.int .i64 n)]) (qE 0 []) (qV [(4,(some (30,true))),(5,none)] 0 (qL1.K (s,n))):=by
 have e1 := @qVt [] s.a.res (by decide);have e2 := @qVt (beI 8 s.a.res 8) s.a.rst (by simp[beI]);have e3 := @qVt (beI 8 s.a.res 8++beI 8 s.a.rst 8) s.dr (by simp[beI]);have e4:=qXt (k:=s.a.en) (l:=[114,97,110,100,111,109]) (c:=jOr s) (n:=n.toNat) ⟨oM,sM,by simp[jOr,beI],oM,oM⟩;rw[show ((n.toNat:Nat):Int)=n by omega,show drv s.a.en [114,97,110,100,111,109] (jOr s) n.toNat=qVc s n from rfl] at e4;have l1:(beI 8 s.a.res 8).length=8:=by simp[beI]
 have l2:(beI 8 s.a.res 8++beI 8 s.a.rst 8).length=16:=by simp[beI]
 have l3:(beI 8 s.a.res 8++beI 8 s.a.rst 8++beI 8 s.dr 8).length=24:=by simp[beI]
 simp only[map_nil,nil_append,length_nil,jOr,l1,l2,Nat.reduceAdd] at e1 e2 e3 e4;generalize beI 8 s.a.res 8++beI 8 s.a.rst 8++beI 8 s.dr 8=y3 at *;generalize beI 8 s.a.res 8++beI 8 s.a.rst 8=y2 at *;generalize beI 8 s.a.res 8=y1 at *;have t1:y1.take 8=y1:=take_of_length_le oM;have t2:y2.take 16=y2:=take_of_length_le oM;have t3:y3.take 24=y3:=take_of_length_le oM;simp +contextual(maxSteps:=9^9)(disch:=try exact dS)only[go_sem,qFi,stA,h1,h2,e1,e2,e3,e4,l1,l2,l3,t1,t2,t3,↓jX,↓yW,qLa]
 (repeat' (first | apply And.intro | intro _))<;>(try rfl)
 exact jUq { s with dr:=s.dr+1 } _ ⟨rfl,rfl⟩ rfl rfl
theorem zT4 {l:List (List UInt8)}{n m:Nat}(h:l.length=n ∧ ∀ x∈l,x.length≤m)(hn:n<1000000)(hm:m<1000000):zT3 l:=⟨oM,fun x hx=>by have:=h.2 x hx;omega⟩
theorem Ix.Ok.M {x:Ix}(h:x.Ok):x.M:=by
 unfold Ix.Ok at h;unfold Ix.M;omega
theorem Obj.Ok.M {x:Obj}(h:x.Ok):x.M:=by
 unfold Obj.Ok Pu.Ok Sn.Ok at h;unfold Obj.M;omega
theorem Ses.Ok.M {x:Ses}(h:x.Ok):x.M:=by
 unfold Ses.Ok at h;unfold Ses.M;omega
theorem Sa.Ok.M {s:Sa}(h:s.Ok):s.M:=by
 have h1:=h.en;have h2:=h.ix;have h3:=h.ks;refine⟨zT4 h.sd oM oM,zT4 h.au oM oM,oM,h.bk.rv.rm,⟨oM,fun x hx=>(h2.2 x hx).M⟩,⟨oM,fun x hx=>?_⟩⟩;have:=h3.2 x hx;unfold Lv.Ok at this;omega
theorem St.Ok.M {s:St}(h:s.Ok)(c:s.cn 1000000):s.M:=by
 have h1:=h.ses;have h2:=h.obs;have hc:=c;unfold St.cn at hc;exact⟨h.a.M,h.bk.rv.rm,oM,oM,⟨oM,fun x hx=>(h1.2 x hx).M⟩,⟨oM,fun x hx=>(h2.2 x hx).M⟩⟩
theorem zH7  (a b:List UInt8)(hp:a.length≤4000∧b.length≤4000) :
  qAb.1.wp tab gl (qE 0 [.t (.sl (a.map qA)),.t (.sl (b.map qA))]) (qE 0 []) (qV [(4,none)] 0 (zJz.K (a,b))):=by
 simp +contextual(maxSteps:=9^9)(disch:=try exact dS)only[go_sem,qAb,↓jX,↓yW,qLa]
 (repeat' (first | apply And.intro | intro _))<;>(try rfl)
 all_goals exact jUb _ trivial rfl rfl
theorem jNy {P:Program}{G:Nat→Option (List T)}{f:FuncId}{fn:Func}{ps:Array TypeId}{t e:TypeId}(hf:P.funcs[f]?=some fn)(hname:(fn.name == "runtime.NumGoroutine")=false)(hb:fn.body.isNone=true)(hn:Extern.findNext fn=none)
  (he:Extern.find fn=some (Extern.BytealgMakeNoZero.makeNoZero ps #[t])) (ht:P.underlying t=some (.slice e)):FOk P G f zGc.fs:=by
 intro aS ins r outs hs;have key : ∃ n:Nat,(n=20∨n=32)∧aS=[.t (.int .i64 n)]∧ins=[]∧r = .sl 0 0 n∧outs=[.live 1 [] true false]:=by
  unfold Ct.fs at hs;split at hs
  ·rename_i hx;cases hs;have h1:=hx.choose_spec;generalize hx.choose=y at h1 ⊢;obtain⟨⟨rfl,rfl⟩,h3⟩:=h1;have h4:(show Int from y)=20∨(show Int from y)=32:=h3;rcases h4 with h4 | h4
   ·refine⟨20,.inl rfl,?_⟩;have h5:y=(20:Int):=h4;subst h5;exact⟨rfl,rfl,rfl,rfl⟩
   ·refine⟨32,.inr rfl,?_⟩;have h5:y=(32:Int):=h4;subst h5;exact⟨rfl,rfl,rfl,rfl⟩
  ·cases hs
 obtain⟨n,hn2,rfl,rfl,rfl,rfl⟩:=key;intro w β F vals env fits hargs;have hvals:vals = #[.int .i64 n]:=by
  obtain⟨l⟩:=vals;cases hargs with
  | cons h1 h2=>
   cases h2;cases h1 with
   | t h=>cases h;rfl
 subst hvals;obtain⟨cs,hrun,hle,hmx⟩:=Lib.run_makeNoZero (P:=P) w ps t e ht n oM;refine .inr ⟨.slice (some ⟨w.heap.size,0,none⟩) n cs.size,w.drew.drew.alloc (.cells cs e),?_,.slice (some ⟨w.heap.size,0,none⟩) n cs.size,fun k=>if k=0 then some ⟨some w.heap.size,1,cs.size⟩ else none,F,rfl,?_⟩
 ·rw[run_callFunc_extern hf hname hb hn he,hrun];rfl
 ·have hsz:(w.drew.drew.alloc (.cells cs e)).heap.size=w.heap.size+1:=by
   show (w.heap.push _).size=_;exact Array.size_push _
  have hnew:(w.drew.drew.alloc (.cells cs e)).heap[w.heap.size]?=some (.cells cs e):=by
   show (w.heap.push _)[w.heap.size]?=_;simp
  have hold : ∀ b,b<w.heap.size→(w.drew.drew.alloc (.cells cs e)).heap[b]?=w.heap[b]?:=by
   intro b hb;show (w.heap.push _)[b]?=_;rw[Array.getElem?_push,if_neg oM]
  have hFb : ¬ F w.heap.size:=fun h=>absurd (env.Fw _ h) oM
  have mx:n≤maxLen:=by have:(32:Nat)≤maxLen:=(by decide);omega
  refine⟨⟨fun k o hk=>?_,fun k hk=>?_,fun i j bi bj b h1 h2 h3 h4=>?_,fun k bi b h1 h2=>?_⟩,?_,fun k hk=>?_,fun k bi b _ h1 h2=>?_,fun b _=>Iff.rfl,fun b hb=>?_,rfl,rfl,rfl,?_,fun b hb _=>hold b hb⟩
  ·cases k with
   | succ k=>simp at hk
   | zero=>
    simp only[getElem?_cons_zero,Option.some.injEq] at hk;subst hk;refine⟨_,if_pos rfl,⟨rfl,sM,cs,e,(0,0),hnew,oM,sM,sM,hmx mx,fun i x h=>by simp at h,?_⟩,1,[],false,rfl⟩;simpa using hFb
  ·have:k≠0:=by simp at hk;omega
   exact if_neg this
  ·split at h1<;>split at h2<;>simp_all
  ·split at h1
   ·cases h1;cases h2;exact⟨by rw[hsz];omega,hFb⟩
   ·cases h1
  ·exact .sl 0 0 n cs.size w.heap.size 1 cs.size _ (if_pos rfl) hle oM (fun _=>sM) rfl
  ·simp at hk
  ·split at h1
   ·cases h1;cases h2;exact Nat.le_refl _
   ·cases h1
  ·have:=env.Fw b hb;rw[hsz];omega
  ·rw[hsz];omega
theorem yDa {tab:Tab}{gl:Gl}{ac:AC}{fs:Fs}{hs:Hs}{rs:List (Nat×Option (Nat×Bool))}{n:Nat}{E:ECt}{x:E.α}(h:ac.wp tab gl fs hs (qV rs n (E.K x)))(hK : ∀ y,E.R x y→E.r y = .t (.bool true)∧E.outs y=[]):ac.wp tab gl fs hs (qV rs n (fun r o=>r = .t (.bool true)∧o=[])):=
 jD (fun e f g hq=>by
  have h2 : ∀ r o,E.K x r o→r = .t (.bool true)∧o=[]:=fun r o ⟨y,h1,h2,h3⟩=>⟨h2.trans (hK y h1).1,h3.trans (hK y h1).2⟩
  cases e with
  | exit id=>exact hq.elim
  | normal=>obtain⟨p,l,h1,hk⟩:=hq;exact⟨p,l,h1,h2 _ _ hk⟩
  | ret=>obtain⟨p,l,h1,hk⟩:=hq;exact⟨p,l,h1,h2 _ _ hk⟩) h
end Go.Eng
end
