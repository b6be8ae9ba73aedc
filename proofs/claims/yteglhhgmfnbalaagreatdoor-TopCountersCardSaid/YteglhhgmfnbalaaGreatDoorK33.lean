/- A part of an abstract machine, its walks, their tie. -/
import Derived.Test.YteglhhgmfnbalaaGreatDoorK32
import Derived.Lib.MakeNoZero
set_option linter.all false
section
set_option maxHeartbeats 64000000
set_option maxRecDepth 20000
namespace Go.Eng
open List
variable (tab:Tab)(gl:Gl)
variable {vv:V}{oo:List Ob}
theorem zL0 {s:Rd}{m:Int}(h:s.2.2≠0):(qW7 s m).2=s:=by
 obtain⟨b,p,e⟩:=s;have e1:qI (b,p,e) 1=(0,(b,p,e)):=qSm h;unfold qW7;rw[e1,if_neg (λg=>h g.1)]
theorem qPo {s:Rd}{k:Nat}(h:s.2.2≠0):(qI s k).2=s:=by
 obtain⟨b,p,e⟩:=s;rw[qSm h]
theorem qFc {s:Rd}{k:Nat}(h:s.2.2≠0):(zF s k).2=s:=by
 obtain⟨b,p,e⟩:=s;rw[zAp h]
theorem zLv {s:Rd}(h:s.2.2≠0):∀n,(zG3 s n).2=s
 |0=>rfl
 |n+1=>by
  have ih:=zLv h n;show(zF (zG3 s n).2 4096).2=s;rw[ih,qFc h]
theorem zZo {s:Rd}(h:s.2.2≠0):(jDz s).2=s:=by
 have e:=qFc (k:=4096) h;unfold jDz;rw[e,if_pos h]
theorem zZj {s:Rd}(h:s.2.2≠0):(zPf s).2=s:=by
 have e1:=λk=>qPo (k:=k) h
 have e2:=qFc (k:=4096) h;have e3:=zL0 (m:=1) h;unfold zPf;simp only[e1,e2,e3]
theorem zL3 {s:Rd}(h:s.2.2≠0):∀n,(zPi s n).2=s
 |0=>rfl
 |n+1=>by
  have ih:=zL3 h n;show(zPf (zPi s n).2).2=s;rw[ih,zZj h]
theorem zLx {s:Rd}(h:s.2.2≠0):∀n,(zPg s n).2=s
 |0=>rfl
 |n+1=>by
  have ih:=zLx h n;show(qI (zF (zPg s n).2 4096).2 1).2=s;rw[ih,qFc h,qPo h]
theorem zZn {s:Rd}(h:s.2.2≠0):(zPh s).2=s:=by
 have e1:=λk=>qPo (k:=k) h
 have e2:=qFc (k:=4096) h;have e3:=λm=>zL0 (m:=m) h
 have e4:=zLv h;have e5:=zZo h;have e6:=zL3 h;have e7:=zLx h;unfold zPh;simp only[e1,e2,e3,e4,e5,e6,e7]
theorem zFj {s:Rd}(h:s.2.2≠0):xM s=s.2.2:=if_neg (λg=>h g.1)
noncomputable def jJ4 (s:Rd):Sa×Int:=if xM (zPh s).2≠0 then(default,xM (zPh s).2) else((zPh s).1,0)
theorem zK5 {s:Rd}(h:s.2.2≠0):jJ4 s=(default,s.2.2):=by
 unfold jJ4;rw[zZn h,zFj h,if_pos h]
theorem qZm (h1:LkC tab 83 qE5){g2}(h2:LkE tab 84 qNv g2){g3}(h3:LkE tab 85 qH4 g3){g4}(h4:LkE tab 86 qR7 g4){g5}(h5:LkE tab 87 qGx g5){g6}(h6:LkE tab 88 qNw g6){g7}(h7:LkE tab 89 qR8 g7){g8}(h8:LkE tab 90 qR9 g8)(h9:LkC tab 91 qJx)(b:List UInt8)(hp:b.length<100000000) :
  xK.1.wp tab gl (qD 0 [.t (.sl (b.map qA))]) (qD 0 []) (qZ [(2,(some (19,true))),(3,none)] 0 (qNn.K b)):=by
 have en:=qIm (b:=b) oM;have o:Rn (b,0,0) 0:=⟨⟨Nat.zero_le _,by simp only;omega⟩,λ_=>rfl⟩;obtain⟨v,s0,e0,⟨q0,m0⟩,c0⟩:=qDt (g:=g2) (k:=1) ⟨o,oM,oM⟩;have hd:zW4 b=if e0≠0 then(default,e0) else if v≠1 then(default,5) else jJ4 (et s0 e0):=by
  have q0':qI (b,0,0) 1=(v,et s0 e0):=q0.symm;simp only[zW4,jJ4,q0']
 have cz:(((0:Nat):Nat):Int)=0:=rfl;rw[show((1:Nat):Int)=1 from rfl]at c0;simp only[rdO,jR,cz]at en c0;obtain⟨E,mE,hB,hE⟩:∃E,Rn s0 E/\zW4 b=jJ4 (et s0 E)/\((e0=0/\v≠1/\E=5)\/(¬ (e0=0/\v≠1)/\E=e0)):=by
  by_cases x0:e0=0
  .by_cases x1:v=1
   .exact⟨e0,m0,by rw[hd,if_neg (by simpa using x0),if_neg (by simpa using x1)],.inr ⟨λh=>h.2 x1,rfl⟩⟩
   .refine⟨5,⟨m0.1,λh=>absurd h (by decide)⟩,?_,.inl ⟨x0,x1,rfl⟩⟩;rw[hd,if_neg (by simpa using x0),if_pos x1];exact(zK5 (s:=et s0 5) (show(5:Int)≠0 by decide)).symm
  .refine⟨e0,m0,?_,.inr ⟨λh=>x0 h.1,rfl⟩⟩;rw[hd,if_pos x0];exact(zK5 (s:=et s0 e0) x0).symm
 clear hd;obtain⟨act,s1,f1,⟨q1,m1⟩,c1⟩:=zEx (g:=g3) (k:=1) (m:=3) ⟨mE,oM,oM⟩;rw[show((1:Nat):Int)=1 from rfl]at c1
 replace q1:(act,et s1 f1)=qW7 _ 3:=q1
 obtain⟨sd,s2,f2,⟨q2,m2⟩,c2⟩:=jC9 (g:=g4) (n:=3) ⟨m1,oM⟩;rw[show((3:Nat):Int)=3 from rfl]at c2;obtain⟨au,s3,f3,⟨q3,m3⟩,c3⟩:=jC9 (g:=g4) (n:=4) ⟨m2,oM⟩;rw[show((4:Nat):Int)=4 from rfl]at c3;obtain⟨ent,s4,f4,⟨q4,m4⟩,c4⟩:=qWr (g:=g5) m3;obtain⟨res,s5,f5,⟨q5,m5⟩,c5⟩:=qDt (g:=g2) (k:=8) ⟨m4,oM,oM⟩;rw[show((8:Nat):Int)=8 from rfl]at c5;obtain⟨rst,s6,f6,⟨q6,m6⟩,c6⟩:=qDt (g:=g2) (k:=8) ⟨m5,oM,oM⟩;rw[show((8:Nat):Int)=8 from rfl]at c6;obtain⟨clk,s7,f7,⟨q7,m7⟩,c7⟩:=qDt (g:=g2) (k:=8) ⟨m6,oM,oM⟩;rw[show((8:Nat):Int)=8 from rfl]at c7;obtain⟨w,s8,f8,⟨⟨q8,q8'⟩,m8⟩,c8⟩:=jDb (g:=g6) m7;obtain⟨w',hw⟩:∃x,qW7 (et s7 f7) 1=(x,et s8 f8):=⟨_,Prod.ext rfl q8'.symm⟩;rw[hw]at q8;obtain⟨⟨bk,u⟩,s9,f9,⟨q9,m9⟩,c9⟩:=jM3 (g:=g7) m8;obtain⟨mc,s10,f10,⟨q10,m10⟩,c10⟩:=qDt (g:=g2) (k:=8) ⟨m9,oM,oM⟩;rw[show((8:Nat):Int)=8 from rfl]at c10;obtain⟨n,s11,f11,⟨q11,m11⟩,c11⟩:=zEx (g:=g3) (k:=1) (m:=6) ⟨m10,oM,oM⟩;rw[show((1:Nat):Int)=1 from rfl]at c11
 replace q11:(n,et s11 f11)=qW7 _ 6:=q11
 have hn:=jDy (s:=et s10 f10) (m:=6) oM;rw[<-q11]at hn;simp only at hn;obtain⟨N,rfl⟩:=Int.eq_ofNat_of_zero_le hn.1;simp only[rdO,jR]at c1 c2 c3 c4 c5 c6 c7 c8 c9 c10 c11;generalize hσ:et s0 E=σ at q1 hB;have rd:(e0=0/\v≠1/\E=5)\/(e0=0/\v=1/\E=e0)\/(e0≠0/\E=e0):=by
  rcases hE with h|⟨hx,h⟩
  .exact .inl h
  .by_cases x0:e0=0
   .have x1:v=1:=by by_cases h:v=1;exact h;exact absurd ⟨x0,h⟩ hx
    exact .inr (.inl ⟨x0,x1,h⟩)
   .exact .inr (.inr ⟨x0,h⟩)
 clear hE;rcases rd with⟨x0,x1,rfl⟩|⟨x0,x1,rfl⟩|⟨x0,rfl⟩
 case' inl=>
  subst x0;simp(maxSteps:=9^9)(disch:=try exact dS)only[go_sem,xK,h1,en,h2,c0,h3,h4,h5,h6,h7,c1,c2,c3,c4,c5,c6,c7,c8,c9,c10,c11,jR,yY,x1];repeat refine aiG ?_
 case' inr.inl=>
  have d0:(E==0)=true:=by simpa using x0
  have d1:decide (E=0)=true:=by simpa using x0
  simp(maxSteps:=9^9)(disch:=try exact dS)only[go_sem,xK,h1,en,h2,c0,h3,h4,h5,h6,h7,c1,c2,c3,c4,c5,c6,c7,c8,c9,c10,c11,jR,yY,x1,d0,d1];repeat refine aiG ?_
 case' inr.inr=>
  simp(maxSteps:=9^9)(disch:=try exact dS)only[go_sem,xK,h1,en,h2,c0,h3,h4,h5,h6,h7,c1,c2,c3,c4,c5,c6,c7,c8,c9,c10,c11,jR,yY,x0];repeat refine aiG ?_
 all_goals
  refine jZ (σ:=Nat×List Ix×Rd×Int) (λt=>t.1<=N/\(t.2.1,et t.2.2.1 t.2.2.2)=zPi (et s11 f11) t.1/\Rn t.2.2.1 t.2.2.2) (λt=>N-t.1) (λt=>[(2,.ref 4096 0 0),(4,.ref 8256 0 0),(6,.ref 24624 0 0),(62,.t (.int .i64 N)),(63,.t (.int .i64 t.1))]) (λt=>[(9002,.live 8 ((t.2.1.map ixA).map V.t) true false),(8256,.live 1 [.ref 8240 0 0] true true),(8240,IE 8208 t.2.2.2),(8208,yS t.2.2.1),(24624,.live 19 [.agg [.t (.sl (sd.map bsT)),.t (.sl (au.map bsT)),.t (.sl (ent.map qA)),.t (.int .i64 act),.t (.int .i64 res),.t (.int .i64 rst),.t (.int .i64 clk),.t (.bool w),.t (.sl (bk.map vU)),.t (.int .i64 u),.t (.int .i64 mc),.sl 9002 0 t.1,.t (.int .i64 0),.t (.int .i64 0),.t (.int .i64 0),.t (.int .i64 0),.t (.int .i64 0),.t (.int .i64 0),.nil]] true true),(4096,.live 19 [.agg [.nil,.nil,.nil,.t (.int .i64 0),.t (.int .i64 0),.t (.int .i64 0),.t (.int .i64 0),.t (.bool false),.nil,.t (.int .i64 0),.t (.int .i64 0),.nil,.t (.int .i64 0),.t (.int .i64 0),.t (.int .i64 0),.t (.int .i64 0),.t (.int .i64 0),.t (.int .i64 0),.nil]] true true)]) (0,[],s11,f11) ⟨sM,rfl,m11⟩ ?_ ?_
  .refine qL.cv0 (hv:=[(9002,.live 8 [] true false)]) (ho:=[(8256,.live 1 [.ref 8240 0 0] true true),(8240,IE 8208 f11),(8208,yS s11),(24624,.live 19 [.agg [.t (.sl (sd.map bsT)),.t (.sl (au.map bsT)),.t (.sl (ent.map qA)),.t (.int .i64 act),.t (.int .i64 res),.t (.int .i64 rst),.t (.int .i64 clk),.t (.bool w),.t (.sl (bk.map vU)),.t (.int .i64 u),.t (.int .i64 mc),.sl 9002 0 0,.t (.int .i64 0),.t (.int .i64 0),.t (.int .i64 0),.t (.int .i64 0),.t (.int .i64 0),.t (.int .i64 0),.nil]] true true),(4096,.live 19 [.agg [.nil,.nil,.nil,.t (.int .i64 0),.t (.int .i64 0),.t (.int .i64 0),.t (.int .i64 0),.t (.bool false),.nil,.t (.int .i64 0),.t (.int .i64 0),.nil,.t (.int .i64 0),.t (.int .i64 0),.t (.int .i64 0),.t (.int .i64 0),.t (.int .i64 0),.t (.int .i64 0),.nil]] true true)]) id ?_ ?_ rfl rfl;all_goals simp(maxSteps:=9^9)(disch:=try exact dS)only[go_sem,id,jR,yY]
   all_goals rfl
  rintro⟨k,l,t,f⟩ ⟨hk,hR,ht⟩;simp only at hk hR ht;have ll:l.length=k:=by have:=zL4 (s:=et s11 f11) (n:=k);rw[<-hR]at this;exact this
  rcases(by omega:k<N\/N=k)with c|rfl
  .obtain⟨x,t',f',⟨hx',ht'⟩,e1⟩:=jM4 (g:=g8) ht;have hs:(l++[x],et t' f')=zPi (et s11 f11) (k+1):=by simp only[zPi,<-hR,<-hx']
   simp only[rdO,jR,ixA]at e1;simp(maxSteps:=9^9)(disch:=try exact dS)only[go_sem,jR,yY,c,h8,e1,ll];repeat refine aiG ?_
   refine qYo.of (k+1,l++[x],t',f') ⟨by show k+1<=N;omega,hs,ht'⟩ (by show N-(k+1)<N-k;omega) (qL.rd (λj=>if j=9002 then 77904 else j) ?_ ?_ rfl);all_goals simp(maxSteps:=9^9)(disch:=try exact dS)only[go_sem,id,jR,yY,ixA]
   all_goals simp only[map_append,mcn,ixA]
  obtain⟨y13,s13,f13,⟨q13,m13⟩,c13⟩:=qDt (g:=g2) (k:=8) ⟨ht,oM,oM⟩;rw[show((8:Nat):Int)=8 from rfl]at c13;obtain⟨y14,s14,f14,⟨q14,m14⟩,c14⟩:=qDt (g:=g2) (k:=8) ⟨m13,oM,oM⟩;rw[show((8:Nat):Int)=8 from rfl]at c14;obtain⟨y15,s15,f15,⟨q15,m15⟩,c15⟩:=qDt (g:=g2) (k:=8) ⟨m14,oM,oM⟩;rw[show((8:Nat):Int)=8 from rfl]at c15;obtain⟨y16,s16,f16,⟨q16,m16⟩,c16⟩:=qDt (g:=g2) (k:=8) ⟨m15,oM,oM⟩;rw[show((8:Nat):Int)=8 from rfl]at c16;obtain⟨y17,s17,f17,⟨q17,m17⟩,c17⟩:=qDt (g:=g2) (k:=8) ⟨m16,oM,oM⟩;rw[show((8:Nat):Int)=8 from rfl]at c17;obtain⟨y18,s18,f18,⟨q18,m18⟩,c18⟩:=qDt (g:=g2) (k:=8) ⟨m17,oM,oM⟩;rw[show((8:Nat):Int)=8 from rfl]at c18;obtain⟨m,s19,f19,⟨q19,m19⟩,c19⟩:=zEx (g:=g3) (k:=1) (m:=8) ⟨m18,oM,oM⟩;rw[show((1:Nat):Int)=1 from rfl]at c19
  replace q19:(m,et s19 f19)=qW7 _ 8:=q19
  have hm:=jDy (s:=et s18 f18) (m:=8) oM;rw[<-q19]at hm;simp only at hm;obtain⟨M,rfl⟩:=Int.eq_ofNat_of_zero_le hm.1;simp only[rdO,jR]at c13 c14 c15 c16 c17 c18 c19;simp(maxSteps:=9^9)(disch:=try exact dS)only[go_sem,jR,yY];repeat refine aiG ?_
  refine qJ 7 ?_;simp(maxSteps:=9^9)(disch:=try exact dS)only[go_sem,qF,jR,yY,h2,h3,c13,c14,c15,c16,c17,c18,c19];repeat refine aiG ?_
  refine jZ (σ:=Nat×List Lv×Rd×Int) (λt=>t.1<=M/\(t.2.1,et t.2.2.1 t.2.2.2)=zPg (et s19 f19) t.1/\Rn t.2.2.1 t.2.2.2) (λt=>M-t.1) (λt=>[(2,.ref 4096 0 0),(4,.ref 8256 0 0),(6,.ref 24624 0 0),(104,.t (.int .i64 M)),(105,.t (.int .i64 t.1))]) (λt=>[(9003,.live 2 ((t.2.1.map lvA).map V.t) true false),(9002,.live 8 ((l.map ixA).map V.t) true false),(8256,.live 1 [.ref 8240 0 0] true true),(8240,IE 8208 t.2.2.2),(8208,yS t.2.2.1),(24624,.live 19 [.agg [.t (.sl (sd.map bsT)),.t (.sl (au.map bsT)),.t (.sl (ent.map qA)),.t (.int .i64 act),.t (.int .i64 res),.t (.int .i64 rst),.t (.int .i64 clk),.t (.bool w),.t (.sl (bk.map vU)),.t (.int .i64 u),.t (.int .i64 mc),.sl 9002 0 N,.t (.int .i64 y13),.t (.int .i64 y14),.t (.int .i64 y15),.t (.int .i64 y16),.t (.int .i64 y17),.t (.int .i64 y18),.sl 9003 0 t.1]] true true),(4096,.live 19 [.agg [.nil,.nil,.nil,.t (.int .i64 0),.t (.int .i64 0),.t (.int .i64 0),.t (.int .i64 0),.t (.bool false),.nil,.t (.int .i64 0),.t (.int .i64 0),.nil,.t (.int .i64 0),.t (.int .i64 0),.t (.int .i64 0),.t (.int .i64 0),.t (.int .i64 0),.t (.int .i64 0),.nil]] true true)]) (0,[],s19,f19) ⟨sM,rfl,m19⟩ ?_ ?_
  .refine qL.cv0 (hv:=[(9003,.live 2 [] true false)]) (ho:=[(9002,.live 8 ((l.map ixA).map V.t) true false),(8256,.live 1 [.ref 8240 0 0] true true),(8240,IE 8208 f19),(8208,yS s19),(24624,.live 19 [.agg [.t (.sl (sd.map bsT)),.t (.sl (au.map bsT)),.t (.sl (ent.map qA)),.t (.int .i64 act),.t (.int .i64 res),.t (.int .i64 rst),.t (.int .i64 clk),.t (.bool w),.t (.sl (bk.map vU)),.t (.int .i64 u),.t (.int .i64 mc),.sl 9002 0 N,.t (.int .i64 y13),.t (.int .i64 y14),.t (.int .i64 y15),.t (.int .i64 y16),.t (.int .i64 y17),.t (.int .i64 y18),.sl 9003 0 0]] true true),(4096,.live 19 [.agg [.nil,.nil,.nil,.t (.int .i64 0),.t (.int .i64 0),.t (.int .i64 0),.t (.int .i64 0),.t (.bool false),.nil,.t (.int .i64 0),.t (.int .i64 0),.nil,.t (.int .i64 0),.t (.int .i64 0),.t (.int .i64 0),.t (.int .i64 0),.t (.int .i64 0),.t (.int .i64 0),.nil]] true true)]) id ?_ ?_ rfl rfl;all_goals simp(maxSteps:=9^9)(disch:=try exact dS)only[go_sem,id,jR,yY]
   all_goals rfl
  rintro⟨k,ks,a,f2'⟩ ⟨hk2,hR2,ha⟩;simp only at hk2 hR2 ha;have lk:ks.length=k:=by have:=zLy (s:=et s19 f19) (n:=k);rw[<-hR2]at this;exact this
  rcases(by omega:k<M\/M=k)with c|rfl
  .obtain⟨un,a1,g1',⟨hx1,ha1⟩,e1⟩:=qWr (g:=g5) ha;obtain⟨us,a2,g2',⟨hx2,ha2⟩,e2⟩:=qDt (g:=g2) (k:=1) ⟨ha1,oM,oM⟩;rw[show((1:Nat):Int)=1 from rfl]at e2;have hs:(ks++[⟨un,us⟩],et a2 g2')=zPg (et s19 f19) (k+1):=by simp only[zPg,jJ5,<-hR2,<-hx1,<-hx2]
   simp only[rdO,jR]at e1 e2;simp(maxSteps:=9^9)(disch:=try exact dS)only[go_sem,jR,yY,c,h2,h5,e1,e2,lk];repeat refine aiG ?_
   refine qYo.of (k+1,ks++[⟨un,us⟩],a2,g2') ⟨by show k+1<=M;omega,hs,ha2⟩ (by show M-(k+1)<M-k;omega) (qL.rd (λj=>if j=9003 then 127040 else j) ?_ ?_ rfl);all_goals simp(maxSteps:=9^9)(disch:=try exact dS)only[go_sem,id,jR,yY,lvA]
   all_goals simp only[map_append,mcn,lvA]
  have hsa:zPh σ=(⟨sd,au,ent,act,res,rst,clk,w,bk,u,mc,l,⟨y13,y14,y15,y16,y17,y18⟩,ks⟩,et a f2'):=by simp only[zPh,Int.toNat_natCast,<-q1,<-q2,<-q3,<-q4,<-q5,<-q6,<-q7,hw,q8,<-q9,<-q10,<-q11,<-hR,<-q13,<-q14,<-q15,<-q16,<-q17,<-q18,<-q19,<-hR2]
  have hB':zW4 b=if xM (et a f2')≠0 then(default,xM (et a f2')) else(⟨sd,au,ent,act,res,rst,clk,w,bk,u,mc,l,⟨y13,y14,y15,y16,y17,y18⟩,ks⟩,0):=by rw[hB,jJ4,hsa]
  have ta:List.take N l=l:=take_of_length_le oM;have td:List.take M ks=ks:=take_of_length_le oM;by_cases cf:f2'=0
  rotate_left
  .rw[zFj (s:=et a f2') cf,if_pos cf]at hB';simp(maxSteps:=9^9)(disch:=try exact dS)only[go_sem,jR,yY,cf,ll,lk];repeat refine aiG ?_
   exact jFv default f2' hB'.symm rfl rfl
  have hae:=ha.2 cf;have ee:=qSn ha.1;have hee:xM (et a f2')=xM a:=by simp only[xM,cf,hae]
  rw[hee]at hB';subst cf;simp only[rdO,hae]at ee;generalize xM a=z at *;by_cases cz':z=0
  .subst cz';rw[if_neg sM]at hB';simp(maxSteps:=9^9)(disch:=try exact dS)only[go_sem,jR,yY,hae,h9,ee,ll,lk];repeat refine aiG ?_
   exact jFv _ 0 hB'.symm (by simp only[saA,lkA,ta,td]) rfl
  .rw[if_pos cz']at hB';simp(maxSteps:=9^9)(disch:=try exact dS)only[go_sem,jR,yY,hae,h9,ee,cz',ll,lk];repeat refine aiG ?_
   exact jFv default z hB'.symm rfl rfl
theorem BkS.ext {act:Int}{bk:List zD}(h:BkS act bk)(i:Nat)(ds:List (List UInt8)):BkS act (qSb bk i ds):=by
 rcases h with rfl|⟨h1,h2⟩
 .exact .inl rfl
 .exact .inr ⟨h1,h2.ext i ds⟩
theorem BkS.rst {act:Int}{bk:List zD}(h:BkS act bk)(i:Nat):BkS act (zTt bk i):=by
 rcases h with rfl|⟨h1,b0,b1,rfl,h0,h3,z0,z1⟩
 .exact .inl rfl
 .refine .inr ⟨h1,_,_,rfl,qIn.trans h0,qIn.trans h3,?_,?_⟩
  .unfold zPj;split
   .exact zCu z0 (by simp[szA])
   .exact z0
  .unfold zPj;split
   .exact zCu z1 (by simp[szA])
   .exact z1
theorem BkS.res {act:Int}{bk:List zD}(h:BkS act bk):BkS act (zCi bk):=by
 rcases h with rfl|⟨h1,b0,b1,rfl,h0,h3,z0,z1⟩
 .exact .inl rfl
 .exact .inr ⟨h1,_,_,rfl,qCm.trans h0,qCm.trans h3,zUv sM z0 4,zUv sM z1 4⟩
theorem BkS.new {act:Int}(h:0<=act/\act<=3):BkS act (vL act):=by
 rcases(by omega:act=0\/(1<=act/\act<=3))with rfl|h1
 .exact .inl rfl
 .exact .inr ⟨h1,.new h1⟩
theorem zGa  (s:Sa) :
  qHt.1.wp tab gl (qD 0 [.t (saA s)]) (qD 0 []) (qZ [(2,(some (30,true)))] 0 (qNg.K s)):=by
 simp +contextual(maxSteps:=9^9)(disch:=try exact dS)only[go_sem,qHt,saA,↓vO,↓kC,qT3];exact⟨rfl,jTs rfl rfl⟩
theorem qYd (h1:LkC tab 160 qAg)(h2:LkC tab 167 qJy)(s:St)(m:Int)(hp:s.a.Ok/\s.cn 1000000) :
  jK.1.wp tab gl (qD 0 [.t (stA s),.t (.int .i64 m)]) (qD 0 []) (qZ [(4,(some (30,true))),(5,none)] 0 (qOr.K (s,m))):=by
 obtain⟨ok,c1,c2,c3,c4,c5⟩:=hp;have q1:=ok.res;have q2:=ok.rst;have q3:=ok.act;have e2:=jPi (u:=s.a.u) ok.bk.rv.rm;simp only[yR]at e2;by_cases d1:s.on=true
 .simp +contextual(maxSteps:=9^9)(disch:=try exact dS)only[go_sem,jK,stA,d1,↓vO,↓kC,qT3];exact zIy default 28 (by rw[zG5,if_pos (.inl d1)];exact⟨rfl,rfl⟩) rfl rfl
 by_cases d2:s.off=true
 .simp +contextual(maxSteps:=9^9)(disch:=try exact dS)only[go_sem,jK,stA,d1,d2,↓vO,↓kC,qT3];exact zIy default 28 (by rw[zG5,if_pos (.inr d2)];exact⟨rfl,rfl⟩) rfl rfl
 have d1':s.on=false:=by simpa using d1
 have d2':s.off=false:=by simpa using d2
 by_cases m0:m=0
 .subst m0;have hS:zG5 s 0=(qSr s,0):=by simp[zG5,d1',d2']
  rcases(by omega:s.a.act=0\/(1<=s.a.act/\s.a.act<=3))with ha|ha
  .simp +contextual(maxSteps:=9^9)(disch:=try exact dS)only[go_sem,jK,stA,d1',d2',h1,ha,zYx,↓vO,↓kC,qT3]
   (repeat' (first|apply And.intro|intro _))<;>(try rfl)
   refine zIy (qSr s) 0 (by rw[hS];exact⟨rfl,rfl⟩) ?_ rfl;rw[qSr,ha];simp only[stA,ha,d2'];rfl
  .obtain⟨b0,b1,eb,e1⟩:=zSn ha;simp +contextual(maxSteps:=9^9)(disch:=try exact dS)only[go_sem,jK,stA,d1',d2',h1,e1,take_length,↓vO,↓kC,qT3]
   (repeat' (first|apply And.intro|intro _))<;>(try rfl)
   refine zIy (qSr s) 0 (by rw[hS];exact⟨rfl,rfl⟩) ?_ rfl;rw[qSr,eb];simp only[stA,d2'];rfl
 by_cases m1:m=1
 .subst m1;by_cases m2:s.a.bk.length=0
  .simp +contextual(maxSteps:=9^9)(disch:=try exact dS)only[go_sem,jK,stA,d1',d2',h2,e2,m2,↓vO,↓kC,qT3];exact zIy default 16 (by simp[zG5,d1',d2',m2]) rfl rfl
  .have hS:zG5 s 1=(jTd s,0):=by simp only[zG5,d1',d2',m2];rfl
   simp +contextual(maxSteps:=9^9)(disch:=try exact dS)only[go_sem,jK,stA,d1',d2',h2,e2,m2,↓vO,↓kC,qT3]
   (repeat' (first|apply And.intro|intro _))<;>(try rfl)
   refine zIy (jTd s) 0 (by rw[hS];exact⟨rfl,rfl⟩) ?_ rfl;rw[jTd];simp only[stA,d2',map_nil]
 .simp +contextual(maxSteps:=9^9)(disch:=try exact dS)only[go_sem,jK,stA,d1',d2',m0,m1,↓vO,↓kC,qT3];exact zIy default 1 (by simp[zG5,d1',d2',m0,m1]) rfl rfl
theorem qZo (h1:LkC tab 63 yQ)(h2:LkC tab 61 qTr)(s:St)(n:Int)(hp:s.a.en.length=32/\(0<=s.dr/\s.dr<=1000000000)/\1<=n/\n<=1024) :
  qE1.1.wp tab gl (qD 0 [.t (stA s),.t (.int .i64 n)]) (qD 0 []) (qZ [(4,(some (30,true))),(5,none)] 0 (qOk.K (s,n))):=by
 have e1:=@qUd [] s.a.res (by decide);have e2:=@qUd (beI 8 s.a.res 8) s.a.rst (by simp[beI]);have e3:=@qUd (beI 8 s.a.res 8++beI 8 s.a.rst 8) s.dr (by simp[beI]);have e4:=zEl (k:=s.a.en) (l:=[114,97,110,100,111,109]) (c:=jPc s) (n:=n.toNat) ⟨oM,sM,by simp[jPc,beI],oM,oM⟩;rw[show((n.toNat:Nat):Int)=n by omega,show drv s.a.en [114,97,110,100,111,109] (jPc s) n.toNat=qY1 s n from rfl]at e4;have l1:(beI 8 s.a.res 8).length=8:=by simp[beI]
 have l2:(beI 8 s.a.res 8++beI 8 s.a.rst 8).length=16:=by simp[beI]
 have l3:(beI 8 s.a.res 8++beI 8 s.a.rst 8++beI 8 s.dr 8).length=24:=by simp[beI]
 simp only[map_nil,nil_append,length_nil,jPc,l1,l2,Nat.reduceAdd]at e1 e2 e3 e4;generalize beI 8 s.a.res 8++beI 8 s.a.rst 8++beI 8 s.dr 8=y3 at *;generalize beI 8 s.a.res 8++beI 8 s.a.rst 8=y2 at *;generalize beI 8 s.a.res 8=y1 at *;have t1:y1.take 8=y1:=take_of_length_le oM;have t2:y2.take 16=y2:=take_of_length_le oM;have t3:y3.take 24=y3:=take_of_length_le oM;simp +contextual(maxSteps:=9^9)(disch:=try exact dS)only[go_sem,qE1,stA,h1,h2,e1,e2,e3,e4,l1,l2,l3,t1,t2,t3,↓vO,↓kC,qT3]
 (repeat' (first|apply And.intro|intro _))<;>(try rfl)
 exact jWr { s with dr:=s.dr+1 } _ ⟨rfl,rfl⟩ rfl rfl
theorem zSh {l:List (List UInt8)}{n m:Nat}(h:l.length=n/\∀x∈l,x.length<=m)(hn:n<1000000)(hm:m<1000000):zYr l:=⟨oM,λx hx=>by have:=h.2 x hx;omega⟩
theorem Ix.Ok.M {x:Ix}(h:x.Ok):x.M:=by
 unfold Ix.Ok at h;unfold Ix.M;omega
theorem Obj.Ok.M {x:Obj}(h:x.Ok):x.M:=by
 unfold Obj.Ok Pu.Ok Sn.Ok at h;unfold Obj.M;omega
theorem Ses.Ok.M {x:Ses}(h:x.Ok):x.M:=by
 unfold Ses.Ok at h;unfold Ses.M;omega
theorem Sa.Ok.M {s:Sa}(h:s.Ok):s.M:=by
 have h1:=h.en;have h2:=h.ix;have h3:=h.ks;refine⟨zSh h.sd oM oM,zSh h.au oM oM,oM,h.bk.rv.rm,⟨oM,λx hx=>(h2.2 x hx).M⟩,⟨oM,λx hx=>?_⟩⟩;have:=h3.2 x hx;unfold Lv.Ok at this;omega
theorem St.Ok.M {s:St}(h:s.Ok)(c:s.cn 1000000):s.M:=by
 have h1:=h.ses;have h2:=h.obs;have hc:=c;unfold St.cn at hc;exact⟨h.a.M,h.bk.rv.rm,oM,oM,⟨oM,λx hx=>(h1.2 x hx).M⟩,⟨oM,λx hx=>(h2.2 x hx).M⟩⟩
def qNi:ECt where
 α:=Dk×Int×Int
 β:=Dk
 aS:=λ(k,a,t)=>[.t (dkA k),.t (.int .i64 a),.t (.int .i64 t)]
 pre:=λ(k,a,t)=>True
 r:=λr'=>.t (dkA r')
 R:=λ(k,a,t) r'=>r' = { k with cut:=a,tn:=t }
 inj:=by rintro⟨k,a,t⟩ ⟨k',a',t'⟩ e _;simp only[qBa,qL2,qT4]at e;obtain⟨rfl,rfl,rfl⟩:=e;rfl
theorem jLi {g:EF qNi}{k:Dk}{a t:Int}:qNi.fs g [.t (dkA k),.t (.int .i64 a),.t (.int .i64 t)] []=some (.t (dkA ({ k with cut:=a,tn:=t })),[]):=fnQ qNi (k,a,t) trivial
theorem zW1 {k:Dk}{a t:Int}(hV:vv=.t (dkA ({ k with cut:=a,tn:=t })))(hO:oo=[]):qNi.K (k,a,t) vv oo:=⟨_,rfl,hV,hO⟩
theorem zI5  (k:Dk)(a t:Int) :
  qJg.1.wp tab gl (qD 0 [.t (dkA k),.t (.int .i64 a),.t (.int .i64 t)]) (qD 0 []) (qZ [(6,(some (5,true)))] 0 (qNi.K (k,a,t))):=by
 simp(disch:=omega)only[go_sem,qJg,dkA];.repeat first|exact(zW1 rfl rfl)|refine⟨rfl,?_⟩
def nuF (l:List UInt8)(i:Int):Int:=if i<l.length then((l.getD i.toNat 0).toNat:Int) else i
theorem jN9 {l:List UInt8}{i:Int}(h:0<=i/\i<=255):0<=nuF l i/\nuF l i<=255:=by
 unfold nuF;split
 .have:=(l.getD i.toNat 0).toNat_lt;omega
 .exact h
def qK2:ECt where
 α:=List UInt8×Int
 β:=Int
 aS:=λ(l,i)=>[.t (.sl (l.map qA)),.t (.int .i64 i)]
 pre:=λ(l,i)=>0<=i
 r:=λr'=>.t (.int .i64 r')
 R:=λ(l,i) r'=>r'=nuF l i
theorem jSb {g:EF qK2}{l:List UInt8}{i:Int}(hp:0<=i):qK2.fs g [.t (.sl (l.map qA)),.t (.int .i64 i)] []=some (.t (.int .i64 (nuF l i)),[]):=fnQ qK2 (l,i) hp
theorem jYd {l:List UInt8}{i:Int}(hV:vv=.t (.int .i64 (nuF l i)))(hO:oo=[]):qK2.K (l,i) vv oo:=⟨_,rfl,hV,hO⟩
theorem zGc  (l:List UInt8)(i:Int)(hp:0<=i) :
  qD6.1.wp tab gl (qD 0 [.t (.sl (l.map qA)),.t (.int .i64 i)]) (qD 0 []) (qZ [(4,none)] 0 (qK2.K (l,i))):=by
 have hK:∀vv,vv=.t (.int .i64 (nuF l i))->qK2.K (l,i) vv []:=λvv h=>jYd h rfl
 unfold nuF at hK;obtain⟨n,rfl⟩:=Int.eq_ofNat_of_zero_le hp;by_cases c:n<l.length
 .have c':((n:Nat):Int)<l.length:=oM;obtain⟨x,hg,_,_⟩:=qX c;rw[if_pos c',Int.toNat_natCast,zB2 hg]at hK;simp(disch:=omega)only[go_sem,qD6,c,hg,oms];repeat refine aiG ?_
  exact hK _ rfl
 .have c':¬ ((n:Nat):Int)<l.length:=oM;rw[if_neg c']at hK;simp(disch:=omega)only[go_sem,qD6,c];repeat refine aiG ?_
  exact hK _ rfl
def qIf:ECt where
 α:=Int×List Int
 β:=Rq
 aS:=λ(c,ns)=>[.t (.int .i64 c),.t (.sl (ns.map iT))]
 pre:=λ(c,ns)=>True
 r:=λr'=>.t (rqA r')
 R:=λ(c,ns) r'=>r'=⟨c,[1,257],[⟨0,[],[]⟩],ns,[]⟩
theorem jEr {g:EF qIf}{c:Int}{ns:List Int}:qIf.fs g [.t (.int .i64 c),.t (.sl (ns.map iT))] []=some (.t (rqA (⟨c,[1,257],[⟨0,[],[]⟩],ns,[]⟩)),[]):=fnQ qIf (c,ns) trivial
theorem jBs {c:Int}{ns:List Int}(hV:vv=.t (rqA (⟨c,[1,257],[⟨0,[],[]⟩],ns,[]⟩)))(hO:oo=[]):qIf.K (c,ns) vv oo:=⟨_,rfl,hV,hO⟩
theorem zDe {g1}(h1:LkE tab 8 qE9 g1)(c:Int)(ns:List Int) :
  qGp.1.wp tab gl (qD 0 [.t (.int .i64 c),.t (.sl (ns.map iT))]) (qD 0 []) (qZ [(4,(some (5,true)))] 0 (qIf.K (c,ns))):=by
 have e:=zMs (g:=g1) (q:=⟨c,[1,257],[],ns,[]⟩) (v:=[]);simp only[rqA,mcn,iT,qG]at e;simp(disch:=omega)only[go_sem,qGp,h1,e];repeat refine aiG ?_
 .repeat first|exact(jBs rfl rfl)|refine⟨rfl,?_⟩
def qO1:ECt where
 α:=Unit
 β:=Rq
 aS:=λ_=>[]
 pre:=λ_=>True
 r:=λr'=>.t (rqA r')
 R:=λ_ r'=>r'=qC .df
 inj:=λ_ _ _ _=>rfl
theorem jEt {g:EF qO1}  : qO1.fs g [] []=some (.t (rqA (qC .df)),[]):=fnQ qO1 () trivial
theorem jBt  (hV:vv=.t (rqA (qC .df)))(hO:oo=[]):qO1.K () vv oo:=⟨_,rfl,hV,hO⟩
theorem zGb {g1}(h1:LkE tab 8 qE9 g1)  :
  qHv.1.wp tab gl (qD 0 []) (qD 0 []) (qZ [(0,(some (5,true)))] 0 (qO1.K ())):=by
 have e:=zMs (g:=g1) (q:=⟨21,[1],[],[1,2,48,8],[[],[]]⟩) (v:=[]);simp only[rqA,mcn,iT,qG]at e;simp(disch:=omega)only[go_sem,qHv,h1,e];repeat refine aiG ?_
 .repeat first|exact(jBt rfl rfl)|refine⟨rfl,?_⟩
theorem yEu {α:Type}{P:α->Prop}{a b c d:α}(h:P a)(g:P b)(k:P c)(l:P d):∀x∈[a,b,c,d],P x:=λx hx=>by
 simp only[mem_cons,not_mem_nil,or_false]at hx;rcases hx with rfl|rfl|rfl|rfl
 .exact h
 .exact g
 .exact k
 .exact l
theorem yDo:(qC .df).W where
 co:=by show coK 21;unfold coK;omega
 hs:=⟨rfl,zAk oM⟩
 au:=⟨rfl,zAk ⟨by decide,sM,sM⟩⟩
 ns:=⟨rfl,yEu (qG6 oM) (qG6 oM) (qG6 oM) (qG6 oM)⟩
 bl:=⟨.inl rfl,jN0 sM sM⟩
 le:=by rw[qW9];simp[qC,rqT,wH,wA,w8,qN,qYf]
theorem yCz:(qC .ic).W where
 co:=by show coK 25;unfold coK;omega
 hs:=⟨rfl,jN0 oM oM⟩
 au:=⟨rfl,zAk ⟨by decide,sM,sM⟩⟩
 ns:=⟨rfl,zE7⟩
 bl:=⟨.inl rfl,zE7⟩
 le:=by rw[qW9];simp[qC,rqT,wH,wA,w8,qN,qYf]
theorem yDs:(qC .ud).W where
 co:=by show coK 22;unfold coK;omega
 hs:=⟨rfl,zAk oM⟩
 au:=⟨rfl,zAk ⟨by decide,sM,sM⟩⟩
 ns:=⟨rfl,zAk (qG6 oM)⟩
 bl:=⟨.inl rfl,zE7⟩
 le:=by rw[qW9];simp[qC,rqT,wH,wA,w8,qN,qYf]
theorem yC0:(qC .rd).W where
 co:=by show coK 24;unfold coK;omega
 hs:=⟨rfl,jN0 oM oM⟩
 au:=⟨rfl,zAk ⟨by decide,sM,sM⟩⟩
 ns:=⟨rfl,jN0 (qG6 oM) (qG6 oM)⟩
 bl:=⟨.inl rfl,zE7⟩
 le:=by rw[qW9];simp[qC,rqT,wH,wA,w8,qN,qYf]
def ixK (s:St):Prop:=s.a.ix=[]\/s.a.ix=[ctI 0]\/s.a.ix=[ctI s.a.mc]
theorem ixK.o {s:St}(h:ixK s):ixO s.a.ix:=by
 rcases h with h|h|h
 .exact .inl h
 .exact .inr ⟨_,h,rfl⟩
 .exact .inr ⟨_,h,rfl⟩
theorem ixK.p {s:St}(h:ixK s)(hs:s.Tp):s.a.ix=[]\/zNm s:=by
 have hm:=hs.a.mc;rcases h with h|h|h
 .exact .inl h
 .exact .inr ⟨⟨hs.wl,hs.rl⟩,oM,.inl h⟩
 .exact .inr ⟨⟨hs.wl,hs.rl⟩,oM,.inr h⟩
theorem zNm.e {s:St}(h:zNm s):(qRw s 257).2=0:=by
 have hp:ixP s.a.ix 257 0=0:=by rcases h.2.2 with h|h<;>rw[h]<;>simp[ixP,ctI,cnI]
 rw[qRw,hp];rfl
theorem zPy {v:Int}:(beI 8 v 8).length=8:=qN
theorem jUb {s:St}(h:s.Tp):(dfS s).Tp:=by
 have a:=h.a;exact⟨⟨a.sd,a.au,a.en,a.act,a.res,a.rst,a.clk,a.bk,a.mc,.inr ⟨_,_,rfl,zPy⟩,a.lk,a.ks⟩,h.on,h.off,h.clk,h.rl,h.wl,h.bk,h.u,h.dr,h.ses,h.obs⟩
theorem jXk {s:St}(h:s.Tp):(udS s).Tp:=by
 have a:=h.a;exact⟨⟨a.sd,a.au,a.en,a.act,a.res,a.rst,a.clk,a.bk,a.mc,.inl rfl,a.lk,a.ks⟩,h.on,h.off,h.clk,h.rl,h.wl,h.bk,h.u,h.dr,h.ses,h.obs⟩
theorem jUr {s:St}(h:s.Tp)(hm:s.a.mc<=999):(icS s).Tp:=by
 have a:=h.a;have m:=a.mc;exact⟨⟨a.sd,a.au,a.en,a.act,a.res,a.rst,a.clk,a.bk,by show 0<=s.a.mc+1/\s.a.mc+1<=1000;omega,.inr ⟨_,_,rfl,zPy⟩,a.lk,a.ks⟩,h.on,h.off,h.clk,h.rl,h.wl,h.bk,h.u,h.dr,h.ses,h.obs⟩
theorem h12:(0:Int)<=1/\(1:Int)<=2:=by decide
theorem jQa {s:St}(h:s.Tp)(hm:s.a.mc<=999)(hx:ixK s):(SnP s 0 .df/\SnP s 0 .ud/\SnP s 0 .ic/\SnP s 0 .rd)/\((jD s .df).1.Tp/\(jD s .ud).1.Tp/\(jD s .ic).1.Tp):=by
 have hl:s.a.lk.fa=0/\1<=s.a.lk.mx:=by rw[h.a.lk];decide
 have k1:CkP s (qC .df):= .vl _ 1 ⟨h.en,h12,.inl ⟨rfl,rfl⟩,rfl⟩ hl;have k2:CkP s (qC .ud):= .vl _ 1 ⟨h.en,h12,.inr (.inr (.inl ⟨rfl,rfl⟩)),rfl⟩ hl;have t1:(jD s .df).1.Tp:=by
  show(dfR s).1.Tp;unfold dfR;split
  .exact jUb h
  .exact h
 have t2:(jD s .ud).1.Tp:=by
  show(udR s).1.Tp;unfold udR;split
  .exact h
  .exact jXk h
 have t3:(jD s .ic).1.Tp:=by
  show(icR s).1.Tp;unfold icR;split
  .exact h
  .exact jUr h hm
 have t4:(jD s .rd).1.Tp:=by
  show(zL5 s).1.Tp;unfold zL5;split<;>exact h
 have w1:(jD s .df).2.W:=by
  show(dfR s).2.W;unfold dfR;split<;>exact zCj (by decide)
 have w2:(jD s .ud).2.W:=by
  show(udR s).2.W;unfold udR;split<;>exact zCj (by decide)
 have w3:(jD s .ic).2.W:=by
  show(icR s).2.W;unfold icR;split<;>exact zCj (by decide)
 have w4:(jD s .rd).2.W:=by
  show(zL5 s).2.W;unfold zL5 rdR;split
  .exact zCj (by decide)
  split
  .exact zCj (by decide)
  .exact Rs.W.mk1 (by decide) ⟨sM,zE7⟩ ⟨sM,zAk (by rw[zPy];omega)⟩ (λh=>absurd rfl h)
 refine⟨⟨⟨⟨⟨k1,h.en,hx.o⟩,.inr ⟨h.en,.inr (.inr (.inl rfl))⟩,by decide,.inr h.on,.inr (.inl ⟨rfl,k1,.inr (.inr (.inl rfl))⟩)⟩,yDo,w1,t1.a.B⟩,
  ⟨⟨⟨k2,h.en,hx.o,h.rl,h.wl⟩,.inr ⟨h.en,.inr (.inr (.inr (.inl rfl)))⟩,by decide,.inr h.on,.inr (.inl ⟨rfl,k2,.inr (.inr (.inr (.inl rfl)))⟩)⟩,yDs,w2,t2.a.B⟩,?_,?_⟩,t1,t2,t3⟩
 .rcases hx.p h with h0|h0
  .exact⟨⟨⟨h.en,.inl h0⟩,.inr ⟨h.en,.inr (.inr (.inr (.inr ⟨.inl rfl,hx.o⟩)))⟩,by decide,.inr h.on,.inr (.inr ⟨.inl rfl,h0⟩)⟩,yCz,w3,t3.a.B⟩
  .have k3:CkP s (qC .ic):= .vl _ 1 ⟨h.en,h12,.inr (.inl ⟨rfl,rfl,h0.e⟩),rfl⟩ hl;exact⟨⟨⟨h.en,.inr ⟨k3,h0⟩⟩,.inr ⟨h.en,.inr (.inr (.inr (.inr ⟨.inl rfl,hx.o⟩)))⟩,by decide,.inr h.on,.inr (.inl ⟨rfl,k3,.inr (.inr (.inr (.inr ⟨.inl rfl,h0⟩)))⟩)⟩,yCz,w3,t3.a.B⟩
 .rcases hx.p h with h0|h0
  .exact⟨⟨⟨h.en,.inl h0⟩,.inr ⟨h.en,.inr (.inr (.inr (.inr ⟨.inr rfl,hx.o⟩)))⟩,by decide,.inr h.on,.inr (.inr ⟨.inr rfl,h0⟩)⟩,yC0,w4,t4.a.B⟩
  .have k4:CkP s (qC .rd):= .vl _ 1 ⟨h.en,h12,.inr (.inr (.inr (.inl ⟨rfl,rfl,h0.e⟩))),rfl⟩ hl;exact⟨⟨⟨h.en,.inr ⟨k4,h0⟩⟩,.inr ⟨h.en,.inr (.inr (.inr (.inr ⟨.inr rfl,hx.o⟩)))⟩,by decide,.inr h.on,.inr (.inl ⟨rfl,k4,.inr (.inr (.inr (.inr ⟨.inr rfl,h0⟩)))⟩)⟩,yC0,w4,t4.a.B⟩
theorem jOf {P:Program}{G:Nat->Option (List T)}{f:FuncId}{fn:Func}{ps:Array TypeId}{t e:TypeId}(hf:P.funcs[f]?=some fn)(hname:(fn.name == "runtime.NumGoroutine")=false)(hb:fn.body.isNone=true)(hn:Extern.findNext fn=none)
  (he:Extern.find fn=some (Extern.BytealgMakeNoZero.makeNoZero ps #[t])) (ht:P.underlying t=some (.slice e)):FOk P G f zEg.fs:=by
 intro aS ins r outs hs;have key:∃n:Nat,(n=20\/n=32)/\aS=[.t (.int .i64 n)]/\ins=[]/\r=.sl 0 0 n/\outs=[.live 1 [] true false]:=by
  unfold Ct.fs at hs;split at hs
  .rename_i hx;cases hs;have h1:=hx.choose_spec;generalize hx.choose=y at h1⊢;obtain⟨⟨rfl,rfl⟩,h3⟩:=h1;have h4:(show Int from y)=20\/(show Int from y)=32:=h3;rcases h4 with h4|h4
   .refine⟨20,.inl rfl,?_⟩;have h5:y=(20:Int):=h4;subst h5;exact⟨rfl,rfl,rfl,rfl⟩
   .refine⟨32,.inr rfl,?_⟩;have h5:y=(32:Int):=h4;subst h5;exact⟨rfl,rfl,rfl,rfl⟩
  .cases hs
 obtain⟨n,hn2,rfl,rfl,rfl,rfl⟩:=key;intro w β F vals env fits hargs;have hvals:vals = #[.int .i64 n]:=by
  obtain⟨l⟩:=vals;cases hargs with
  |cons h1 h2=>
   cases h2;cases h1 with
   |t h=>cases h;rfl
 subst hvals;obtain⟨cs,hrun,hle,hmx⟩:=Lib.run_makeNoZero (P:=P) w ps t e ht n oM;refine .inr ⟨.slice (some ⟨w.heap.size,0,none⟩) n cs.size,w.drew.drew.alloc (.cells cs e),?_,.slice (some ⟨w.heap.size,0,none⟩) n cs.size,λk=>if k=0 then some ⟨some w.heap.size,1,cs.size⟩ else none,F,rfl,?_⟩
 .rw[run_callFunc_extern hf hname hb hn he,hrun];rfl
 .have hsz:(w.drew.drew.alloc (.cells cs e)).heap.size=w.heap.size+1:=by
   show(w.heap.push _).size=_;exact Array.size_push _
  have hnew:(w.drew.drew.alloc (.cells cs e)).heap[w.heap.size]?=some (.cells cs e):=by
   show(w.heap.push _)[w.heap.size]?=_;simp
  have hold:∀b,b<w.heap.size->(w.drew.drew.alloc (.cells cs e)).heap[b]?=w.heap[b]?:=by
   intro b hb;show(w.heap.push _)[b]?=_;rw[Array.getElem?_push,if_neg oM]
  have hFb:¬ F w.heap.size:=λh=>absurd (env.Fw _ h) oM
  have mx:n<=maxLen:=by have:(32:Nat)<=maxLen:=(by decide);omega
  refine⟨⟨λk o hk=>?_,λk hk=>?_,λi j bi bj b h1 h2 h3 h4=>?_,λk bi b h1 h2=>?_⟩,?_,λk hk=>?_,λk bi b _ h1 h2=>?_,λb _=>Iff.rfl,λb hb=>?_,rfl,rfl,rfl,?_,λb hb _=>hold b hb⟩
  .cases k with
   |succ k=>simp at hk
   |zero=>
    simp only[getElem?_cons_zero,Option.some.injEq]at hk;subst hk;refine⟨_,if_pos rfl,⟨rfl,sM,cs,e,(0,0),hnew,oM,sM,sM,hmx mx,λi x h=>by simp at h,?_⟩,1,[],false,rfl⟩;simpa using hFb
  .have:k≠0:=by simp at hk;omega
   exact if_neg this
  .split at h1<;>split at h2<;>simp_all
  .split at h1
   .cases h1;cases h2;exact⟨by rw[hsz];omega,hFb⟩
   .cases h1
  .exact .sl 0 0 n cs.size w.heap.size 1 cs.size _ (if_pos rfl) hle oM (λ_=>sM) rfl
  .simp at hk
  .split at h1
   .cases h1;cases h2;exact Nat.le_refl _
   .cases h1
  .have:=env.Fw b hb;rw[hsz];omega
  .rw[hsz];omega
theorem yFz {tab:Tab}{gl:Gl}{ac:AC}{fs:Fs}{hs:Hs}{rs:List (Nat×Option (Nat×Bool))}{n:Nat}{E:ECt}{x:E.α}(h:ac.wp tab gl fs hs (qZ rs n (E.K x)))(hK:∀y,E.R x y->E.r y=.t (.bool true)/\E.outs y=[]):ac.wp tab gl fs hs (qZ rs n (λr o=>r=.t (.bool true)/\o=[])):=
 zX (λe f g hq=>by
  have h2:∀r o,E.K x r o->r=.t (.bool true)/\o=[]:=λr o ⟨y,h1,h2,h3⟩=>⟨h2.trans (hK y h1).1,h3.trans (hK y h1).2⟩
  cases e with
  |exit id=>exact hq.elim
  |normal=>obtain⟨p,l,h1,hk⟩:=hq;exact⟨p,l,h1,h2 _ _ hk⟩
  |ret=>obtain⟨p,l,h1,hk⟩:=hq;exact⟨p,l,h1,h2 _ _ hk⟩) h
end Go.Eng
end
