/- A part of an abstract machine, its walks, their tie. -/
import Derived.Test.YtekghmfbgbhobaaGreatDoorD27
set_option linter.all false
section
set_option maxHeartbeats 64000000
set_option maxRecDepth 20000
namespace Go.Eng
variable (tab:Tab) (gl:Gl)
theorem qT6 {g1}(h1:LkE tab 118 qBa g1)(h2:LkC tab 17 qQa)(h3:LkC tab 29 qM6){g4}(h4:LkE tab 123 qB3 g4)(h5:LkC tab 113 vT){g6}(h6:LkE tab 145 qCr g6)(s:St)(n m:Int)(b:List UInt8)(hp:s.Ok∧nnI n∧nnI m∧b.length≤60) :
  qCj.1.wp tab gl (qE 0 [.t (stA s),.t (.int .i64 n),.t (.int .i64 m),.t (.sl (b.map qA))]) (qE 0 []) (qX [(8,none),(9,none)] 0 (qE9.K (s,n,m,b))):=by
 obtain⟨hs,hn,hm,hb⟩:=hp;have l1:=hs.ses;obtain⟨y,hy,e1⟩:=qMs (g:=g1) (s:=s) (n:=m) (k:=0) ⟨hs,hm⟩;have m8:n.tmod 8=n%8:=Int.tmod_eq_emod_of_nonneg hn.1;have d8:n.tdiv 8=n/8:=Int.tdiv_eq_ediv_of_nonneg hn.1;have m84:(n/8).tmod 4=n/8%4:=Int.tmod_eq_emod_of_nonneg oM;have m82:(n/8).tmod 256=n/8%256:=Int.tmod_eq_emod_of_nonneg oM;have d3:n.tdiv 3=n/3:=Int.tdiv_eq_ediv_of_nonneg hn.1;have m36:(n/3).tmod 65536=n/3%65536:=Int.tmod_eq_emod_of_nonneg oM;have m831:(n/8).tmod 31=n/8%31:=Int.tmod_eq_emod_of_nonneg oM;have m85:(n/8).tmod 5=n/8%5:=Int.tmod_eq_emod_of_nonneg oM;have d32:n.tdiv 32=n/32:=Int.tdiv_eq_ediv_of_nonneg hn.1;have m324:(n/32).tmod 4=n/32%4:=Int.tmod_eq_emod_of_nonneg oM;have m300:n.tmod 300=n%300:=Int.tmod_eq_emod_of_nonneg hn.1;have f3:vT.fs [.t (.sl (b.map qA)),.t (.int .i64 3)] []=some (.t (.sl ((b.take 3).map qA)),[]):=qCe (n:=3) ⟨oM,oM⟩;have e3:=qWv (b:=b) oM;have ls:(b.take 32++List.replicate (32-b.length) (0:UInt8)).length=32:=soM;generalize b.take 32++List.replicate (32-b.length) (0:UInt8)=sd at *;have ts:List.take 32 sd=sd:=List.take_of_length_le oM;have e3n:=qWv (b:=[]) sM;have lz:(([]:List UInt8).take 32++List.replicate (32-([]:List UInt8).length) (0:UInt8)).length=32:=sM;generalize ([]:List UInt8).take 32++List.replicate (32-([]:List UInt8).length) (0:UInt8)=zd at *;have tz:List.take 32 zd=zd:=List.take_of_length_le oM;obtain⟨w,hw,e4⟩:=zKv (g:=g4) (s:=s) (n:=n/8) ⟨hs,oM,oM⟩;have f2' := @qF2;obtain⟨r1,o1⟩:=zUb s.a.act 1;have fin : ∀ {i:Nat},∀ x∈[b.take i],x.length≤60:=by
  intro i x hx;simp only[List.mem_cons,List.not_mem_nil,or_false] at hx;subst hx;simp;omega
 have fin2 : ∀ {u v:List UInt8},u.length≤60→v.length≤60 → ∀ x∈[u,v],x.length≤60:=by
  intro u v hu hv x hx;simp only[List.mem_cons,List.not_mem_nil,or_false] at hx;rcases hx with rfl | rfl
  ·exact hu
  ·exact hv
 simp only[stA,List.map_nil] at e1 e3n e4;simp(maxSteps:=9^9)(disch:=try exact dS)only[go_sem,qCj,stA,h1,e1];repeat refine aiG ?_
 refine zD (σ:=Nat×Int) (fun t=>t.1≤3∧768≤t.2∧t.2≤770) (fun t=>3-t.1) (fun t=>[(1,.t (.int .i64 n)),(3,.t (.sl (b.map qA))),(4,.ref 4096 0 0),(10,.t (.int .i64 t.2)),(11,.t (.int .i64 t.1))]) (fun t=>[(4096,.live 30 [.t (stA s)] true true)]) (0,y) ⟨sM,hy⟩ ?_ ?_
 ·refine qI.rd id ?_ ?_ rfl;all_goals simp(maxSteps:=9^9)(disch:=try exact dS)only[go_sem,id,stA]
 rintro⟨i,h⟩ ⟨hi,hh⟩;simp only at hi hh;have f2:=qF2 (a:=h-768) (b:=3) ⟨oM,oM⟩;obtain⟨j,hj⟩ : ∃ j:Nat,h-768=j:=⟨(h-768).toNat,oM⟩;have mj:qI8 (h-768) 3=j:=by unfold qI8;omega
 rw[mj] at f2;have m3:(h-768+1).tmod 3=(h-768+1)%3:=Int.tmod_eq_emod_of_nonneg oM;obtain⟨x,hg,hm',_⟩:=qN (l:=s.ses) (k:=j) oM;have hjl:j<s.ses.length:=oM;by_cases c0:i<3∧x.kd=1
 ·obtain⟨c0,c1⟩:=c0;simp(maxSteps:=9^9)(disch:=try exact dS)only[go_sem,stA,c0,h2,f2,hg,hjl,oms,jL,l1.1,c1,m3];repeat refine aiG ?_
  refine qDd.of (i+1,768+(h-768+1)%3) ⟨by show i+1≤3;omega,by show 768≤768+(h-768+1)%3∧768+(h-768+1)%3≤770;omega⟩ (by show 3-(i+1)<3-i;omega) (qI.rd id ?_ ?_ rfl);all_goals simp(maxSteps:=9^9)(disch:=try exact dS)only[go_sem,id,stA]
 obtain⟨z,ze,⟨hz,_⟩,e6⟩:=qQi (g:=g6) (s:=s) (h:=h) ⟨hs,oM,oM⟩;have hd:=hz.2.2.1;simp only[stA,jL] at e6;have c0':(i=3)∨(i<3∧x.kd≠1):=oM;clear c0 hm e1;rcases (by omega:n%8=0∨n%8=1∨n%8=2∨n%8=3∨n%8=4∨n%8=5∨n%8=6∨n%8=7) with c | c | c | c | c | c | c | c;all_goals rcases c0' with rfl | ⟨c0,c1⟩
 ·by_cases d:n/8%4=3
  ·simp(maxSteps:=9^9)(disch:=try exact dS)only[go_sem,stA,m8,c,d8,m84,m82,d3,m36,m831,m85,d32,m324,m300,f3,h2,h3,h4,h5,h6,f2,e3,e3n,e4,e6,o1,ls,lz,ts,tz,hg,hjl,oms,jL,l1.1,mcn,d];repeat refine aiG ?_
   exact qD5 [_,_,_,_,_,_] [sd] ⟨sM,sM,soM⟩ rfl rfl
  ·simp(maxSteps:=9^9)(disch:=try exact dS)only[go_sem,stA,m8,c,d8,m84,m82,d3,m36,m831,m85,d32,m324,m300,f3,h2,h3,h4,h5,h6,f2,e3,e3n,e4,e6,o1,ls,lz,ts,tz,hg,hjl,oms,jL,l1.1,mcn,d];repeat refine aiG ?_
   exact qD5 [_,_,_,_,_,_] [[]] ⟨sM,sM,sM⟩ rfl rfl
 ·by_cases d:n/8%4=3
  ·simp(maxSteps:=9^9)(disch:=try exact dS)only[go_sem,stA,m8,c,d8,m84,m82,d3,m36,m831,m85,d32,m324,m300,f3,h2,h3,h4,h5,h6,f2,e3,e3n,e4,e6,o1,ls,lz,ts,tz,hg,hjl,oms,jL,l1.1,mcn,c0,c1,d];repeat refine aiG ?_
   exact qD5 [_,_,_,_,_,_] [sd] ⟨sM,sM,soM⟩ rfl rfl
  ·simp(maxSteps:=9^9)(disch:=try exact dS)only[go_sem,stA,m8,c,d8,m84,m82,d3,m36,m831,m85,d32,m324,m300,f3,h2,h3,h4,h5,h6,f2,e3,e3n,e4,e6,o1,ls,lz,ts,tz,hg,hjl,oms,jL,l1.1,mcn,c0,c1,d];repeat refine aiG ?_
   exact qD5 [_,_,_,_,_,_] [[]] ⟨sM,sM,sM⟩ rfl rfl
 ·by_cases d:n/8%4=3
  ·simp(maxSteps:=9^9)(disch:=try exact dS)only[go_sem,stA,m8,c,d8,m84,m82,d3,m36,m831,m85,d32,m324,m300,f3,h2,h3,h4,h5,h6,f2,e3,e3n,e4,e6,o1,ls,lz,ts,tz,hg,hjl,oms,jL,l1.1,mcn,d];repeat refine aiG ?_
   exact qD5 [_,_,_,_,_,_] [sd] ⟨sM,sM,soM⟩ rfl rfl
  ·simp(maxSteps:=9^9)(disch:=try exact dS)only[go_sem,stA,m8,c,d8,m84,m82,d3,m36,m831,m85,d32,m324,m300,f3,h2,h3,h4,h5,h6,f2,e3,e3n,e4,e6,o1,ls,lz,ts,tz,hg,hjl,oms,jL,l1.1,mcn,d];repeat refine aiG ?_
   exact qD5 [_,_,_,_,_,_] [[]] ⟨sM,sM,sM⟩ rfl rfl
 ·by_cases d:n/8%4=3
  ·simp(maxSteps:=9^9)(disch:=try exact dS)only[go_sem,stA,m8,c,d8,m84,m82,d3,m36,m831,m85,d32,m324,m300,f3,h2,h3,h4,h5,h6,f2,e3,e3n,e4,e6,o1,ls,lz,ts,tz,hg,hjl,oms,jL,l1.1,mcn,c0,c1,d];repeat refine aiG ?_
   exact qD5 [_,_,_,_,_,_] [sd] ⟨sM,sM,soM⟩ rfl rfl
  ·simp(maxSteps:=9^9)(disch:=try exact dS)only[go_sem,stA,m8,c,d8,m84,m82,d3,m36,m831,m85,d32,m324,m300,f3,h2,h3,h4,h5,h6,f2,e3,e3n,e4,e6,o1,ls,lz,ts,tz,hg,hjl,oms,jL,l1.1,mcn,c0,c1,d];repeat refine aiG ?_
   exact qD5 [_,_,_,_,_,_] [[]] ⟨sM,sM,sM⟩ rfl rfl
 ·simp(maxSteps:=9^9)(disch:=try exact dS)only[go_sem,stA,m8,c,d8,m84,m82,d3,m36,m831,m85,d32,m324,m300,f3,h2,h3,h4,h5,h6,f2,e3,e3n,e4,e6,o1,ls,lz,ts,tz,hg,hjl,oms,jL,l1.1,mcn];repeat refine aiG ?_
  exact qD5 [_,_,_,_,_,_] [] ⟨sM,sM,sM⟩ rfl rfl
 ·simp(maxSteps:=9^9)(disch:=try exact dS)only[go_sem,stA,m8,c,d8,m84,m82,d3,m36,m831,m85,d32,m324,m300,f3,h2,h3,h4,h5,h6,f2,e3,e3n,e4,e6,o1,ls,lz,ts,tz,hg,hjl,oms,jL,l1.1,mcn,c0,c1];repeat refine aiG ?_
  exact qD5 [_,_,_,_,_,_] [] ⟨sM,sM,sM⟩ rfl rfl
 ·rcases (by omega:n/8%5=0∨n/8%5=1∨n/8%5=2∨n/8%5=3∨n/8%5=4) with d | d | d | d | d;all_goals
   simp(maxSteps:=9^9)(disch:=try exact dS)only[go_sem,stA,m8,c,d8,m84,m82,d3,m36,m831,m85,d32,m324,m300,f3,h2,h3,h4,h5,h6,f2,e3,e3n,e4,e6,o1,ls,lz,ts,tz,hg,hjl,oms,jL,l1.1,mcn,d];repeat refine aiG ?_
   exact qD5 [_,_,_,_,_,_] [] ⟨sM,sM,sM⟩ rfl rfl
 ·rcases (by omega:n/8%5=0∨n/8%5=1∨n/8%5=2∨n/8%5=3∨n/8%5=4) with d | d | d | d | d;all_goals
   simp(maxSteps:=9^9)(disch:=try exact dS)only[go_sem,stA,m8,c,d8,m84,m82,d3,m36,m831,m85,d32,m324,m300,f3,h2,h3,h4,h5,h6,f2,e3,e3n,e4,e6,o1,ls,lz,ts,tz,hg,hjl,oms,jL,l1.1,mcn,c0,c1,d];repeat refine aiG ?_
   exact qD5 [_,_,_,_,_,_] [] ⟨sM,sM,sM⟩ rfl rfl
 ·simp(maxSteps:=9^9)(disch:=try exact dS)only[go_sem,stA,m8,c,d8,m84,m82,d3,m36,m831,m85,d32,m324,m300,f3,h2,h3,h4,h5,h6,f2,e3,e3n,e4,e6,o1,ls,lz,ts,tz,hg,hjl,oms,jL,l1.1,mcn];repeat refine aiG ?_
  exact qD5 [_,_,_,_,_,_] [b.take 3] ⟨sM,sM,fin⟩ rfl rfl
 ·simp(maxSteps:=9^9)(disch:=try exact dS)only[go_sem,stA,m8,c,d8,m84,m82,d3,m36,m831,m85,d32,m324,m300,f3,h2,h3,h4,h5,h6,f2,e3,e3n,e4,e6,o1,ls,lz,ts,tz,hg,hjl,oms,jL,l1.1,mcn,c0,c1];repeat refine aiG ?_
  exact qD5 [_,_,_,_,_,_] [b.take 3] ⟨sM,sM,fin⟩ rfl rfl
 ·simp(maxSteps:=9^9)(disch:=try exact dS)only[go_sem,stA,m8,c,d8,m84,m82,d3,m36,m831,m85,d32,m324,m300,f3,h2,h3,h4,h5,h6,f2,e3,e3n,e4,e6,o1,ls,lz,ts,tz,hg,hjl,oms,jL,l1.1,mcn];repeat refine aiG ?_
  exact qD5 [_,_,_,_,_,_] [] ⟨sM,sM,sM⟩ rfl rfl
 ·simp(maxSteps:=9^9)(disch:=try exact dS)only[go_sem,stA,m8,c,d8,m84,m82,d3,m36,m831,m85,d32,m324,m300,f3,h2,h3,h4,h5,h6,f2,e3,e3n,e4,e6,o1,ls,lz,ts,tz,hg,hjl,oms,jL,l1.1,mcn,c0,c1];repeat refine aiG ?_
  exact qD5 [_,_,_,_,_,_] [] ⟨sM,sM,sM⟩ rfl rfl
 ·simp(maxSteps:=9^9)(disch:=try exact dS)only[go_sem,stA,m8,c,d8,m84,m82,d3,m36,m831,m85,d32,m324,m300,f3,h2,h3,h4,h5,h6,f2,e3,e3n,e4,e6,o1,ls,lz,ts,tz,hg,hjl,oms,jL,l1.1,mcn];repeat refine aiG ?_
  exact qD5 [_,_,_,_,_,_] [] ⟨sM,sM,sM⟩ rfl rfl
 ·simp(maxSteps:=9^9)(disch:=try exact dS)only[go_sem,stA,m8,c,d8,m84,m82,d3,m36,m831,m85,d32,m324,m300,f3,h2,h3,h4,h5,h6,f2,e3,e3n,e4,e6,o1,ls,lz,ts,tz,hg,hjl,oms,jL,l1.1,mcn,c0,c1];repeat refine aiG ?_
  exact qD5 [_,_,_,_,_,_] [] ⟨sM,sM,sM⟩ rfl rfl
 ·by_cases d:n/8%4=0
  ·simp(maxSteps:=9^9)(disch:=try exact dS)only[go_sem,stA,m8,c,d8,m84,m82,d3,m36,m831,m85,d32,m324,m300,f3,h2,h3,h4,h5,h6,f2,e3,e3n,e4,e6,o1,ls,lz,ts,tz,hg,hjl,oms,jL,l1.1,mcn,d];repeat refine aiG ?_
   exact qD5 [_,_,_,_,_,_] [sd,zd] ⟨sM,sM,fin2 oM oM⟩ rfl rfl
  by_cases d2:z.dg.length=0
  ·simp(maxSteps:=9^9)(disch:=try exact dS)only[go_sem,stA,m8,c,d8,m84,m82,d3,m36,m831,m85,d32,m324,m300,f3,h2,h3,h4,h5,h6,f2,e3,e3n,e4,e6,o1,ls,lz,ts,tz,hg,hjl,oms,jL,l1.1,mcn,d,d2];repeat refine aiG ?_
   exact qD5 [_,_,_,_,_,_] [sd,zd] ⟨sM,sM,fin2 oM oM⟩ rfl rfl
  ·simp(maxSteps:=9^9)(disch:=try exact dS)only[go_sem,stA,m8,c,d8,m84,m82,d3,m36,m831,m85,d32,m324,m300,f3,h2,h3,h4,h5,h6,f2,e3,e3n,e4,e6,o1,ls,lz,ts,tz,hg,hjl,oms,jL,l1.1,mcn,d,d2];repeat refine aiG ?_
   exact qD5 [_,_,_,_,_,_] [sd,z.dg] ⟨sM,sM,fin2 oM oM⟩ rfl rfl
 ·by_cases d:n/8%4=0
  ·simp(maxSteps:=9^9)(disch:=try exact dS)only[go_sem,stA,m8,c,d8,m84,m82,d3,m36,m831,m85,d32,m324,m300,f3,h2,h3,h4,h5,h6,f2,e3,e3n,e4,e6,o1,ls,lz,ts,tz,hg,hjl,oms,jL,l1.1,mcn,c0,c1,d];repeat refine aiG ?_
   exact qD5 [_,_,_,_,_,_] [sd,zd] ⟨sM,sM,fin2 oM oM⟩ rfl rfl
  by_cases d2:z.dg.length=0
  ·simp(maxSteps:=9^9)(disch:=try exact dS)only[go_sem,stA,m8,c,d8,m84,m82,d3,m36,m831,m85,d32,m324,m300,f3,h2,h3,h4,h5,h6,f2,e3,e3n,e4,e6,o1,ls,lz,ts,tz,hg,hjl,oms,jL,l1.1,mcn,c0,c1,d,d2];repeat refine aiG ?_
   exact qD5 [_,_,_,_,_,_] [sd,zd] ⟨sM,sM,fin2 oM oM⟩ rfl rfl
  ·simp(maxSteps:=9^9)(disch:=try exact dS)only[go_sem,stA,m8,c,d8,m84,m82,d3,m36,m831,m85,d32,m324,m300,f3,h2,h3,h4,h5,h6,f2,e3,e3n,e4,e6,o1,ls,lz,ts,tz,hg,hjl,oms,jL,l1.1,mcn,c0,c1,d,d2];repeat refine aiG ?_
   exact qD5 [_,_,_,_,_,_] [sd,z.dg] ⟨sM,sM,fin2 oM oM⟩ rfl rfl
end Go.Eng
end
