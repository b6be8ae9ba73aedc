/- A part of an abstract machine, its walks, their tie. -/
import Derived.Test.YtekghmfbgbhobaaGreatDoorD41
set_option linter.all false
section
set_option maxHeartbeats 64000000
set_option maxRecDepth 20000
namespace Go.Eng
variable (tab:Tab) (gl:Gl)
variable {vv:V} {oo:List Ob}
theorem qI6 {s:Rd} : ∀ {n:Nat},(qMa s n).1.length=n
 | 0=>rfl
 | n+1=>by simp[qMa,qI6 (n:=n)]
theorem qQr {s:Rd} : ∀ {n:Nat},(qUr s n).1.length=n
 | 0=>rfl
 | n+1=>by simp[qUr,qQr (n:=n)]
theorem qQq {s:Rd} : ∀ {n:Nat},(qTh s n).1.length=n
 | 0=>rfl
 | n+1=>by simp[qTh,qQq (n:=n)]
theorem zLc {s:Rd}{k:Nat}:0≤(qL s k).1∧((qL s k).2.2.2≠0→(qL s k).1=0):=by
 unfold qL;split
 ·exact⟨Int.le_refl _,fun _=>rfl⟩
 ·split
  ·exact⟨Int.le_refl _,fun _=>rfl⟩
  ·split
   ·exact⟨Int.le_refl _,fun _=>rfl⟩
   ·exact⟨Int.natCast_nonneg _,fun h=>absurd rfl h⟩
theorem qZv {s:Rd}{m:Int}(hm:0≤m):0≤(qHf s m).1∧(qHf s m).1≤m:=by
 have h:=zLc (s:=s) (k:=1);unfold qHf;split
 ·exact⟨Int.le_refl _,hm⟩
 ·rename_i hn;refine⟨h.1,?_⟩;by_cases e:(qL s 1).2.2.2=0
  ·have : ¬ m<(qL s 1).1:=fun h=>hn ⟨e,h⟩
   omega
  ·rw[h.2 e];exact hm
theorem zW (s:Rd):yU s = .live 3 [.t (.agg [.sl (s.1.map qA),.int .i64 (s.2.1:Int),.int .i64 s.2.2])] true true:=rfl
theorem qYb (h1:LkC tab 56 qDi)(h2:LkC tab 57 qCn)(h3:LkC tab 58 qVo)(h4:LkC tab 59 qAu)(h5:LkC tab 60 zKi)(h6:LkC tab 61 zKh)(h7:LkC tab 62 qDh)(b:List UInt8)(hp:b.length<100000000) :
  xA.1.wp tab gl (qE 0 [.t (.sl (b.map qA))]) (qE 0 []) (qX [(2,(some (19,true))),(3,none)] 0 (qAf.K b)):=by
 have en:=qLr (b:=b) oM;have o:yH (b,0,0):=⟨Nat.zero_le _,by simp only;omega⟩;obtain⟨⟨v,s0⟩,q0⟩ : ∃ y,qL (b,0,0) 1=y:=⟨_,rfl⟩;have o0:yH s0:=by have:=zR (k:=1) o;rw[q0] at this;exact this
 have e0:=vB (s:=(b,0,0)) (k:=1) ⟨o,oM,oM⟩;rw[q0,show ((1:Nat):Int)=1 from rfl] at e0;have hd:zL9 b=if s0.2.2≠0 then (default,s0.2.2) else if v≠1 then (default,5) else if vS (zBa s0).2≠0 then (default,vS (zBa s0).2) else ((zBa s0).1,0):=by simp only[zL9,q0]
 have cz:(((0:Nat):Nat):Int)=0:=rfl;simp only[rdO,cz] at en e0;by_cases c0:s0.2.2=0
 rotate_left
 ·rw[if_pos c0] at hd;simp(disch:=omega)only[go_sem,xA,h1,h2,h3,h4,h5,h6,h7,en,e0,c0];repeat refine aiG ?_
  exact zHi default s0.2.2 hd.symm rfl rfl
 rw[if_neg (by simpa using c0)] at hd;by_cases c1:v=1
 rotate_left
 ·rw[if_pos c1] at hd;simp(disch:=omega)only[go_sem,xA,h1,h2,h3,h4,h5,h6,h7,en,e0,c0,c1];repeat refine aiG ?_
  exact zHi default 5 hd.symm rfl rfl
 subst c1;rw[if_neg sM] at hd;obtain⟨⟨act,s1⟩,q1⟩ : ∃ y,qHf s0 3=y:=⟨_,rfl⟩;have o1:yH s1:=by have:=qSj (m:=3) o0;rw[q1] at this;exact this
 have e1:=zRx (m:=3) o0;rw[q1] at e1;simp only[rdO,c0] at e1;simp(disch:=omega)only[go_sem,xA,h1,h2,h3,h4,h5,h6,h7,en,e0,c0,e1];repeat refine aiG ?_
 refine qD 3 (fun k=>[(2,.ref 4096 0 0),(4,.ref 8208 0 0),(6,.ref 32784 0 0),(7,.t (.int .i64 (k:Nat)))]) (fun k=>[(9000,.live 1 (((qMa s1 k).1.map bsT).map V.t) true false),(8208,yU (qMa s1 k).2),(32784,.live 19 [.agg [.sl 9000 0 k,.nil,.nil,.t (.int .i64 act),.t (.int .i64 0),.t (.int .i64 0),.t (.int .i64 0),.t (.bool false),.nil,.t (.int .i64 0),.t (.int .i64 0),.nil,.t (.int .i64 0),.t (.int .i64 0),.t (.int .i64 0),.t (.int .i64 0),.t (.int .i64 0),.t (.int .i64 0),.nil]] true true),(4096,.live 19 [.agg [.nil,.nil,.nil,.t (.int .i64 0),.t (.int .i64 0),.t (.int .i64 0),.t (.int .i64 0),.t (.bool false),.nil,.t (.int .i64 0),.t (.int .i64 0),.nil,.t (.int .i64 0),.t (.int .i64 0),.t (.int .i64 0),.t (.int .i64 0),.t (.int .i64 0),.t (.int .i64 0),.nil]] true true)]) ?_ (fun k hk=>?_)
 ·refine qI.cv0 (hv:=[(9000,.live 1 [] true false)]) (ho:=[(8208,yU s1),(32784,.live 19 [.agg [.sl 9000 0 0,.nil,.nil,.t (.int .i64 act),.t (.int .i64 0),.t (.int .i64 0),.t (.int .i64 0),.t (.bool false),.nil,.t (.int .i64 0),.t (.int .i64 0),.nil,.t (.int .i64 0),.t (.int .i64 0),.t (.int .i64 0),.t (.int .i64 0),.t (.int .i64 0),.t (.int .i64 0),.nil]] true true),(4096,.live 19 [.agg [.nil,.nil,.nil,.t (.int .i64 0),.t (.int .i64 0),.t (.int .i64 0),.t (.int .i64 0),.t (.bool false),.nil,.t (.int .i64 0),.t (.int .i64 0),.nil,.t (.int .i64 0),.t (.int .i64 0),.t (.int .i64 0),.t (.int .i64 0),.t (.int .i64 0),.t (.int .i64 0),.nil]] true true)]) id ?_ ?_ rfl rfl;all_goals simp(disch:=omega)only[go_sem,id,zW]
  all_goals rfl
 rcases (by omega:k<3∨k=3) with c | rfl
 ·obtain⟨⟨l,t⟩,hy⟩ : ∃ y,qMa s1 k=y:=⟨_,rfl⟩;have ot:yH t:=by have:=qWc o1 k;rw[hy] at this;exact this
  have ll:l.length=k:=by have:=qI6 (s:=s1) (n:=k);rw[hy] at this;exact this
  obtain⟨⟨x,t'⟩,qb⟩ : ∃ y,zA t 4096=y:=⟨_,rfl⟩;have hs:qMa s1 (k+1)=(l++[x],t'):=by simp only[qMa,hy,qb]
  have eb:=qCz (s:=t) (k:=4096) ⟨ot,oM⟩;rw[qb,show ((4096:Nat):Int)=4096 from rfl] at eb;simp only[rdO] at eb;simp(disch:=omega)only[go_sem,zW,hy,c,h4,eb,ll];repeat refine aiG ?_
  refine qI.rd (fun j=>if j=9000 then 53328 else j) ?_ ?_ rfl;all_goals simp(disch:=omega)only[go_sem,id,zW,hs,ll]
 obtain⟨⟨sd,s2⟩,q2⟩ : ∃ y,qMa s1 3=y:=⟨_,rfl⟩;have o2:yH s2:=by have:=qWc o1 3;rw[q2] at this;exact this
 have l2:sd.length=3:=by have:=qI6 (s:=s1) (n:=3);rw[q2] at this;exact this
 simp(disch:=omega)only[go_sem,zW,q2];refine qD 4 (fun k=>[(2,.ref 4096 0 0),(4,.ref 8208 0 0),(6,.ref 32784 0 0),(8,.t (.int .i64 (k:Nat)))]) (fun k=>[(9001,.live 1 (((qMa s2 k).1.map bsT).map V.t) true false),(9000,.live 1 ((sd.map bsT).map V.t) true false),(8208,yU (qMa s2 k).2),(32784,.live 19 [.agg [.sl 9000 0 3,.sl 9001 0 k,.nil,.t (.int .i64 act),.t (.int .i64 0),.t (.int .i64 0),.t (.int .i64 0),.t (.bool false),.nil,.t (.int .i64 0),.t (.int .i64 0),.nil,.t (.int .i64 0),.t (.int .i64 0),.t (.int .i64 0),.t (.int .i64 0),.t (.int .i64 0),.t (.int .i64 0),.nil]] true true),(4096,.live 19 [.agg [.nil,.nil,.nil,.t (.int .i64 0),.t (.int .i64 0),.t (.int .i64 0),.t (.int .i64 0),.t (.bool false),.nil,.t (.int .i64 0),.t (.int .i64 0),.nil,.t (.int .i64 0),.t (.int .i64 0),.t (.int .i64 0),.t (.int .i64 0),.t (.int .i64 0),.t (.int .i64 0),.nil]] true true)]) ?_ (fun k hk=>?_)
 ·refine qI.cv0 (hv:=[(9001,.live 1 [] true false)]) (ho:=[(9000,.live 1 ((sd.map bsT).map V.t) true false),(8208,yU s2),(32784,.live 19 [.agg [.sl 9000 0 3,.sl 9001 0 0,.nil,.t (.int .i64 act),.t (.int .i64 0),.t (.int .i64 0),.t (.int .i64 0),.t (.bool false),.nil,.t (.int .i64 0),.t (.int .i64 0),.nil,.t (.int .i64 0),.t (.int .i64 0),.t (.int .i64 0),.t (.int .i64 0),.t (.int .i64 0),.t (.int .i64 0),.nil]] true true),(4096,.live 19 [.agg [.nil,.nil,.nil,.t (.int .i64 0),.t (.int .i64 0),.t (.int .i64 0),.t (.int .i64 0),.t (.bool false),.nil,.t (.int .i64 0),.t (.int .i64 0),.nil,.t (.int .i64 0),.t (.int .i64 0),.t (.int .i64 0),.t (.int .i64 0),.t (.int .i64 0),.t (.int .i64 0),.nil]] true true)]) id ?_ ?_ rfl rfl;all_goals simp(disch:=omega)only[go_sem,id,zW]
  all_goals rfl
 rcases (by omega:k<4∨k=4) with c | rfl
 ·obtain⟨⟨l,t⟩,hy⟩ : ∃ y,qMa s2 k=y:=⟨_,rfl⟩;have ot:yH t:=by have:=qWc o2 k;rw[hy] at this;exact this
  have ll:l.length=k:=by have:=qI6 (s:=s2) (n:=k);rw[hy] at this;exact this
  obtain⟨⟨x,t'⟩,qb⟩ : ∃ y,zA t 4096=y:=⟨_,rfl⟩;have hs:qMa s2 (k+1)=(l++[x],t'):=by simp only[qMa,hy,qb]
  have eb:=qCz (s:=t) (k:=4096) ⟨ot,oM⟩;rw[qb,show ((4096:Nat):Int)=4096 from rfl] at eb;simp only[rdO] at eb;simp(disch:=omega)only[go_sem,zW,hy,c,h4,eb,ll];repeat refine aiG ?_
  refine qI.rd (fun j=>if j=9001 then 69712 else j) ?_ ?_ rfl;all_goals simp(disch:=omega)only[go_sem,id,zW,hs,ll]
 obtain⟨⟨au,s3⟩,q3⟩ : ∃ y,qMa s2 4=y:=⟨_,rfl⟩;have o3:yH s3:=by have:=qWc o2 4;rw[q3] at this;exact this
 have l3:au.length=4:=by have:=qI6 (s:=s2) (n:=4);rw[q3] at this;exact this
 obtain⟨⟨en',s4⟩,q4⟩ : ∃ y,zA s3 4096=y:=⟨_,rfl⟩;have o4:yH s4:=by have:=kI (k:=4096) o3;rw[q4] at this;exact this
 have e4:=qCz (s:=s3) (k:=4096) ⟨o3,oM⟩;rw[q4,show ((4096:Nat):Int)=4096 from rfl] at e4;obtain⟨⟨res,s5⟩,q5⟩ : ∃ y,qL s4 8=y:=⟨_,rfl⟩;have o5:yH s5:=by have:=zR (k:=8) o4;rw[q5] at this;exact this
 have e5:=vB (s:=s4) (k:=8) ⟨o4,oM,oM⟩;rw[q5,show ((8:Nat):Int)=8 from rfl] at e5;obtain⟨⟨rst,s6⟩,q6⟩ : ∃ y,qL s5 8=y:=⟨_,rfl⟩;have o6:yH s6:=by have:=zR (k:=8) o5;rw[q6] at this;exact this
 have e6:=vB (s:=s5) (k:=8) ⟨o5,oM,oM⟩;rw[q6,show ((8:Nat):Int)=8 from rfl] at e6;obtain⟨⟨clk,s7⟩,q7⟩ : ∃ y,qL s6 8=y:=⟨_,rfl⟩;have o7:yH s7:=by have:=zR (k:=8) o6;rw[q7] at this;exact this
 have e7:=vB (s:=s6) (k:=8) ⟨o6,oM,oM⟩;rw[q7,show ((8:Nat):Int)=8 from rfl] at e7;obtain⟨⟨w,s8⟩,q8⟩ : ∃ y,qHf s7 1=y:=⟨_,rfl⟩;have o8:yH s8:=by have:=qSj (m:=1) o7;rw[q8] at this;exact this
 have e8:=zRx (m:=1) o7;rw[q8] at e8;obtain⟨⟨⟨bk,u⟩,s9⟩,q9⟩ : ∃ y,qWg s8=y:=⟨_,rfl⟩;have o9:yH s9:=by have:=jD1 o8;rw[q9] at this;exact this
 have e9:=jPs o8;rw[q9] at e9;obtain⟨⟨mc,s10⟩,q10⟩ : ∃ y,qL s9 8=y:=⟨_,rfl⟩;have o10:yH s10:=by have:=zR (k:=8) o9;rw[q10] at this;exact this
 have e10:=vB (s:=s9) (k:=8) ⟨o9,oM,oM⟩;rw[q10,show ((8:Nat):Int)=8 from rfl] at e10;obtain⟨⟨n,s11⟩,q11⟩ : ∃ y,qHf s10 6=y:=⟨_,rfl⟩;have o11:yH s11:=by have:=qSj (m:=6) o10;rw[q11] at this;exact this
 have e11:=zRx (m:=6) o10;rw[q11] at e11;have hn:=qZv (s:=s10) (m:=6) oM;rw[q11] at hn;simp only at hn;obtain⟨N,rfl⟩:=Int.eq_ofNat_of_zero_le hn.1;simp only[rdO] at e4 e5 e6 e7 e8 e9 e10 e11;simp(disch:=omega)only[go_sem,zW,q3,h2,h3,h4,h5,e4,e5,e6,e7,e8,e9,e10,e11];repeat refine aiG ?_
 refine qD N (fun k=>[(2,.ref 4096 0 0),(4,.ref 8208 0 0),(6,.ref 32784 0 0),(9,.t (.int .i64 N)),(10,.t (.int .i64 (k:Nat)))]) (fun k=>[(9002,.live 8 (((qUr s11 k).1.map ixA).map V.t) true false),(9000,.live 1 ((sd.map bsT).map V.t) true false),(9001,.live 1 ((au.map bsT).map V.t) true false),(8208,yU (qUr s11 k).2),(32784,.live 19 [.agg [.sl 9000 0 3,.sl 9001 0 4,.t (.sl (en'.map qA)),.t (.int .i64 act),.t (.int .i64 res),.t (.int .i64 rst),.t (.int .i64 clk),.t (.bool (w==1)),.t (.sl (bk.map yS)),.t (.int .i64 u),.t (.int .i64 mc),.sl 9002 0 k,.t (.int .i64 0),.t (.int .i64 0),.t (.int .i64 0),.t (.int .i64 0),.t (.int .i64 0),.t (.int .i64 0),.nil]] true true),(4096,.live 19 [.agg [.nil,.nil,.nil,.t (.int .i64 0),.t (.int .i64 0),.t (.int .i64 0),.t (.int .i64 0),.t (.bool false),.nil,.t (.int .i64 0),.t (.int .i64 0),.nil,.t (.int .i64 0),.t (.int .i64 0),.t (.int .i64 0),.t (.int .i64 0),.t (.int .i64 0),.t (.int .i64 0),.nil]] true true)]) ?_ (fun k hk=>?_)
 ·refine qI.cv0 (hv:=[(9002,.live 8 [] true false)]) (ho:=[(9000,.live 1 ((sd.map bsT).map V.t) true false),(9001,.live 1 ((au.map bsT).map V.t) true false),(8208,yU s11),(32784,.live 19 [.agg [.sl 9000 0 3,.sl 9001 0 4,.t (.sl (en'.map qA)),.t (.int .i64 act),.t (.int .i64 res),.t (.int .i64 rst),.t (.int .i64 clk),.t (.bool (w==1)),.t (.sl (bk.map yS)),.t (.int .i64 u),.t (.int .i64 mc),.sl 9002 0 0,.t (.int .i64 0),.t (.int .i64 0),.t (.int .i64 0),.t (.int .i64 0),.t (.int .i64 0),.t (.int .i64 0),.nil]] true true),(4096,.live 19 [.agg [.nil,.nil,.nil,.t (.int .i64 0),.t (.int .i64 0),.t (.int .i64 0),.t (.int .i64 0),.t (.bool false),.nil,.t (.int .i64 0),.t (.int .i64 0),.nil,.t (.int .i64 0),.t (.int .i64 0),.t (.int .i64 0),.t (.int .i64 0),.t (.int .i64 0),.t (.int .i64 0),.nil]] true true)]) id ?_ ?_ rfl rfl;all_goals simp(disch:=omega)only[go_sem,id,zW]
  all_goals rfl
 rcases (by omega:k<N∨N=k) with c | rfl
 ·obtain⟨⟨l,t⟩,hy⟩ : ∃ y,qUr s11 k=y:=⟨_,rfl⟩;have ot:yH t:=by have:=zH2 o11 k;rw[hy] at this;exact this
  have ll:l.length=k:=by have:=qQr (s:=s11) (n:=k);rw[hy] at this;exact this
  obtain⟨⟨x,t'⟩,qb⟩ : ∃ y,qTv t=y:=⟨_,rfl⟩;have hs:qUr s11 (k+1)=(l++[x],t'):=by simp only[qUr,hy,qb]
  have eb:=jPk ot;rw[qb] at eb;simp only[rdO,ixA] at eb;simp(disch:=omega)only[go_sem,zW,hy,c,h6,eb,ll];repeat refine aiG ?_
  refine qI.rd (fun j=>if j=9002 then 118864 else j) ?_ ?_ rfl;all_goals simp(disch:=omega)only[go_sem,id,zW,hs,ll,ixA]
  all_goals simp only[List.map_append,mcn,ixA]
 obtain⟨⟨ix,s12⟩,q12⟩ : ∃ y,qUr s11 N=y:=⟨_,rfl⟩;have o12:yH s12:=by have:=zH2 o11 N;rw[q12] at this;exact this
 have l12:ix.length=N:=by have:=qQr (s:=s11) (n:=N);rw[q12] at this;exact this
 obtain⟨⟨y13,s13⟩,q13⟩ : ∃ y,qL s12 8=y:=⟨_,rfl⟩;have o13:yH s13:=by have:=zR (k:=8) o12;rw[q13] at this;exact this
 have e13:=vB (s:=s12) (k:=8) ⟨o12,oM,oM⟩;rw[q13,show ((8:Nat):Int)=8 from rfl] at e13;obtain⟨⟨y14,s14⟩,q14⟩ : ∃ y,qL s13 8=y:=⟨_,rfl⟩;have o14:yH s14:=by have:=zR (k:=8) o13;rw[q14] at this;exact this
 have e14:=vB (s:=s13) (k:=8) ⟨o13,oM,oM⟩;rw[q14,show ((8:Nat):Int)=8 from rfl] at e14;obtain⟨⟨y15,s15⟩,q15⟩ : ∃ y,qL s14 8=y:=⟨_,rfl⟩;have o15:yH s15:=by have:=zR (k:=8) o14;rw[q15] at this;exact this
 have e15:=vB (s:=s14) (k:=8) ⟨o14,oM,oM⟩;rw[q15,show ((8:Nat):Int)=8 from rfl] at e15;obtain⟨⟨y16,s16⟩,q16⟩ : ∃ y,qL s15 8=y:=⟨_,rfl⟩;have o16:yH s16:=by have:=zR (k:=8) o15;rw[q16] at this;exact this
 have e16:=vB (s:=s15) (k:=8) ⟨o15,oM,oM⟩;rw[q16,show ((8:Nat):Int)=8 from rfl] at e16;obtain⟨⟨y17,s17⟩,q17⟩ : ∃ y,qL s16 8=y:=⟨_,rfl⟩;have o17:yH s17:=by have:=zR (k:=8) o16;rw[q17] at this;exact this
 have e17:=vB (s:=s16) (k:=8) ⟨o16,oM,oM⟩;rw[q17,show ((8:Nat):Int)=8 from rfl] at e17;obtain⟨⟨y18,s18⟩,q18⟩ : ∃ y,qL s17 8=y:=⟨_,rfl⟩;have o18:yH s18:=by have:=zR (k:=8) o17;rw[q18] at this;exact this
 have e18:=vB (s:=s17) (k:=8) ⟨o17,oM,oM⟩;rw[q18,show ((8:Nat):Int)=8 from rfl] at e18;obtain⟨⟨m,s19⟩,q19⟩ : ∃ y,qHf s18 8=y:=⟨_,rfl⟩;have o19:yH s19:=by have:=qSj (m:=8) o18;rw[q19] at this;exact this
 have e19:=zRx (m:=8) o18;rw[q19] at e19;have hm:=qZv (s:=s18) (m:=8) oM;rw[q19] at hm;simp only at hm;obtain⟨M,rfl⟩:=Int.eq_ofNat_of_zero_le hm.1;simp only[rdO] at e13 e14 e15 e16 e17 e18 e19;simp(disch:=omega)only[go_sem,zW,q12,h2,h3,e13,e14,e15,e16,e17,e18,e19];repeat refine aiG ?_
 refine qD M (fun k=>[(2,.ref 4096 0 0),(4,.ref 8208 0 0),(6,.ref 32784 0 0),(9,.t (.int .i64 M)),(11,.t (.int .i64 (k:Nat)))]) (fun k=>[(9003,.live 2 (((qTh s19 k).1.map lvA).map V.t) true false),(9000,.live 1 ((sd.map bsT).map V.t) true false),(9001,.live 1 ((au.map bsT).map V.t) true false),(9002,.live 8 ((ix.map ixA).map V.t) true false),(8208,yU (qTh s19 k).2),(32784,.live 19 [.agg [.sl 9000 0 3,.sl 9001 0 4,.t (.sl (en'.map qA)),.t (.int .i64 act),.t (.int .i64 res),.t (.int .i64 rst),.t (.int .i64 clk),.t (.bool (w==1)),.t (.sl (bk.map yS)),.t (.int .i64 u),.t (.int .i64 mc),.sl 9002 0 N,.t (.int .i64 y13),.t (.int .i64 y14),.t (.int .i64 y15),.t (.int .i64 y16),.t (.int .i64 y17),.t (.int .i64 y18),.sl 9003 0 k]] true true),(4096,.live 19 [.agg [.nil,.nil,.nil,.t (.int .i64 0),.t (.int .i64 0),.t (.int .i64 0),.t (.int .i64 0),.t (.bool false),.nil,.t (.int .i64 0),.t (.int .i64 0),.nil,.t (.int .i64 0),.t (.int .i64 0),.t (.int .i64 0),.t (.int .i64 0),.t (.int .i64 0),.t (.int .i64 0),.nil]] true true)]) ?_ (fun k hk=>?_)
 ·refine qI.cv0 (hv:=[(9003,.live 2 [] true false)]) (ho:=[(9000,.live 1 ((sd.map bsT).map V.t) true false),(9001,.live 1 ((au.map bsT).map V.t) true false),(9002,.live 8 ((ix.map ixA).map V.t) true false),(8208,yU s19),(32784,.live 19 [.agg [.sl 9000 0 3,.sl 9001 0 4,.t (.sl (en'.map qA)),.t (.int .i64 act),.t (.int .i64 res),.t (.int .i64 rst),.t (.int .i64 clk),.t (.bool (w==1)),.t (.sl (bk.map yS)),.t (.int .i64 u),.t (.int .i64 mc),.sl 9002 0 N,.t (.int .i64 y13),.t (.int .i64 y14),.t (.int .i64 y15),.t (.int .i64 y16),.t (.int .i64 y17),.t (.int .i64 y18),.sl 9003 0 0]] true true),(4096,.live 19 [.agg [.nil,.nil,.nil,.t (.int .i64 0),.t (.int .i64 0),.t (.int .i64 0),.t (.int .i64 0),.t (.bool false),.nil,.t (.int .i64 0),.t (.int .i64 0),.nil,.t (.int .i64 0),.t (.int .i64 0),.t (.int .i64 0),.t (.int .i64 0),.t (.int .i64 0),.t (.int .i64 0),.nil]] true true)]) id ?_ ?_ rfl rfl;all_goals simp(disch:=omega)only[go_sem,id,zW]
  all_goals rfl
 rcases (by omega:k<M∨M=k) with c | rfl
 ·obtain⟨⟨l,t⟩,hy⟩ : ∃ y,qTh s19 k=y:=⟨_,rfl⟩;have ot:yH t:=by have:=zH1 o19 k;rw[hy] at this;exact this
  have ll:l.length=k:=by have:=qQq (s:=s19) (n:=k);rw[hy] at this;exact this
  obtain⟨⟨un,t1⟩,qb⟩ : ∃ y,zA t 4096=y:=⟨_,rfl⟩;have ot1:yH t1:=by have:=kI (k:=4096) ot;rw[qb] at this;exact this
  obtain⟨⟨us,t2⟩,qc⟩ : ∃ y,qL t1 1=y:=⟨_,rfl⟩;have hs:qTh s19 (k+1)=(l++[⟨un,us⟩],t2):=by simp only[qTh,zWf,hy,qb,qc]
  have eb:=qCz (s:=t) (k:=4096) ⟨ot,oM⟩;rw[qb,show ((4096:Nat):Int)=4096 from rfl] at eb;have ec:=vB (s:=t1) (k:=1) ⟨ot1,oM,oM⟩;rw[qc,show ((1:Nat):Int)=1 from rfl] at ec;simp only[rdO] at eb ec;simp(disch:=omega)only[go_sem,zW,hy,c,h2,h4,eb,ec,ll];repeat refine aiG ?_
  refine qI.rd (fun j=>if j=9003 then 176192 else j) ?_ ?_ rfl;all_goals simp(disch:=omega)only[go_sem,id,zW,hs,ll,lvA]
  all_goals simp only[List.map_append,mcn,lvA]
 obtain⟨⟨ks,s20⟩,q20⟩ : ∃ y,qTh s19 M=y:=⟨_,rfl⟩;have o20:yH s20:=by have:=zH1 o19 M;rw[q20] at this;exact this
 have l20:ks.length=M:=by have:=qQq (s:=s19) (n:=M);rw[q20] at this;exact this
 have ee:=qPk o20;have hsa:zBa s0=(⟨sd,au,en',act,res,rst,clk,w==1,bk,u,mc,ix,⟨y13,y14,y15,y16,y17,y18⟩,ks⟩,s20):=by simp only[zBa,Int.toNat_natCast,q1,q2,q3,q4,q5,q6,q7,q8,q9,q10,q11,q12,q13,q14,q15,q16,q17,q18,q19,q20]
 rw[hsa] at hd;simp only at hd;simp only[rdO] at ee;generalize vS s20=f at *;by_cases cf:f=0
 ·subst cf;rw[if_neg sM] at hd;simp(disch:=omega)only[go_sem,zW,q20,h7,ee,l2,l3,l12,l20,List.take_length];repeat refine aiG ?_
  have ta:List.take 3 sd=sd:=List.take_of_length_le oM;have tb:List.take 4 au=au:=List.take_of_length_le oM;have tc:List.take N ix=ix:=List.take_of_length_le oM;have td:List.take M ks=ks:=List.take_of_length_le oM;exact zHi _ 0 hd.symm (by simp only[saA,lkA,ta,tb,tc,td]) rfl
 ·rw[if_pos cf] at hd;simp(disch:=omega)only[go_sem,zW,q20,h7,ee,cf,l2,l3,l12,l20,List.take_length];repeat refine aiG ?_
  exact zHi default f hd.symm rfl rfl
def IE (r:Nat)(e:Int):Ob:= .live 2 [.agg [.ref r 0 0,.t (.int .i64 e)]] true true
theorem yG {r:Nat}{e:Int}:IE r e = .live 2 [.agg [.ref r 0 0,.t (.int .i64 e)]] true true:=rfl
theorem qU6 {r:Nat}{e e':Int}(h:IE r e=IE r e'):e=e':=by
 unfold IE at h;injection h with _ h;injection h with h;injection h with h;injection h with _ h;injection h with h;injection h with h;injection h
def Rn (s:Rd)(e:Int):Prop:=yH s∧(e=0→s.2.2=0)
abbrev et (s:Rd)(e:Int):Rd:=(s.1,s.2.1,e)
def jAa (s:Rd)(k:Nat)(m:Int):Int×Rd:=if (qL s k).2.2.2=0∧m<(qL s k).1 then (0,((qL s k).2.1,(qL s k).2.2.1,1)) else qL s k
theorem qSk {b:List UInt8}{p k:Nat}{e:Int}(h:e≠0):qL (b,p,e) k=(0,(b,p,e)):=if_pos h
theorem zWg {b:List UInt8}{p k:Nat}{e m:Int}(h:e≠0):jAa (b,p,e) k m=(0,(b,p,e)):=by
 unfold jAa;rw[qSk h,if_neg (fun g=>h g.1)]
theorem qZt {b:List UInt8}{p k:Nat}{e:Int}(h:e≠0):zA (b,p,e) k=([],(b,p,e)):=if_pos h
theorem zMv {s:Rd}{k:Nat}:(qL s k).1≤9223372036854775807:=by
 unfold qL;split
 ·simp
 ·split
  ·simp
  ·split
   ·simp
   ·simp only;omega
theorem zWh {s:Rd}{k:Nat}:jAa s k 9223372036854775807=qL s k:=by
 have h:=zMv (s:=s) (k:=k);unfold jAa;rw[if_neg (fun g=>oM)]
def qIo:ECt where
 α:=Rd×Int×Nat×Int
 β:=Int×Rd×Int
 aS:=fun (s,e,k,m)=>[.ref 0 0 0,.t (.int .i64 k),.t (.int .i64 m)]
 ins:=fun (s,e,k,m)=>[IE 1 e,yU s]
 pre:=fun (s,e,k,m)=>Rn s e∧1≤k∧k≤8
 r:=fun (v,s,e)=> .t (.int .i64 v)
 outs:=fun (v,s,e)=>[IE 1 e,yU s]
 R:=fun (s,e,k,m) (v,s',e')=>(v,et s' e')=jAa (et s e) k m∧Rn s' e'
 inj:=by
  rintro⟨s,e,k,m⟩ ⟨s',e',k',m'⟩ h h2;simp only[List.cons.injEq,V.t.injEq,T.int.injEq,true_and,and_true,Int.natCast_inj] at h h2;obtain⟨rfl,rfl⟩:=h;cases qU6 h2.1;cases yV h2.2;rfl
theorem zD6 {g:EF qIo}{s:Rd}{e:Int}{k:Nat}{m:Int}(h:Rn s e∧1≤k∧k≤8) : ∃ v s' e',((v,et s' e')=jAa (et s e) k m∧Rn s' e')∧qIo.fs g [.ref 0 0 0,.t (.int .i64 k),.t (.int .i64 m)] [IE 1 e,rdO s]=some (.t (.int .i64 v),[IE 1 e',rdO s']):=by
 obtain⟨⟨v,s',e'⟩,h1,h2⟩:=qIo.eq g (s,e,k,m) h;exact⟨v,s',e',h1,h2⟩
theorem zVc {s:Rd}{e:Int}{k:Nat}{m:Int}(v:Int)(s':Rd)(e':Int)(hR:(v,et s' e')=jAa (et s e) k m∧Rn s' e')(hV:vv = .t (.int .i64 v))(hO:oo=[IE 1 e',yU s']):qIo.K (s,e,k,m) vv oo:=⟨(v,s',e'),hR,hV,hO⟩
theorem qMd (h1:LkC tab 84 qCn)(h2:LkC tab 85 qR4)(s:Rd)(e:Int)(k:Nat)(m:Int)(hp:Rn s e∧1≤k∧k≤8) :
  yA.1.wp tab gl (qE 0 [.ref 0 0 0,.t (.int .i64 k),.t (.int .i64 m)]) (qE 0 [IE 1 e,yU s]) (qX [(6,none)] 2 (qIo.K (s,e,k,m))):=by
 obtain⟨⟨ok,hI⟩,hk⟩:=hp;obtain⟨b,p,f⟩:=s;by_cases c:e=0
 rotate_left
 ·simp(maxSteps:=9^9)(disch:=try exact dS)only[go_sem,yA,yG,qV,c];exact zVc 0 (b,p,f) e ⟨(zWg c).symm,ok,hI⟩ rfl rfl
 subst c;obtain rfl:f=0:=hI rfl;have e1:=vB (s:=(b,p,0)) (k:=k) ⟨ok,hk⟩;have o1:=zR (k:=k) ok;have hv:=zLc (s:=(b,p,0)) (k:=k);have hd:jAa (b,p,0) k m=if (qL (b,p,0) k).2.2.2=0∧m<(qL (b,p,0) k).1 then (0,((qL (b,p,0) k).2.1,(qL (b,p,0) k).2.2.1,1)) else qL (b,p,0) k:=rfl
 generalize qL (b,p,0) k=y at *;obtain⟨v,b',p',x⟩:=y;simp only at hv hd o1;have e2:=zH3 o1;simp only[rdO] at e1 e2;by_cases c1:x=0
 ·subst c1;by_cases c2:m<v
  ·rw[if_pos ⟨rfl,c2⟩] at hd;simp(maxSteps:=9^9)(disch:=try exact dS)only[go_sem,yA,yG,qV,h1,e1,h2,e2,c2];exact zVc 0 (b',p',0) 1 ⟨hd.symm,o1,fun h=>absurd h (by decide)⟩ rfl rfl
  ·rw[if_neg (fun h=>c2 h.2)] at hd;simp(maxSteps:=9^9)(disch:=try exact dS)only[go_sem,yA,yG,qV,h1,e1,h2,e2,c2];exact zVc v (b',p',0) 0 ⟨hd.symm,o1,fun _=>rfl⟩ rfl rfl
 ·rw[if_neg (fun h=>c1 h.1)] at hd;obtain rfl:v=0:=hv.2 c1;simp(maxSteps:=9^9)(disch:=try exact dS)only[go_sem,yA,yG,qV,h1,e1,h2,e2,c1];exact zVc 0 (b',p',x) x ⟨hd.symm,o1,fun h=>absurd h c1⟩ rfl rfl
def qNp:ECt where
 α:=Rd×Int×Nat
 β:=Int×Rd×Int
 aS:=fun (s,e,k)=>[.ref 0 0 0,.t (.int .i64 k)]
 ins:=fun (s,e,k)=>[IE 1 e,yU s]
 pre:=fun (s,e,k)=>Rn s e∧1≤k∧k≤8
 r:=fun (v,s,e)=> .t (.int .i64 v)
 outs:=fun (v,s,e)=>[IE 1 e,yU s]
 R:=fun (s,e,k) (v,s',e')=>(v,et s' e')=qL (et s e) k∧Rn s' e'
 inj:=by
  rintro⟨s,e,k⟩ ⟨s',e',k'⟩ h h2;simp only[List.cons.injEq,V.t.injEq,T.int.injEq,true_and,and_true,Int.natCast_inj] at h h2;subst h;cases qU6 h2.1;cases yV h2.2;rfl
theorem qDp {g:EF qNp}{s:Rd}{e:Int}{k:Nat}(h:Rn s e∧1≤k∧k≤8) : ∃ v s' e',((v,et s' e')=qL (et s e) k∧Rn s' e')∧qNp.fs g [.ref 0 0 0,.t (.int .i64 k)] [IE 1 e,rdO s]=some (.t (.int .i64 v),[IE 1 e',rdO s']):=by
 obtain⟨⟨v,s',e'⟩,h1,h2⟩:=qNp.eq g (s,e,k) h;exact⟨v,s',e',h1,h2⟩
theorem qSu {g1}(h1:LkE tab 49 qIo g1)(s:Rd)(e:Int)(k:Nat)(hp:Rn s e∧1≤k∧k≤8) :
  qBw.1.wp tab gl (qE 0 [.ref 0 0 0,.t (.int .i64 k)]) (qE 0 [IE 1 e,yU s]) (qX [(4,none)] 2 (qNp.K (s,e,k))):=by
 obtain⟨v,s',e',⟨hR,hn⟩,e1⟩:=zD6 (g:=g1) (m:=9223372036854775807) hp;rw[zWh] at hR;simp only[rdO,yG] at e1;simp(maxSteps:=9^9)(disch:=try exact dS)only[go_sem,qBw,yG,zW,h1,e1];exact⟨(v,s',e'),⟨hR,hn⟩,rfl,rfl⟩
def qNq:ECt where
 α:=Rd×Int
 β:=Bool×Rd×Int
 aS:=fun (s,e)=>[.ref 0 0 0]
 ins:=fun (s,e)=>[IE 1 e,yU s]
 pre:=fun (s,e)=>Rn s e
 r:=fun (v,s,e)=> .t (.bool v)
 outs:=fun (v,s,e)=>[IE 1 e,yU s]
 R:=fun (s,e) (v,s',e')=>(v=((qHf (et s e) 1).1==1)∧et s' e'=(qHf (et s e) 1).2)∧Rn s' e'
 inj:=by
  rintro⟨s,e⟩ ⟨s',e'⟩ _ h2;simp only[List.cons.injEq,and_true] at h2;cases qU6 h2.1;cases yV h2.2;rfl
theorem zZm {g:EF qNq}{s:Rd}{e:Int}(h:Rn s e) : ∃ v s' e',((v=((qHf (et s e) 1).1==1)∧et s' e'=(qHf (et s e) 1).2)∧Rn s' e')∧qNq.fs g [.ref 0 0 0] [IE 1 e,rdO s]=some (.t (.bool v),[IE 1 e',rdO s']):=by
 obtain⟨⟨v,s',e'⟩,h1,h2⟩:=qNq.eq g (s,e) h;exact⟨v,s',e',h1,h2⟩
theorem qRj {g1}(h1:LkE tab 49 qIo g1)(s:Rd)(e:Int)(hp:Rn s e) :
  qAz.1.wp tab gl (qE 0 [.ref 0 0 0]) (qE 0 [IE 1 e,yU s]) (qX [(2,none)] 2 (qNq.K (s,e))):=by
 obtain⟨v,s',e',⟨hR,hn⟩,e1⟩:=zD6 (g:=g1) (k:=1) (m:=1) ⟨hp,oM,oM⟩;rw[show ((1:Nat):Int)=1 from rfl] at e1;have hR':(v,et s' e')=qHf (et s e) 1:=hR;simp only[rdO,yG] at e1;simp(maxSteps:=9^9)(disch:=try exact dS)only[go_sem,qAz,yG,zW,h1,e1];exact⟨(v==1,s',e'),⟨⟨by rw[←hR'],by rw[←hR']⟩,hn⟩,rfl,rfl⟩
def qGx:ECt where
 α:=Rd×Int
 β:=List UInt8×Rd×Int
 aS:=fun (s,e)=>[.ref 0 0 0]
 ins:=fun (s,e)=>[IE 1 e,yU s]
 pre:=fun (s,e)=>Rn s e
 r:=fun (v,s,e)=> .t (.sl (v.map qA))
 outs:=fun (v,s,e)=>[IE 1 e,yU s]
 R:=fun (s,e) (v,s',e')=>(v,et s' e')=zA (et s e) 4096∧Rn s' e'
 inj:=by
  rintro⟨s,e⟩ ⟨s',e'⟩ _ h2;simp only[List.cons.injEq,and_true] at h2;cases qU6 h2.1;cases yV h2.2;rfl
theorem qVz {g:EF qGx}{s:Rd}{e:Int}(h:Rn s e) : ∃ v s' e',((v,et s' e')=zA (et s e) 4096∧Rn s' e')∧qGx.fs g [.ref 0 0 0] [IE 1 e,rdO s]=some (.t (.sl (v.map qA)),[IE 1 e',rdO s']):=by
 obtain⟨⟨v,s',e'⟩,h1,h2⟩:=qGx.eq g (s,e) h;exact⟨v,s',e',h1,h2⟩
theorem jIg {s:Rd}{e:Int}(v:List UInt8)(s':Rd)(e':Int)(hR:(v,et s' e')=zA (et s e) 4096∧Rn s' e')(hV:vv = .t (.sl (v.map qA)))(hO:oo=[IE 1 e',yU s']):qGx.K (s,e) vv oo:=⟨(v,s',e'),hR,hV,hO⟩
theorem qRi (h1:LkC tab 86 qAu)(h2:LkC tab 85 qR4)(s:Rd)(e:Int)(hp:Rn s e) :
  wZ.1.wp tab gl (qE 0 [.ref 0 0 0]) (qE 0 [IE 1 e,yU s]) (qX [(2,none)] 2 (qGx.K (s,e))):=by
 obtain⟨ok,hI⟩:=hp;obtain⟨b,p,f⟩:=s;by_cases c:e=0
 rotate_left
 ·simp(maxSteps:=9^9)(disch:=try exact dS)only[go_sem,wZ,yG,qV,c];exact jIg [] (b,p,f) e ⟨(qZt c).symm,ok,hI⟩ rfl rfl
 subst c;obtain rfl:f=0:=hI rfl;have e1:=qCz (s:=(b,p,0)) (k:=4096) ⟨ok,oM⟩;have o1:=kI (k:=4096) ok;obtain⟨⟨v,b',p',x⟩,hy⟩ : ∃ y,zA (b,p,0) 4096=y:=⟨_,rfl⟩;rw[hy] at e1 o1;rw[show ((4096:Nat):Int)=4096 from rfl] at e1;simp only at o1;have e2:=zH3 o1;simp only[rdO] at e1 e2;simp(maxSteps:=9^9)(disch:=try exact dS)only[go_sem,wZ,yG,qV,h1,e1,h2,e2];exact jIg v (b',p',x) x ⟨hy.symm,o1,fun h=>h⟩ rfl rfl
def qR8:ECt where
 α:=Rd×Int
 β:=(List zB×Int)×Rd×Int
 aS:=fun (s,e)=>[.ref 0 0 0]
 ins:=fun (s,e)=>[IE 1 e,yU s]
 pre:=fun (s,e)=>Rn s e
 r:=fun (v,s,e)=> .t (.agg [.sl (v.1.map yS),.int .i64 v.2])
 outs:=fun (v,s,e)=>[IE 1 e,yU s]
 R:=fun (s,e) (v,s',e')=>(v,et s' e')=qWg (et s e)∧Rn s' e'
 inj:=by
  rintro⟨s,e⟩ ⟨s',e'⟩ _ h2;simp only[List.cons.injEq,and_true] at h2;cases qU6 h2.1;cases yV h2.2;rfl
theorem jIh {g:EF qR8}{s:Rd}{e:Int}(h:Rn s e) : ∃ v s' e',((v,et s' e')=qWg (et s e)∧Rn s' e')∧qR8.fs g [.ref 0 0 0] [IE 1 e,rdO s]=some (.t (.agg [.sl (v.1.map yS),.int .i64 v.2]),[IE 1 e',rdO s']):=by
 obtain⟨⟨v,s',e'⟩,h1,h2⟩:=qR8.eq g (s,e) h;exact⟨v,s',e',h1,h2⟩
theorem qPq {g1}(h1:LkE tab 51 qGx g1)(h2:LkC tab 87 qRz)(s:Rd)(e:Int)(hp:Rn s e) :
  wJ.1.wp tab gl (qE 0 [.ref 0 0 0]) (qE 0 [IE 1 e,yU s]) (qX [(2,some (2,true))] 2 (qR8.K (s,e))):=by
 obtain⟨v,s',e',⟨hR,hn⟩,e1⟩:=qVz (g:=g1) hp;have lv:=qFl (s:=et s e) (k:=4096);rw[←hR] at lv;have e2:=zY3 (b:=v) (by simp only at lv;omega);have hd:qWg (et s e)=if (zA (et s e) 4096).2.2.2≠0 then (([],0),(zA (et s e) 4096).2) else (((dcT (zA (et s e) 4096).1).1,(dcT (zA (et s e) 4096).1).2.1),((zA (et s e) 4096).2.1,(zA (et s e) 4096).2.2.1,(dcT (zA (et s e) 4096).1).2.2)):=rfl
 rw[←hR] at hd;simp only at hd;obtain⟨b,p,f⟩:=s';simp only[rdO,yG] at e1;by_cases c:e'=0
 ·subst c;obtain rfl:f=0:=hn.2 rfl;rw[if_neg sM] at hd;generalize dcT v=z at *;obtain⟨bk,u,x⟩:=z;simp only at e2 hd;simp(maxSteps:=9^9)(disch:=try exact dS)only[go_sem,wJ,yG,zW,h1,e1,h2,e2];exact⟨((bk,u),(b,p,0),x),⟨hd.symm,hn.1,fun _=>rfl⟩,rfl,rfl⟩
 ·rw[if_pos c] at hd;simp(maxSteps:=9^9)(disch:=try exact dS)only[go_sem,wJ,yG,zW,h1,e1,c];exact⟨(([],0),(b,p,f),e'),⟨hd.symm,hn⟩,rfl,rfl⟩
def qR9:ECt where
 α:=Rd×Int
 β:=Ix×Rd×Int
 aS:=fun (s,e)=>[.ref 0 0 0]
 ins:=fun (s,e)=>[IE 1 e,yU s]
 pre:=fun (s,e)=>Rn s e
 r:=fun (v,s,e)=> .t (ixA v)
 outs:=fun (v,s,e)=>[IE 1 e,yU s]
 R:=fun (s,e) (v,s',e')=>(v,et s' e')=qTv (et s e)∧Rn s' e'
 inj:=by
  rintro⟨s,e⟩ ⟨s',e'⟩ _ h2;simp only[List.cons.injEq,and_true] at h2;cases qU6 h2.1;cases yV h2.2;rfl
theorem jIi {g:EF qR9}{s:Rd}{e:Int}(h:Rn s e) : ∃ v s' e',((v,et s' e')=qTv (et s e)∧Rn s' e')∧qR9.fs g [.ref 0 0 0] [IE 1 e,rdO s]=some (.t (ixA v),[IE 1 e',rdO s']):=by
 obtain⟨⟨v,s',e'⟩,h1,h2⟩:=qR9.eq g (s,e) h;exact⟨v,s',e',h1,h2⟩
theorem qPp {g1}(h1:LkE tab 48 qNp g1){g2}(h2:LkE tab 52 qNq g2){g3}(h3:LkE tab 51 qGx g3)(s:Rd)(e:Int)(hp:Rn s e) :
  qAc.1.wp tab gl (qE 0 [.ref 0 0 0]) (qE 0 [IE 1 e,yU s]) (qX [(2,some (8,true))] 2 (qR9.K (s,e))):=by
 obtain⟨n,s1,f1,⟨q1,m1⟩,e1⟩:=qDp (g:=g1) (k:=1) ⟨hp,oM,oM⟩;obtain⟨kd,s2,f2,⟨q2,m2⟩,e2⟩:=qDp (g:=g1) (k:=1) ⟨m1,oM,oM⟩;obtain⟨ar,s3,f3,⟨q3,m3⟩,e3⟩:=qDp (g:=g1) (k:=1) ⟨m2,oM,oM⟩;obtain⟨sz,s4,f4,⟨q4,m4⟩,e4⟩:=qDp (g:=g1) (k:=2) ⟨m3,oM,oM⟩;obtain⟨w,s5,f5,⟨⟨q5,q5'⟩,m5⟩,e5⟩:=zZm (g:=g2) m4;obtain⟨po,s6,f6,⟨q6,m6⟩,e6⟩:=qVz (g:=g3) m5;obtain⟨au,s7,f7,⟨q7,m7⟩,e7⟩:=qVz (g:=g3) m6;obtain⟨da,s8,f8,⟨q8,m8⟩,e8⟩:=qVz (g:=g3) m7;obtain⟨x,hx⟩ : ∃ x,qHf (et s4 f4) 1=(x,et s5 f5):=⟨_,Prod.ext rfl q5'.symm⟩;rw[hx] at q5;have hd:qTv (et s e)=(⟨n,kd,ar,sz,po,au,w,da⟩,et s8 f8):=by simp only[qTv,←q1,←q2,←q3,←q4,hx,←q6,←q7,←q8,q5]
 rw[show ((1:Nat):Int)=1 from rfl] at e1 e2 e3;rw[show ((2:Nat):Int)=2 from rfl] at e4;simp only[rdO,yG] at e1 e2 e3 e4 e5 e6 e7 e8;simp(maxSteps:=9^9)(disch:=try exact dS)only[go_sem,qAc,yG,zW,h1,h2,h3,e1,e2,e3,e4,e5,e6,e7,e8];exact⟨(⟨n,kd,ar,sz,po,au,w,da⟩,s8,f8),⟨hd.symm,m8⟩,rfl,rfl⟩
def qR7:ECt where
 α:=Rd×Int×Nat
 β:=List (List UInt8)×Rd×Int
 aS:=fun (s,e,n)=>[.t (.int .i64 n),.ref 0 0 0]
 ins:=fun (s,e,n)=>[.live 1 [.ref 1 0 0] true true,IE 2 e,yU s]
 pre:=fun (s,e,n)=>Rn s e∧n≤10
 r:=fun (v,s,e)=> .t (.sl (v.map bsT))
 outs:=fun (v,s,e)=>[.live 1 [.ref 1 0 0] true true,IE 2 e,yU s]
 R:=fun (s,e,n) (v,s',e')=>(v,et s' e')=qMa (et s e) n∧Rn s' e'
 inj:=by
  rintro⟨s,e,n⟩ ⟨s',e',n'⟩ h h2;simp only[List.cons.injEq,V.t.injEq,T.int.injEq,true_and,and_true,Int.natCast_inj] at h h2;subst h;cases qU6 h2.1;cases yV h2.2;rfl
theorem zZk {g:EF qR7}{s:Rd}{e:Int}{n:Nat}(h:Rn s e∧n≤10) : ∃ v s' e',((v,et s' e')=qMa (et s e) n∧Rn s' e')∧qR7.fs g [.t (.int .i64 n),.ref 0 0 0] [.live 1 [.ref 1 0 0] true true,IE 2 e,rdO s]=some (.t (.sl (v.map bsT)),[.live 1 [.ref 1 0 0] true true,IE 2 e',rdO s']):=by
 obtain⟨⟨v,s',e'⟩,h1,h2⟩:=qR7.eq g (s,e,n) h;exact⟨v,s',e',h1,h2⟩
theorem qT8 {g1}(h1:LkE tab 51 qGx g1)(s:Rd)(e:Int)(n:Nat)(hp:Rn s e∧n≤10) :
  qCl.1.wp tab gl (qE 0 [.t (.int .i64 n),.ref 0 0 0]) (qE 0 [.live 1 [.ref 1 0 0] true true,IE 2 e,yU s]) (qX [(3,none)] 3 (qR7.K (s,e,n))):=by
 obtain⟨hn,h10⟩:=hp;simp(maxSteps:=9^9)(disch:=try exact dS)only[go_sem,qCl,yG,zW];refine zD (σ:=Nat×List (List UInt8)×Rd×Int) (fun t=>t.1≤n∧(t.2.1,et t.2.2.1 t.2.2.2)=qMa (et s e) t.1∧Rn t.2.2.1 t.2.2.2) (fun t=>n-t.1) (fun t=>[(1,.ref 0 0 0),(3,.sl 9000 0 t.1),(4,.t (.int .i64 n)),(5,.t (.int .i64 t.1))]) (fun t=>[(9000,.live 1 ((t.2.1.map bsT).map V.t) true false),(0,.live 1 [.ref 1 0 0] true true),(1,IE 2 t.2.2.2),(2,yU t.2.2.1)]) (0,[],s,e) ⟨sM,rfl,hn⟩ ?_ ?_
 ·refine qI.cv0 (hv:=[(9000,.live 1 [] true false)]) (ho:=[(0,.live 1 [.ref 1 0 0] true true),(1,IE 2 e),(2,yU s)]) id ?_ ?_ rfl rfl;all_goals simp(maxSteps:=9^9)(disch:=try exact dS)only[go_sem,id,yG,zW]
  all_goals rfl
 rintro⟨k,l,t,f⟩ ⟨hk,hR,ht⟩;simp only at hk hR ht;have ll:l.length=k:=by have:=qI6 (s:=et s e) (n:=k);rw[←hR] at this;exact this
 rcases (by omega:k<n∨n=k) with c | rfl
 ·obtain⟨x,t',f',⟨hx,ht'⟩,e1⟩:=qVz (g:=g1) ht;have hs:(l++[x],et t' f')=qMa (et s e) (k+1):=by simp only[qMa,←hR,←hx]
  simp only[rdO,yG] at e1;simp(maxSteps:=9^9)(disch:=try exact dS)only[go_sem,yG,zW,c,h1,e1,ll];repeat refine aiG ?_
  refine qDa.of (k+1,l++[x],t',f') ⟨by show k+1≤n;omega,hs,ht'⟩ (by show n-(k+1)<n-k;omega) (qI.rd (fun j=>if j=9000 then 16448 else j) ?_ ?_ rfl);all_goals simp(maxSteps:=9^9)(disch:=try exact dS)only[go_sem,id,yG,zW]
 ·have tl:List.take n l=l:=List.take_of_length_le oM;simp(maxSteps:=9^9)(disch:=try exact dS)only[go_sem,yG,zW,tl,ll];exact⟨(l,t,f),⟨hR,ht⟩,rfl,rfl⟩
end Go.Eng
end
