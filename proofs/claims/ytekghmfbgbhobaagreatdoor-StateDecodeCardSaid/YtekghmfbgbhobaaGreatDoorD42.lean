/- A part of an abstract machine, its walks, their tie. -/
import Derived.Test.YtekghmfbgbhobaaGreatDoorD41
set_option linter.all false
section
set_option maxHeartbeats 64000000
set_option maxRecDepth 20000
namespace Go.Eng
variable (tab:Tab) (gl:Gl)
variable {vv:V} {oo:List Ob}
theorem qJb {s:Rd} : ∀ {n:Nat},(qMf s n).1.length=n
 | 0=>rfl
 | n+1=>by simp[qMf,qJb (n:=n)]
theorem qQw {s:Rd} : ∀ {n:Nat},(qUw s n).1.length=n
 | 0=>rfl
 | n+1=>by simp[qUw,qQw (n:=n)]
theorem qQv {s:Rd} : ∀ {n:Nat},(qTm s n).1.length=n
 | 0=>rfl
 | n+1=>by simp[qTm,qQv (n:=n)]
theorem zLh {s:Rd}{k:Nat}:0≤(qL s k).1∧((qL s k).2.2.2≠0→(qL s k).1=0):=by
 unfold qL;split
 ·exact⟨Int.le_refl _,fun _=>rfl⟩
 ·split
  ·exact⟨Int.le_refl _,fun _=>rfl⟩
  ·split
   ·exact⟨Int.le_refl _,fun _=>rfl⟩
   ·exact⟨Int.natCast_nonneg _,fun h=>absurd rfl h⟩
theorem qZ0 {s:Rd}{m:Int}(hm:0≤m):0≤(qHk s m).1∧(qHk s m).1≤m:=by
 have h:=zLh (s:=s) (k:=1);unfold qHk;split
 ·exact⟨Int.le_refl _,hm⟩
 ·rename_i hn;refine⟨h.1,?_⟩;by_cases e:(qL s 1).2.2.2=0
  ·have : ¬ m<(qL s 1).1:=fun h=>hn ⟨e,h⟩
   omega
  ·rw[h.2 e];exact hm
theorem zW (s:Rd):yU s = .live 3 [.t (.agg [.sl (s.1.map qA),.int .i64 (s.2.1:Int),.int .i64 s.2.2])] true true:=rfl
theorem qYg (h1:LkC tab 56 qDl)(h2:LkC tab 57 qCq)(h3:LkC tab 58 qVt)(h4:LkC tab 59 qAx)(h5:LkC tab 60 zKn)(h6:LkC tab 61 zKm)(h7:LkC tab 62 qDk)(b:List UInt8)(hp:b.length<100000000) :
  xC.1.wp tab gl (qE 0 [.t (.sl (b.map qA))]) (qE 0 []) (qX [(2,(some (19,true))),(3,none)] 0 (qAh.K b)):=by
 have en:=qLw (b:=b) oM;have o:yH (b,0,0):=⟨Nat.zero_le _,by simp only;omega⟩;obtain⟨⟨v,s0⟩,q0⟩ : ∃ y,qL (b,0,0) 1=y:=⟨_,rfl⟩;have o0:yH s0:=by have:=zR (k:=1) o;rw[q0] at this;exact this
 have e0:=vB (s:=(b,0,0)) (k:=1) ⟨o,oM,oM⟩;rw[q0,show ((1:Nat):Int)=1 from rfl] at e0;have hd:zMe b=if s0.2.2≠0 then (default,s0.2.2) else if v≠1 then (default,5) else if vS (zBf s0).2≠0 then (default,vS (zBf s0).2) else ((zBf s0).1,0):=by simp only[zMe,q0]
 have cz:(((0:Nat):Nat):Int)=0:=rfl;simp only[rdO,cz] at en e0;by_cases c0:s0.2.2=0
 rotate_left
 ·rw[if_pos c0] at hd;simp(disch:=omega)only[go_sem,xC,h1,h2,h3,h4,h5,h6,h7,en,e0,c0];repeat refine aiG ?_
  exact zHn default s0.2.2 hd.symm rfl rfl
 rw[if_neg (by simpa using c0)] at hd;by_cases c1:v=1
 rotate_left
 ·rw[if_pos c1] at hd;simp(disch:=omega)only[go_sem,xC,h1,h2,h3,h4,h5,h6,h7,en,e0,c0,c1];repeat refine aiG ?_
  exact zHn default 5 hd.symm rfl rfl
 subst c1;rw[if_neg sM] at hd;obtain⟨⟨act,s1⟩,q1⟩ : ∃ y,qHk s0 3=y:=⟨_,rfl⟩;have o1:yH s1:=by have:=qSo (m:=3) o0;rw[q1] at this;exact this
 have e1:=zR2 (m:=3) o0;rw[q1] at e1;simp only[rdO,c0] at e1;simp(disch:=omega)only[go_sem,xC,h1,h2,h3,h4,h5,h6,h7,en,e0,c0,e1];repeat refine aiG ?_
 refine qD 3 (fun k=>[(2,.ref 4096 0 0),(4,.ref 8208 0 0),(6,.ref 32784 0 0),(7,.t (.int .i64 (k:Nat)))]) (fun k=>[(9000,.live 1 (((qMf s1 k).1.map bsT).map V.t) true false),(8208,yU (qMf s1 k).2),(32784,.live 19 [.agg [.sl 9000 0 k,.nil,.nil,.t (.int .i64 act),.t (.int .i64 0),.t (.int .i64 0),.t (.int .i64 0),.t (.bool false),.nil,.t (.int .i64 0),.t (.int .i64 0),.nil,.t (.int .i64 0),.t (.int .i64 0),.t (.int .i64 0),.t (.int .i64 0),.t (.int .i64 0),.t (.int .i64 0),.nil]] true true),(4096,.live 19 [.agg [.nil,.nil,.nil,.t (.int .i64 0),.t (.int .i64 0),.t (.int .i64 0),.t (.int .i64 0),.t (.bool false),.nil,.t (.int .i64 0),.t (.int .i64 0),.nil,.t (.int .i64 0),.t (.int .i64 0),.t (.int .i64 0),.t (.int .i64 0),.t (.int .i64 0),.t (.int .i64 0),.nil]] true true)]) ?_ (fun k hk=>?_)
 ·refine qI.cv0 (hv:=[(9000,.live 1 [] true false)]) (ho:=[(8208,yU s1),(32784,.live 19 [.agg [.sl 9000 0 0,.nil,.nil,.t (.int .i64 act),.t (.int .i64 0),.t (.int .i64 0),.t (.int .i64 0),.t (.bool false),.nil,.t (.int .i64 0),.t (.int .i64 0),.nil,.t (.int .i64 0),.t (.int .i64 0),.t (.int .i64 0),.t (.int .i64 0),.t (.int .i64 0),.t (.int .i64 0),.nil]] true true),(4096,.live 19 [.agg [.nil,.nil,.nil,.t (.int .i64 0),.t (.int .i64 0),.t (.int .i64 0),.t (.int .i64 0),.t (.bool false),.nil,.t (.int .i64 0),.t (.int .i64 0),.nil,.t (.int .i64 0),.t (.int .i64 0),.t (.int .i64 0),.t (.int .i64 0),.t (.int .i64 0),.t (.int .i64 0),.nil]] true true)]) id ?_ ?_ rfl rfl;all_goals simp(disch:=omega)only[go_sem,id,zW]
  all_goals rfl
 rcases (by omega:k<3∨k=3) with c | rfl
 ·obtain⟨⟨l,t⟩,hy⟩ : ∃ y,qMf s1 k=y:=⟨_,rfl⟩;have ot:yH t:=by have:=qWh o1 k;rw[hy] at this;exact this
  have ll:l.length=k:=by have:=qJb (s:=s1) (n:=k);rw[hy] at this;exact this
  obtain⟨⟨x,t'⟩,qb⟩ : ∃ y,zA t 4096=y:=⟨_,rfl⟩;have hs:qMf s1 (k+1)=(l++[x],t'):=by simp only[qMf,hy,qb]
  have eb:=qC2 (s:=t) (k:=4096) ⟨ot,oM⟩;rw[qb,show ((4096:Nat):Int)=4096 from rfl] at eb;simp only[rdO] at eb;simp(disch:=omega)only[go_sem,zW,hy,c,h4,eb,ll];repeat refine aiG ?_
  refine qI.rd (fun j=>if j=9000 then 53328 else j) ?_ ?_ rfl;all_goals simp(disch:=omega)only[go_sem,id,zW,hs,ll]
 obtain⟨⟨sd,s2⟩,q2⟩ : ∃ y,qMf s1 3=y:=⟨_,rfl⟩;have o2:yH s2:=by have:=qWh o1 3;rw[q2] at this;exact this
 have l2:sd.length=3:=by have:=qJb (s:=s1) (n:=3);rw[q2] at this;exact this
 simp(disch:=omega)only[go_sem,zW,q2];refine qD 4 (fun k=>[(2,.ref 4096 0 0),(4,.ref 8208 0 0),(6,.ref 32784 0 0),(8,.t (.int .i64 (k:Nat)))]) (fun k=>[(9001,.live 1 (((qMf s2 k).1.map bsT).map V.t) true false),(9000,.live 1 ((sd.map bsT).map V.t) true false),(8208,yU (qMf s2 k).2),(32784,.live 19 [.agg [.sl 9000 0 3,.sl 9001 0 k,.nil,.t (.int .i64 act),.t (.int .i64 0),.t (.int .i64 0),.t (.int .i64 0),.t (.bool false),.nil,.t (.int .i64 0),.t (.int .i64 0),.nil,.t (.int .i64 0),.t (.int .i64 0),.t (.int .i64 0),.t (.int .i64 0),.t (.int .i64 0),.t (.int .i64 0),.nil]] true true),(4096,.live 19 [.agg [.nil,.nil,.nil,.t (.int .i64 0),.t (.int .i64 0),.t (.int .i64 0),.t (.int .i64 0),.t (.bool false),.nil,.t (.int .i64 0),.t (.int .i64 0),.nil,.t (.int .i64 0),.t (.int .i64 0),.t (.int .i64 0),.t (.int .i64 0),.t (.int .i64 0),.t (.int .i64 0),.nil]] true true)]) ?_ (fun k hk=>?_)
 ·refine qI.cv0 (hv:=[(9001,.live 1 [] true false)]) (ho:=[(9000,.live 1 ((sd.map bsT).map V.t) true false),(8208,yU s2),(32784,.live 19 [.agg [.sl 9000 0 3,.sl 9001 0 0,.nil,.t (.int .i64 act),.t (.int .i64 0),.t (.int .i64 0),.t (.int .i64 0),.t (.bool false),.nil,.t (.int .i64 0),.t (.int .i64 0),.nil,.t (.int .i64 0),.t (.int .i64 0),.t (.int .i64 0),.t (.int .i64 0),.t (.int .i64 0),.t (.int .i64 0),.nil]] true true),(4096,.live 19 [.agg [.nil,.nil,.nil,.t (.int .i64 0),.t (.int .i64 0),.t (.int .i64 0),.t (.int .i64 0),.t (.bool false),.nil,.t (.int .i64 0),.t (.int .i64 0),.nil,.t (.int .i64 0),.t (.int .i64 0),.t (.int .i64 0),.t (.int .i64 0),.t (.int .i64 0),.t (.int .i64 0),.nil]] true true)]) id ?_ ?_ rfl rfl;all_goals simp(disch:=omega)only[go_sem,id,zW]
  all_goals rfl
 rcases (by omega:k<4∨k=4) with c | rfl
 ·obtain⟨⟨l,t⟩,hy⟩ : ∃ y,qMf s2 k=y:=⟨_,rfl⟩;have ot:yH t:=by have:=qWh o2 k;rw[hy] at this;exact this
  have ll:l.length=k:=by have:=qJb (s:=s2) (n:=k);rw[hy] at this;exact this
  obtain⟨⟨x,t'⟩,qb⟩ : ∃ y,zA t 4096=y:=⟨_,rfl⟩;have hs:qMf s2 (k+1)=(l++[x],t'):=by simp only[qMf,hy,qb]
  have eb:=qC2 (s:=t) (k:=4096) ⟨ot,oM⟩;rw[qb,show ((4096:Nat):Int)=4096 from rfl] at eb;simp only[rdO] at eb;simp(disch:=omega)only[go_sem,zW,hy,c,h4,eb,ll];repeat refine aiG ?_
  refine qI.rd (fun j=>if j=9001 then 69712 else j) ?_ ?_ rfl;all_goals simp(disch:=omega)only[go_sem,id,zW,hs,ll]
 obtain⟨⟨au,s3⟩,q3⟩ : ∃ y,qMf s2 4=y:=⟨_,rfl⟩;have o3:yH s3:=by have:=qWh o2 4;rw[q3] at this;exact this
 have l3:au.length=4:=by have:=qJb (s:=s2) (n:=4);rw[q3] at this;exact this
 obtain⟨⟨en',s4⟩,q4⟩ : ∃ y,zA s3 4096=y:=⟨_,rfl⟩;have o4:yH s4:=by have:=kK (k:=4096) o3;rw[q4] at this;exact this
 have e4:=qC2 (s:=s3) (k:=4096) ⟨o3,oM⟩;rw[q4,show ((4096:Nat):Int)=4096 from rfl] at e4;obtain⟨⟨res,s5⟩,q5⟩ : ∃ y,qL s4 8=y:=⟨_,rfl⟩;have o5:yH s5:=by have:=zR (k:=8) o4;rw[q5] at this;exact this
 have e5:=vB (s:=s4) (k:=8) ⟨o4,oM,oM⟩;rw[q5,show ((8:Nat):Int)=8 from rfl] at e5;obtain⟨⟨rst,s6⟩,q6⟩ : ∃ y,qL s5 8=y:=⟨_,rfl⟩;have o6:yH s6:=by have:=zR (k:=8) o5;rw[q6] at this;exact this
 have e6:=vB (s:=s5) (k:=8) ⟨o5,oM,oM⟩;rw[q6,show ((8:Nat):Int)=8 from rfl] at e6;obtain⟨⟨clk,s7⟩,q7⟩ : ∃ y,qL s6 8=y:=⟨_,rfl⟩;have o7:yH s7:=by have:=zR (k:=8) o6;rw[q7] at this;exact this
 have e7:=vB (s:=s6) (k:=8) ⟨o6,oM,oM⟩;rw[q7,show ((8:Nat):Int)=8 from rfl] at e7;obtain⟨⟨w,s8⟩,q8⟩ : ∃ y,qHk s7 1=y:=⟨_,rfl⟩;have o8:yH s8:=by have:=qSo (m:=1) o7;rw[q8] at this;exact this
 have e8:=zR2 (m:=1) o7;rw[q8] at e8;obtain⟨⟨⟨bk,u⟩,s9⟩,q9⟩ : ∃ y,qWl s8=y:=⟨_,rfl⟩;have o9:yH s9:=by have:=jD6 o8;rw[q9] at this;exact this
 have e9:=jPx o8;rw[q9] at e9;obtain⟨⟨mc,s10⟩,q10⟩ : ∃ y,qL s9 8=y:=⟨_,rfl⟩;have o10:yH s10:=by have:=zR (k:=8) o9;rw[q10] at this;exact this
 have e10:=vB (s:=s9) (k:=8) ⟨o9,oM,oM⟩;rw[q10,show ((8:Nat):Int)=8 from rfl] at e10;obtain⟨⟨n,s11⟩,q11⟩ : ∃ y,qHk s10 6=y:=⟨_,rfl⟩;have o11:yH s11:=by have:=qSo (m:=6) o10;rw[q11] at this;exact this
 have e11:=zR2 (m:=6) o10;rw[q11] at e11;have hn:=qZ0 (s:=s10) (m:=6) oM;rw[q11] at hn;simp only at hn;obtain⟨N,rfl⟩:=Int.eq_ofNat_of_zero_le hn.1;simp only[rdO] at e4 e5 e6 e7 e8 e9 e10 e11;simp(disch:=omega)only[go_sem,zW,q3,h2,h3,h4,h5,e4,e5,e6,e7,e8,e9,e10,e11];repeat refine aiG ?_
 refine qD N (fun k=>[(2,.ref 4096 0 0),(4,.ref 8208 0 0),(6,.ref 32784 0 0),(9,.t (.int .i64 N)),(10,.t (.int .i64 (k:Nat)))]) (fun k=>[(9002,.live 8 (((qUw s11 k).1.map ixA).map V.t) true false),(9000,.live 1 ((sd.map bsT).map V.t) true false),(9001,.live 1 ((au.map bsT).map V.t) true false),(8208,yU (qUw s11 k).2),(32784,.live 19 [.agg [.sl 9000 0 3,.sl 9001 0 4,.t (.sl (en'.map qA)),.t (.int .i64 act),.t (.int .i64 res),.t (.int .i64 rst),.t (.int .i64 clk),.t (.bool (w==1)),.t (.sl (bk.map yS)),.t (.int .i64 u),.t (.int .i64 mc),.sl 9002 0 k,.t (.int .i64 0),.t (.int .i64 0),.t (.int .i64 0),.t (.int .i64 0),.t (.int .i64 0),.t (.int .i64 0),.nil]] true true),(4096,.live 19 [.agg [.nil,.nil,.nil,.t (.int .i64 0),.t (.int .i64 0),.t (.int .i64 0),.t (.int .i64 0),.t (.bool false),.nil,.t (.int .i64 0),.t (.int .i64 0),.nil,.t (.int .i64 0),.t (.int .i64 0),.t (.int .i64 0),.t (.int .i64 0),.t (.int .i64 0),.t (.int .i64 0),.nil]] true true)]) ?_ (fun k hk=>?_)
 ·refine qI.cv0 (hv:=[(9002,.live 8 [] true false)]) (ho:=[(9000,.live 1 ((sd.map bsT).map V.t) true false),(9001,.live 1 ((au.map bsT).map V.t) true false),(8208,yU s11),(32784,.live 19 [.agg [.sl 9000 0 3,.sl 9001 0 4,.t (.sl (en'.map qA)),.t (.int .i64 act),.t (.int .i64 res),.t (.int .i64 rst),.t (.int .i64 clk),.t (.bool (w==1)),.t (.sl (bk.map yS)),.t (.int .i64 u),.t (.int .i64 mc),.sl 9002 0 0,.t (.int .i64 0),.t (.int .i64 0),.t (.int .i64 0),.t (.int .i64 0),.t (.int .i64 0),.t (.int .i64 0),.nil]] true true),(4096,.live 19 [.agg [.nil,.nil,.nil,.t (.int .i64 0),.t (.int .i64 0),.t (.int .i64 0),.t (.int .i64 0),.t (.bool false),.nil,.t (.int .i64 0),.t (.int .i64 0),.nil,.t (.int .i64 0),.t (.int .i64 0),.t (.int .i64 0),.t (.int .i64 0),.t (.int .i64 0),.t (.int .i64 0),.nil]] true true)]) id ?_ ?_ rfl rfl;all_goals simp(disch:=omega)only[go_sem,id,zW]
  all_goals rfl
 rcases (by omega:k<N∨N=k) with c | rfl
 ·obtain⟨⟨l,t⟩,hy⟩ : ∃ y,qUw s11 k=y:=⟨_,rfl⟩;have ot:yH t:=by have:=zH7 o11 k;rw[hy] at this;exact this
  have ll:l.length=k:=by have:=qQw (s:=s11) (n:=k);rw[hy] at this;exact this
  obtain⟨⟨x,t'⟩,qb⟩ : ∃ y,qT0 t=y:=⟨_,rfl⟩;have hs:qUw s11 (k+1)=(l++[x],t'):=by simp only[qUw,hy,qb]
  have eb:=jPp ot;rw[qb] at eb;simp only[rdO,ixA] at eb;simp(disch:=omega)only[go_sem,zW,hy,c,h6,eb,ll];repeat refine aiG ?_
  refine qI.rd (fun j=>if j=9002 then 118864 else j) ?_ ?_ rfl;all_goals simp(disch:=omega)only[go_sem,id,zW,hs,ll,ixA]
  all_goals simp only[List.map_append,mcn,ixA]
 obtain⟨⟨ix,s12⟩,q12⟩ : ∃ y,qUw s11 N=y:=⟨_,rfl⟩;have o12:yH s12:=by have:=zH7 o11 N;rw[q12] at this;exact this
 have l12:ix.length=N:=by have:=qQw (s:=s11) (n:=N);rw[q12] at this;exact this
 obtain⟨⟨y13,s13⟩,q13⟩ : ∃ y,qL s12 8=y:=⟨_,rfl⟩;have o13:yH s13:=by have:=zR (k:=8) o12;rw[q13] at this;exact this
 have e13:=vB (s:=s12) (k:=8) ⟨o12,oM,oM⟩;rw[q13,show ((8:Nat):Int)=8 from rfl] at e13;obtain⟨⟨y14,s14⟩,q14⟩ : ∃ y,qL s13 8=y:=⟨_,rfl⟩;have o14:yH s14:=by have:=zR (k:=8) o13;rw[q14] at this;exact this
 have e14:=vB (s:=s13) (k:=8) ⟨o13,oM,oM⟩;rw[q14,show ((8:Nat):Int)=8 from rfl] at e14;obtain⟨⟨y15,s15⟩,q15⟩ : ∃ y,qL s14 8=y:=⟨_,rfl⟩;have o15:yH s15:=by have:=zR (k:=8) o14;rw[q15] at this;exact this
 have e15:=vB (s:=s14) (k:=8) ⟨o14,oM,oM⟩;rw[q15,show ((8:Nat):Int)=8 from rfl] at e15;obtain⟨⟨y16,s16⟩,q16⟩ : ∃ y,qL s15 8=y:=⟨_,rfl⟩;have o16:yH s16:=by have:=zR (k:=8) o15;rw[q16] at this;exact this
 have e16:=vB (s:=s15) (k:=8) ⟨o15,oM,oM⟩;rw[q16,show ((8:Nat):Int)=8 from rfl] at e16;obtain⟨⟨y17,s17⟩,q17⟩ : ∃ y,qL s16 8=y:=⟨_,rfl⟩;have o17:yH s17:=by have:=zR (k:=8) o16;rw[q17] at this;exact this
 have e17:=vB (s:=s16) (k:=8) ⟨o16,oM,oM⟩;rw[q17,show ((8:Nat):Int)=8 from rfl] at e17;obtain⟨⟨y18,s18⟩,q18⟩ : ∃ y,qL s17 8=y:=⟨_,rfl⟩;have o18:yH s18:=by have:=zR (k:=8) o17;rw[q18] at this;exact this
 have e18:=vB (s:=s17) (k:=8) ⟨o17,oM,oM⟩;rw[q18,show ((8:Nat):Int)=8 from rfl] at e18;obtain⟨⟨m,s19⟩,q19⟩ : ∃ y,qHk s18 8=y:=⟨_,rfl⟩;have o19:yH s19:=by have:=qSo (m:=8) o18;rw[q19] at this;exact this
 have e19:=zR2 (m:=8) o18;rw[q19] at e19;have hm:=qZ0 (s:=s18) (m:=8) oM;rw[q19] at hm;simp only at hm;obtain⟨M,rfl⟩:=Int.eq_ofNat_of_zero_le hm.1;simp only[rdO] at e13 e14 e15 e16 e17 e18 e19;simp(disch:=omega)only[go_sem,zW,q12,h2,h3,e13,e14,e15,e16,e17,e18,e19];repeat refine aiG ?_
 refine qD M (fun k=>[(2,.ref 4096 0 0),(4,.ref 8208 0 0),(6,.ref 32784 0 0),(9,.t (.int .i64 M)),(11,.t (.int .i64 (k:Nat)))]) (fun k=>[(9003,.live 2 (((qTm s19 k).1.map lvA).map V.t) true false),(9000,.live 1 ((sd.map bsT).map V.t) true false),(9001,.live 1 ((au.map bsT).map V.t) true false),(9002,.live 8 ((ix.map ixA).map V.t) true false),(8208,yU (qTm s19 k).2),(32784,.live 19 [.agg [.sl 9000 0 3,.sl 9001 0 4,.t (.sl (en'.map qA)),.t (.int .i64 act),.t (.int .i64 res),.t (.int .i64 rst),.t (.int .i64 clk),.t (.bool (w==1)),.t (.sl (bk.map yS)),.t (.int .i64 u),.t (.int .i64 mc),.sl 9002 0 N,.t (.int .i64 y13),.t (.int .i64 y14),.t (.int .i64 y15),.t (.int .i64 y16),.t (.int .i64 y17),.t (.int .i64 y18),.sl 9003 0 k]] true true),(4096,.live 19 [.agg [.nil,.nil,.nil,.t (.int .i64 0),.t (.int .i64 0),.t (.int .i64 0),.t (.int .i64 0),.t (.bool false),.nil,.t (.int .i64 0),.t (.int .i64 0),.nil,.t (.int .i64 0),.t (.int .i64 0),.t (.int .i64 0),.t (.int .i64 0),.t (.int .i64 0),.t (.int .i64 0),.nil]] true true)]) ?_ (fun k hk=>?_)
 ·refine qI.cv0 (hv:=[(9003,.live 2 [] true false)]) (ho:=[(9000,.live 1 ((sd.map bsT).map V.t) true false),(9001,.live 1 ((au.map bsT).map V.t) true false),(9002,.live 8 ((ix.map ixA).map V.t) true false),(8208,yU s19),(32784,.live 19 [.agg [.sl 9000 0 3,.sl 9001 0 4,.t (.sl (en'.map qA)),.t (.int .i64 act),.t (.int .i64 res),.t (.int .i64 rst),.t (.int .i64 clk),.t (.bool (w==1)),.t (.sl (bk.map yS)),.t (.int .i64 u),.t (.int .i64 mc),.sl 9002 0 N,.t (.int .i64 y13),.t (.int .i64 y14),.t (.int .i64 y15),.t (.int .i64 y16),.t (.int .i64 y17),.t (.int .i64 y18),.sl 9003 0 0]] true true),(4096,.live 19 [.agg [.nil,.nil,.nil,.t (.int .i64 0),.t (.int .i64 0),.t (.int .i64 0),.t (.int .i64 0),.t (.bool false),.nil,.t (.int .i64 0),.t (.int .i64 0),.nil,.t (.int .i64 0),.t (.int .i64 0),.t (.int .i64 0),.t (.int .i64 0),.t (.int .i64 0),.t (.int .i64 0),.nil]] true true)]) id ?_ ?_ rfl rfl;all_goals simp(disch:=omega)only[go_sem,id,zW]
  all_goals rfl
 rcases (by omega:k<M∨M=k) with c | rfl
 ·obtain⟨⟨l,t⟩,hy⟩ : ∃ y,qTm s19 k=y:=⟨_,rfl⟩;have ot:yH t:=by have:=zH6 o19 k;rw[hy] at this;exact this
  have ll:l.length=k:=by have:=qQv (s:=s19) (n:=k);rw[hy] at this;exact this
  obtain⟨⟨un,t1⟩,qb⟩ : ∃ y,zA t 4096=y:=⟨_,rfl⟩;have ot1:yH t1:=by have:=kK (k:=4096) ot;rw[qb] at this;exact this
  obtain⟨⟨us,t2⟩,qc⟩ : ∃ y,qL t1 1=y:=⟨_,rfl⟩;have hs:qTm s19 (k+1)=(l++[⟨un,us⟩],t2):=by simp only[qTm,zWk,hy,qb,qc]
  have eb:=qC2 (s:=t) (k:=4096) ⟨ot,oM⟩;rw[qb,show ((4096:Nat):Int)=4096 from rfl] at eb;have ec:=vB (s:=t1) (k:=1) ⟨ot1,oM,oM⟩;rw[qc,show ((1:Nat):Int)=1 from rfl] at ec;simp only[rdO] at eb ec;simp(disch:=omega)only[go_sem,zW,hy,c,h2,h4,eb,ec,ll];repeat refine aiG ?_
  refine qI.rd (fun j=>if j=9003 then 176192 else j) ?_ ?_ rfl;all_goals simp(disch:=omega)only[go_sem,id,zW,hs,ll,lvA]
  all_goals simp only[List.map_append,mcn,lvA]
 obtain⟨⟨ks,s20⟩,q20⟩ : ∃ y,qTm s19 M=y:=⟨_,rfl⟩;have o20:yH s20:=by have:=zH6 o19 M;rw[q20] at this;exact this
 have l20:ks.length=M:=by have:=qQv (s:=s19) (n:=M);rw[q20] at this;exact this
 have ee:=qPp o20;have hsa:zBf s0=(⟨sd,au,en',act,res,rst,clk,w==1,bk,u,mc,ix,⟨y13,y14,y15,y16,y17,y18⟩,ks⟩,s20):=by simp only[zBf,Int.toNat_natCast,q1,q2,q3,q4,q5,q6,q7,q8,q9,q10,q11,q12,q13,q14,q15,q16,q17,q18,q19,q20]
 rw[hsa] at hd;simp only at hd;simp only[rdO] at ee;generalize vS s20=f at *;by_cases cf:f=0
 ·subst cf;rw[if_neg sM] at hd;simp(disch:=omega)only[go_sem,zW,q20,h7,ee,l2,l3,l12,l20,List.take_length];repeat refine aiG ?_
  have ta:List.take 3 sd=sd:=List.take_of_length_le oM;have tb:List.take 4 au=au:=List.take_of_length_le oM;have tc:List.take N ix=ix:=List.take_of_length_le oM;have td:List.take M ks=ks:=List.take_of_length_le oM;exact zHn _ 0 hd.symm (by simp only[saA,lkA,ta,tb,tc,td]) rfl
 ·rw[if_pos cf] at hd;simp(disch:=omega)only[go_sem,zW,q20,h7,ee,cf,l2,l3,l12,l20,List.take_length];repeat refine aiG ?_
  exact zHn default f hd.symm rfl rfl
def IE (r:Nat)(e:Int):Ob:= .live 2 [.agg [.ref r 0 0,.t (.int .i64 e)]] true true
theorem yG {r:Nat}{e:Int}:IE r e = .live 2 [.agg [.ref r 0 0,.t (.int .i64 e)]] true true:=rfl
theorem qVb {r:Nat}{e e':Int}(h:IE r e=IE r e'):e=e':=by
 unfold IE at h;injection h with _ h;injection h with h;injection h with h;injection h with _ h;injection h with h;injection h with h;injection h
def Rn (s:Rd)(e:Int):Prop:=yH s∧(e=0→s.2.2=0)
abbrev et (s:Rd)(e:Int):Rd:=(s.1,s.2.1,e)
def jAf (s:Rd)(k:Nat)(m:Int):Int×Rd:=if (qL s k).2.2.2=0∧m<(qL s k).1 then (0,((qL s k).2.1,(qL s k).2.2.1,1)) else qL s k
theorem qSp {b:List UInt8}{p k:Nat}{e:Int}(h:e≠0):qL (b,p,e) k=(0,(b,p,e)):=if_pos h
theorem zWl {b:List UInt8}{p k:Nat}{e m:Int}(h:e≠0):jAf (b,p,e) k m=(0,(b,p,e)):=by
 unfold jAf;rw[qSp h,if_neg (fun g=>h g.1)]
theorem qZy {b:List UInt8}{p k:Nat}{e:Int}(h:e≠0):zA (b,p,e) k=([],(b,p,e)):=if_pos h
theorem zM0 {s:Rd}{k:Nat}:(qL s k).1≤9223372036854775807:=by
 unfold qL;split
 ·simp
 ·split
  ·simp
  ·split
   ·simp
   ·simp only;omega
theorem zWm {s:Rd}{k:Nat}:jAf s k 9223372036854775807=qL s k:=by
 have h:=zM0 (s:=s) (k:=k);unfold jAf;rw[if_neg (fun g=>oM)]
def qIt:ECt where
 α:=Rd×Int×Nat×Int
 β:=Int×Rd×Int
 aS:=fun (s,e,k,m)=>[.ref 0 0 0,.t (.int .i64 k),.t (.int .i64 m)]
 ins:=fun (s,e,k,m)=>[IE 1 e,yU s]
 pre:=fun (s,e,k,m)=>Rn s e∧1≤k∧k≤8
 r:=fun (v,s,e)=> .t (.int .i64 v)
 outs:=fun (v,s,e)=>[IE 1 e,yU s]
 R:=fun (s,e,k,m) (v,s',e')=>(v,et s' e')=jAf (et s e) k m∧Rn s' e'
 inj:=by
  rintro⟨s,e,k,m⟩ ⟨s',e',k',m'⟩ h h2;simp only[List.cons.injEq,V.t.injEq,T.int.injEq,true_and,and_true,Int.natCast_inj] at h h2;obtain⟨rfl,rfl⟩:=h;cases qVb h2.1;cases yV h2.2;rfl
theorem zEb {g:EF qIt}{s:Rd}{e:Int}{k:Nat}{m:Int}(h:Rn s e∧1≤k∧k≤8) : ∃ v s' e',((v,et s' e')=jAf (et s e) k m∧Rn s' e')∧qIt.fs g [.ref 0 0 0,.t (.int .i64 k),.t (.int .i64 m)] [IE 1 e,rdO s]=some (.t (.int .i64 v),[IE 1 e',rdO s']):=by
 obtain⟨⟨v,s',e'⟩,h1,h2⟩:=qIt.eq g (s,e,k,m) h;exact⟨v,s',e',h1,h2⟩
theorem zVh {s:Rd}{e:Int}{k:Nat}{m:Int}(v:Int)(s':Rd)(e':Int)(hR:(v,et s' e')=jAf (et s e) k m∧Rn s' e')(hV:vv = .t (.int .i64 v))(hO:oo=[IE 1 e',yU s']):qIt.K (s,e,k,m) vv oo:=⟨(v,s',e'),hR,hV,hO⟩
theorem qMi (h1:LkC tab 84 qCq)(h2:LkC tab 85 qR9)(s:Rd)(e:Int)(k:Nat)(m:Int)(hp:Rn s e∧1≤k∧k≤8) :
  yA.1.wp tab gl (qE 0 [.ref 0 0 0,.t (.int .i64 k),.t (.int .i64 m)]) (qE 0 [IE 1 e,yU s]) (qX [(6,none)] 2 (qIt.K (s,e,k,m))):=by
 obtain⟨⟨ok,hI⟩,hk⟩:=hp;obtain⟨b,p,f⟩:=s;by_cases c:e=0
 rotate_left
 ·simp(maxSteps:=9^9)(disch:=try exact dS)only[go_sem,yA,yG,qV,c];exact zVh 0 (b,p,f) e ⟨(zWl c).symm,ok,hI⟩ rfl rfl
 subst c;obtain rfl:f=0:=hI rfl;have e1:=vB (s:=(b,p,0)) (k:=k) ⟨ok,hk⟩;have o1:=zR (k:=k) ok;have hv:=zLh (s:=(b,p,0)) (k:=k);have hd:jAf (b,p,0) k m=if (qL (b,p,0) k).2.2.2=0∧m<(qL (b,p,0) k).1 then (0,((qL (b,p,0) k).2.1,(qL (b,p,0) k).2.2.1,1)) else qL (b,p,0) k:=rfl
 generalize qL (b,p,0) k=y at *;obtain⟨v,b',p',x⟩:=y;simp only at hv hd o1;have e2:=zH8 o1;simp only[rdO] at e1 e2;by_cases c1:x=0
 ·subst c1;by_cases c2:m<v
  ·rw[if_pos ⟨rfl,c2⟩] at hd;simp(maxSteps:=9^9)(disch:=try exact dS)only[go_sem,yA,yG,qV,h1,e1,h2,e2,c2];exact zVh 0 (b',p',0) 1 ⟨hd.symm,o1,fun h=>absurd h (by decide)⟩ rfl rfl
  ·rw[if_neg (fun h=>c2 h.2)] at hd;simp(maxSteps:=9^9)(disch:=try exact dS)only[go_sem,yA,yG,qV,h1,e1,h2,e2,c2];exact zVh v (b',p',0) 0 ⟨hd.symm,o1,fun _=>rfl⟩ rfl rfl
 ·rw[if_neg (fun h=>c1 h.1)] at hd;obtain rfl:v=0:=hv.2 c1;simp(maxSteps:=9^9)(disch:=try exact dS)only[go_sem,yA,yG,qV,h1,e1,h2,e2,c1];exact zVh 0 (b',p',x) x ⟨hd.symm,o1,fun h=>absurd h c1⟩ rfl rfl
def qNu:ECt where
 α:=Rd×Int×Nat
 β:=Int×Rd×Int
 aS:=fun (s,e,k)=>[.ref 0 0 0,.t (.int .i64 k)]
 ins:=fun (s,e,k)=>[IE 1 e,yU s]
 pre:=fun (s,e,k)=>Rn s e∧1≤k∧k≤8
 r:=fun (v,s,e)=> .t (.int .i64 v)
 outs:=fun (v,s,e)=>[IE 1 e,yU s]
 R:=fun (s,e,k) (v,s',e')=>(v,et s' e')=qL (et s e) k∧Rn s' e'
 inj:=by
  rintro⟨s,e,k⟩ ⟨s',e',k'⟩ h h2;simp only[List.cons.injEq,V.t.injEq,T.int.injEq,true_and,and_true,Int.natCast_inj] at h h2;subst h;cases qVb h2.1;cases yV h2.2;rfl
theorem qDs {g:EF qNu}{s:Rd}{e:Int}{k:Nat}(h:Rn s e∧1≤k∧k≤8) : ∃ v s' e',((v,et s' e')=qL (et s e) k∧Rn s' e')∧qNu.fs g [.ref 0 0 0,.t (.int .i64 k)] [IE 1 e,rdO s]=some (.t (.int .i64 v),[IE 1 e',rdO s']):=by
 obtain⟨⟨v,s',e'⟩,h1,h2⟩:=qNu.eq g (s,e,k) h;exact⟨v,s',e',h1,h2⟩
theorem qSz {g1}(h1:LkE tab 49 qIt g1)(s:Rd)(e:Int)(k:Nat)(hp:Rn s e∧1≤k∧k≤8) :
  qBz.1.wp tab gl (qE 0 [.ref 0 0 0,.t (.int .i64 k)]) (qE 0 [IE 1 e,yU s]) (qX [(4,none)] 2 (qNu.K (s,e,k))):=by
 obtain⟨v,s',e',⟨hR,hn⟩,e1⟩:=zEb (g:=g1) (m:=9223372036854775807) hp;rw[zWm] at hR;simp only[rdO,yG] at e1;simp(maxSteps:=9^9)(disch:=try exact dS)only[go_sem,qBz,yG,zW,h1,e1];exact⟨(v,s',e'),⟨hR,hn⟩,rfl,rfl⟩
def qNv:ECt where
 α:=Rd×Int
 β:=Bool×Rd×Int
 aS:=fun (s,e)=>[.ref 0 0 0]
 ins:=fun (s,e)=>[IE 1 e,yU s]
 pre:=fun (s,e)=>Rn s e
 r:=fun (v,s,e)=> .t (.bool v)
 outs:=fun (v,s,e)=>[IE 1 e,yU s]
 R:=fun (s,e) (v,s',e')=>(v=((qHk (et s e) 1).1==1)∧et s' e'=(qHk (et s e) 1).2)∧Rn s' e'
 inj:=by
  rintro⟨s,e⟩ ⟨s',e'⟩ _ h2;simp only[List.cons.injEq,and_true] at h2;cases qVb h2.1;cases yV h2.2;rfl
theorem zZr {g:EF qNv}{s:Rd}{e:Int}(h:Rn s e) : ∃ v s' e',((v=((qHk (et s e) 1).1==1)∧et s' e'=(qHk (et s e) 1).2)∧Rn s' e')∧qNv.fs g [.ref 0 0 0] [IE 1 e,rdO s]=some (.t (.bool v),[IE 1 e',rdO s']):=by
 obtain⟨⟨v,s',e'⟩,h1,h2⟩:=qNv.eq g (s,e) h;exact⟨v,s',e',h1,h2⟩
theorem qRo {g1}(h1:LkE tab 49 qIt g1)(s:Rd)(e:Int)(hp:Rn s e) :
  qA2.1.wp tab gl (qE 0 [.ref 0 0 0]) (qE 0 [IE 1 e,yU s]) (qX [(2,none)] 2 (qNv.K (s,e))):=by
 obtain⟨v,s',e',⟨hR,hn⟩,e1⟩:=zEb (g:=g1) (k:=1) (m:=1) ⟨hp,oM,oM⟩;rw[show ((1:Nat):Int)=1 from rfl] at e1;have hR':(v,et s' e')=qHk (et s e) 1:=hR;simp only[rdO,yG] at e1;simp(maxSteps:=9^9)(disch:=try exact dS)only[go_sem,qA2,yG,zW,h1,e1];exact⟨(v==1,s',e'),⟨⟨by rw[←hR'],by rw[←hR']⟩,hn⟩,rfl,rfl⟩
def qG1:ECt where
 α:=Rd×Int
 β:=List UInt8×Rd×Int
 aS:=fun (s,e)=>[.ref 0 0 0]
 ins:=fun (s,e)=>[IE 1 e,yU s]
 pre:=fun (s,e)=>Rn s e
 r:=fun (v,s,e)=> .t (.sl (v.map qA))
 outs:=fun (v,s,e)=>[IE 1 e,yU s]
 R:=fun (s,e) (v,s',e')=>(v,et s' e')=zA (et s e) 4096∧Rn s' e'
 inj:=by
  rintro⟨s,e⟩ ⟨s',e'⟩ _ h2;simp only[List.cons.injEq,and_true] at h2;cases qVb h2.1;cases yV h2.2;rfl
theorem qV4 {g:EF qG1}{s:Rd}{e:Int}(h:Rn s e) : ∃ v s' e',((v,et s' e')=zA (et s e) 4096∧Rn s' e')∧qG1.fs g [.ref 0 0 0] [IE 1 e,rdO s]=some (.t (.sl (v.map qA)),[IE 1 e',rdO s']):=by
 obtain⟨⟨v,s',e'⟩,h1,h2⟩:=qG1.eq g (s,e) h;exact⟨v,s',e',h1,h2⟩
theorem jIl {s:Rd}{e:Int}(v:List UInt8)(s':Rd)(e':Int)(hR:(v,et s' e')=zA (et s e) 4096∧Rn s' e')(hV:vv = .t (.sl (v.map qA)))(hO:oo=[IE 1 e',yU s']):qG1.K (s,e) vv oo:=⟨(v,s',e'),hR,hV,hO⟩
theorem qRn (h1:LkC tab 86 qAx)(h2:LkC tab 85 qR9)(s:Rd)(e:Int)(hp:Rn s e) :
  kB.1.wp tab gl (qE 0 [.ref 0 0 0]) (qE 0 [IE 1 e,yU s]) (qX [(2,none)] 2 (qG1.K (s,e))):=by
 obtain⟨ok,hI⟩:=hp;obtain⟨b,p,f⟩:=s;by_cases c:e=0
 rotate_left
 ·simp(maxSteps:=9^9)(disch:=try exact dS)only[go_sem,kB,yG,qV,c];exact jIl [] (b,p,f) e ⟨(qZy c).symm,ok,hI⟩ rfl rfl
 subst c;obtain rfl:f=0:=hI rfl;have e1:=qC2 (s:=(b,p,0)) (k:=4096) ⟨ok,oM⟩;have o1:=kK (k:=4096) ok;obtain⟨⟨v,b',p',x⟩,hy⟩ : ∃ y,zA (b,p,0) 4096=y:=⟨_,rfl⟩;rw[hy] at e1 o1;rw[show ((4096:Nat):Int)=4096 from rfl] at e1;simp only at o1;have e2:=zH8 o1;simp only[rdO] at e1 e2;simp(maxSteps:=9^9)(disch:=try exact dS)only[go_sem,kB,yG,qV,h1,e1,h2,e2];exact jIl v (b',p',x) x ⟨hy.symm,o1,fun h=>h⟩ rfl rfl
def qSd:ECt where
 α:=Rd×Int
 β:=(List zB×Int)×Rd×Int
 aS:=fun (s,e)=>[.ref 0 0 0]
 ins:=fun (s,e)=>[IE 1 e,yU s]
 pre:=fun (s,e)=>Rn s e
 r:=fun (v,s,e)=> .t (.agg [.sl (v.1.map yS),.int .i64 v.2])
 outs:=fun (v,s,e)=>[IE 1 e,yU s]
 R:=fun (s,e) (v,s',e')=>(v,et s' e')=qWl (et s e)∧Rn s' e'
 inj:=by
  rintro⟨s,e⟩ ⟨s',e'⟩ _ h2;simp only[List.cons.injEq,and_true] at h2;cases qVb h2.1;cases yV h2.2;rfl
theorem jIm {g:EF qSd}{s:Rd}{e:Int}(h:Rn s e) : ∃ v s' e',((v,et s' e')=qWl (et s e)∧Rn s' e')∧qSd.fs g [.ref 0 0 0] [IE 1 e,rdO s]=some (.t (.agg [.sl (v.1.map yS),.int .i64 v.2]),[IE 1 e',rdO s']):=by
 obtain⟨⟨v,s',e'⟩,h1,h2⟩:=qSd.eq g (s,e) h;exact⟨v,s',e',h1,h2⟩
theorem qPv {g1}(h1:LkE tab 51 qG1 g1)(h2:LkC tab 87 qR4)(s:Rd)(e:Int)(hp:Rn s e) :
  wJ.1.wp tab gl (qE 0 [.ref 0 0 0]) (qE 0 [IE 1 e,yU s]) (qX [(2,some (2,true))] 2 (qSd.K (s,e))):=by
 obtain⟨v,s',e',⟨hR,hn⟩,e1⟩:=qV4 (g:=g1) hp;have lv:=qFp (s:=et s e) (k:=4096);rw[←hR] at lv;have e2:=zY8 (b:=v) (by simp only at lv;omega);have hd:qWl (et s e)=if (zA (et s e) 4096).2.2.2≠0 then (([],0),(zA (et s e) 4096).2) else (((dcT (zA (et s e) 4096).1).1,(dcT (zA (et s e) 4096).1).2.1),((zA (et s e) 4096).2.1,(zA (et s e) 4096).2.2.1,(dcT (zA (et s e) 4096).1).2.2)):=rfl
 rw[←hR] at hd;simp only at hd;obtain⟨b,p,f⟩:=s';simp only[rdO,yG] at e1;by_cases c:e'=0
 ·subst c;obtain rfl:f=0:=hn.2 rfl;rw[if_neg sM] at hd;generalize dcT v=z at *;obtain⟨bk,u,x⟩:=z;simp only at e2 hd;simp(maxSteps:=9^9)(disch:=try exact dS)only[go_sem,wJ,yG,zW,h1,e1,h2,e2];exact⟨((bk,u),(b,p,0),x),⟨hd.symm,hn.1,fun _=>rfl⟩,rfl,rfl⟩
 ·rw[if_pos c] at hd;simp(maxSteps:=9^9)(disch:=try exact dS)only[go_sem,wJ,yG,zW,h1,e1,c];exact⟨(([],0),(b,p,f),e'),⟨hd.symm,hn⟩,rfl,rfl⟩
def qSe:ECt where
 α:=Rd×Int
 β:=Ix×Rd×Int
 aS:=fun (s,e)=>[.ref 0 0 0]
 ins:=fun (s,e)=>[IE 1 e,yU s]
 pre:=fun (s,e)=>Rn s e
 r:=fun (v,s,e)=> .t (ixA v)
 outs:=fun (v,s,e)=>[IE 1 e,yU s]
 R:=fun (s,e) (v,s',e')=>(v,et s' e')=qT0 (et s e)∧Rn s' e'
 inj:=by
  rintro⟨s,e⟩ ⟨s',e'⟩ _ h2;simp only[List.cons.injEq,and_true] at h2;cases qVb h2.1;cases yV h2.2;rfl
theorem jIn {g:EF qSe}{s:Rd}{e:Int}(h:Rn s e) : ∃ v s' e',((v,et s' e')=qT0 (et s e)∧Rn s' e')∧qSe.fs g [.ref 0 0 0] [IE 1 e,rdO s]=some (.t (ixA v),[IE 1 e',rdO s']):=by
 obtain⟨⟨v,s',e'⟩,h1,h2⟩:=qSe.eq g (s,e) h;exact⟨v,s',e',h1,h2⟩
theorem qPu {g1}(h1:LkE tab 48 qNu g1){g2}(h2:LkE tab 52 qNv g2){g3}(h3:LkE tab 51 qG1 g3)(s:Rd)(e:Int)(hp:Rn s e) :
  qAe.1.wp tab gl (qE 0 [.ref 0 0 0]) (qE 0 [IE 1 e,yU s]) (qX [(2,some (8,true))] 2 (qSe.K (s,e))):=by
 obtain⟨n,s1,f1,⟨q1,m1⟩,e1⟩:=qDs (g:=g1) (k:=1) ⟨hp,oM,oM⟩;obtain⟨kd,s2,f2,⟨q2,m2⟩,e2⟩:=qDs (g:=g1) (k:=1) ⟨m1,oM,oM⟩;obtain⟨ar,s3,f3,⟨q3,m3⟩,e3⟩:=qDs (g:=g1) (k:=1) ⟨m2,oM,oM⟩;obtain⟨sz,s4,f4,⟨q4,m4⟩,e4⟩:=qDs (g:=g1) (k:=2) ⟨m3,oM,oM⟩;obtain⟨w,s5,f5,⟨⟨q5,q5'⟩,m5⟩,e5⟩:=zZr (g:=g2) m4;obtain⟨po,s6,f6,⟨q6,m6⟩,e6⟩:=qV4 (g:=g3) m5;obtain⟨au,s7,f7,⟨q7,m7⟩,e7⟩:=qV4 (g:=g3) m6;obtain⟨da,s8,f8,⟨q8,m8⟩,e8⟩:=qV4 (g:=g3) m7;obtain⟨x,hx⟩ : ∃ x,qHk (et s4 f4) 1=(x,et s5 f5):=⟨_,Prod.ext rfl q5'.symm⟩;rw[hx] at q5;have hd:qT0 (et s e)=(⟨n,kd,ar,sz,po,au,w,da⟩,et s8 f8):=by simp only[qT0,←q1,←q2,←q3,←q4,hx,←q6,←q7,←q8,q5]
 rw[show ((1:Nat):Int)=1 from rfl] at e1 e2 e3;rw[show ((2:Nat):Int)=2 from rfl] at e4;simp only[rdO,yG] at e1 e2 e3 e4 e5 e6 e7 e8;simp(maxSteps:=9^9)(disch:=try exact dS)only[go_sem,qAe,yG,zW,h1,h2,h3,e1,e2,e3,e4,e5,e6,e7,e8];exact⟨(⟨n,kd,ar,sz,po,au,w,da⟩,s8,f8),⟨hd.symm,m8⟩,rfl,rfl⟩
def qSc:ECt where
 α:=Rd×Int×Nat
 β:=List (List UInt8)×Rd×Int
 aS:=fun (s,e,n)=>[.t (.int .i64 n),.ref 0 0 0]
 ins:=fun (s,e,n)=>[.live 1 [.ref 1 0 0] true true,IE 2 e,yU s]
 pre:=fun (s,e,n)=>Rn s e∧n≤10
 r:=fun (v,s,e)=> .t (.sl (v.map bsT))
 outs:=fun (v,s,e)=>[.live 1 [.ref 1 0 0] true true,IE 2 e,yU s]
 R:=fun (s,e,n) (v,s',e')=>(v,et s' e')=qMf (et s e) n∧Rn s' e'
 inj:=by
  rintro⟨s,e,n⟩ ⟨s',e',n'⟩ h h2;simp only[List.cons.injEq,V.t.injEq,T.int.injEq,true_and,and_true,Int.natCast_inj] at h h2;subst h;cases qVb h2.1;cases yV h2.2;rfl
theorem zZp {g:EF qSc}{s:Rd}{e:Int}{n:Nat}(h:Rn s e∧n≤10) : ∃ v s' e',((v,et s' e')=qMf (et s e) n∧Rn s' e')∧qSc.fs g [.t (.int .i64 n),.ref 0 0 0] [.live 1 [.ref 1 0 0] true true,IE 2 e,rdO s]=some (.t (.sl (v.map bsT)),[.live 1 [.ref 1 0 0] true true,IE 2 e',rdO s']):=by
 obtain⟨⟨v,s',e'⟩,h1,h2⟩:=qSc.eq g (s,e,n) h;exact⟨v,s',e',h1,h2⟩
theorem qUd {g1}(h1:LkE tab 51 qG1 g1)(s:Rd)(e:Int)(n:Nat)(hp:Rn s e∧n≤10) :
  qCo.1.wp tab gl (qE 0 [.t (.int .i64 n),.ref 0 0 0]) (qE 0 [.live 1 [.ref 1 0 0] true true,IE 2 e,yU s]) (qX [(3,none)] 3 (qSc.K (s,e,n))):=by
 obtain⟨hn,h10⟩:=hp;simp(maxSteps:=9^9)(disch:=try exact dS)only[go_sem,qCo,yG,zW];refine zD (σ:=Nat×List (List UInt8)×Rd×Int) (fun t=>t.1≤n∧(t.2.1,et t.2.2.1 t.2.2.2)=qMf (et s e) t.1∧Rn t.2.2.1 t.2.2.2) (fun t=>n-t.1) (fun t=>[(1,.ref 0 0 0),(3,.sl 9000 0 t.1),(4,.t (.int .i64 n)),(5,.t (.int .i64 t.1))]) (fun t=>[(9000,.live 1 ((t.2.1.map bsT).map V.t) true false),(0,.live 1 [.ref 1 0 0] true true),(1,IE 2 t.2.2.2),(2,yU t.2.2.1)]) (0,[],s,e) ⟨sM,rfl,hn⟩ ?_ ?_
 ·refine qI.cv0 (hv:=[(9000,.live 1 [] true false)]) (ho:=[(0,.live 1 [.ref 1 0 0] true true),(1,IE 2 e),(2,yU s)]) id ?_ ?_ rfl rfl;all_goals simp(maxSteps:=9^9)(disch:=try exact dS)only[go_sem,id,yG,zW]
  all_goals rfl
 rintro⟨k,l,t,f⟩ ⟨hk,hR,ht⟩;simp only at hk hR ht;have ll:l.length=k:=by have:=qJb (s:=et s e) (n:=k);rw[←hR] at this;exact this
 rcases (by omega:k<n∨n=k) with c | rfl
 ·obtain⟨x,t',f',⟨hx,ht'⟩,e1⟩:=qV4 (g:=g1) ht;have hs:(l++[x],et t' f')=qMf (et s e) (k+1):=by simp only[qMf,←hR,←hx]
  simp only[rdO,yG] at e1;simp(maxSteps:=9^9)(disch:=try exact dS)only[go_sem,yG,zW,c,h1,e1,ll];repeat refine aiG ?_
  refine qDd.of (k+1,l++[x],t',f') ⟨by show k+1≤n;omega,hs,ht'⟩ (by show n-(k+1)<n-k;omega) (qI.rd (fun j=>if j=9000 then 16448 else j) ?_ ?_ rfl);all_goals simp(maxSteps:=9^9)(disch:=try exact dS)only[go_sem,id,yG,zW]
 ·have tl:List.take n l=l:=List.take_of_length_le oM;simp(maxSteps:=9^9)(disch:=try exact dS)only[go_sem,yG,zW,tl,ll];exact⟨(l,t,f),⟨hR,ht⟩,rfl,rfl⟩
end Go.Eng
end
