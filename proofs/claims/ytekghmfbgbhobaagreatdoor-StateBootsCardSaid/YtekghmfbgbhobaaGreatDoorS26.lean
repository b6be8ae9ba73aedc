/- A part of an abstract machine, its walks, their tie. -/
import Derived.Test.YtekghmfbgbhobaaGreatDoorS25
import Derived.Test.YtekghmfbgbhobaaGreatDoorS22
set_option linter.all false
section
set_option maxHeartbeats 64000000
set_option maxRecDepth 20000
namespace Go.Eng
variable (tab:Tab) (gl:Gl)
theorem qWh (h2:LkC tab 235 kC)(h3:LkC tab 74 jX)(h4:LkC tab 98 xQ)(h5:LkC tab 79 jI)(h7:LkC tab 99 kR)(h6:LkC tab 236 qE9)
  (b0 b1:zE) (u loc:Int) (n:Nat) (d0 d1:List UInt8) (hu:0≤u∧u<1000000000) (hk:RM [b0,b1]) (hv0:(b0.getD n []).length≤64) (hv1:(b1.getD n []).length≤64) (hd:d0.length<9223372036854775808∧d1.length<9223372036854775808) (e1 : ¬(loc<0∨4<loc∨16≤n)) (e2 : ¬ loc<yK n false) :
  zV.1.wp tab gl (qD 0 [.t (yL [b0,b1] u),.t (.int .i64 loc),.t (.int .i64 n),.t (.sl [bsT d0,bsT d1])]) (qD 0 []) (qY [(8,some (2,true)),(9,none)] 0 (fun r o=>r=qQx [b0,b1] u loc n [d0,d1]∧o=[])):=by
 have gg:qUx b0∧qUx b1:=by
  obtain⟨hrk,_⟩:=hk;cases hrk with
  | two _ _ h0 h1=>exact⟨h0,h1⟩
 obtain⟨g0,g1⟩:=gg;have a6 : ¬ yK (n:Int) false=5:=by unfold yK;split<;>(try split)<;>(try split)<;>simp_all
 simp(disch:=omega)only[go_sem,zV,h2,qD4,a6,mcn];refine qBh (fs':=[(2,.t (.int .i64 (n:Nat))),(3,.t (.sl [bsT d0,bsT d1])),(4,.ref 4096 0 0),(8,.ref 4112 0 0),(10,.t (.int .i64 0))]) (hs':=[(4112,.live 2 [.agg [.nil,.t (.int .i64 0)]] true true),(4096,.live 2 [.t (yL [b0,b1] u)] true true)]) (qI.rd id ?_ ?_ rfl) ?_
 ·simp(disch:=omega)only[go_sem,id]
 ·simp(disch:=omega)only[go_sem,id]
 rcases g0 with z0 | z0<;>rcases g1 with z1 | z1
 ·have zz:True:=trivial;by_cases p2:0<d0.length
  ·have zz:True:=trivial;have hE:qKp 0 0 loc n 2 d0.length d1.length=27:=by unfold qKp;rw[if_neg oM,if_neg oM,if_pos oM]
   refine qT 3 ?_;simp(disch:=omega)only[go_sem,qJ,h3,jA hk.1,jB hk.1,h4,qR,qS,h5,jE hk,h7,zR,h6,zK,zJ,z0,z1,hE,List.map_nil,qQx,qKq,List.getD_cons_zero,List.getD_cons_succ,List.length_cons,List.length_nil];all_goals repeat refine And.intro rfl ?_
   all_goals rfl
  ·have zz:True:=trivial;by_cases p1:0<d1.length
   ·have zz:True:=trivial;have hE:qKp 0 0 loc n 2 d0.length d1.length=27:=by unfold qKp;rw[if_neg oM,if_neg oM,if_pos oM]
    refine qT 3 ?_;simp(disch:=omega)only[go_sem,qJ,h3,jA hk.1,jB hk.1,h4,qR,qS,h5,jE hk,h7,zR,h6,zK,zJ,z0,z1,hE,List.map_nil,qQx,qKq,List.getD_cons_zero,List.getD_cons_succ,List.length_cons,List.length_nil];all_goals repeat refine And.intro rfl ?_
    all_goals rfl
   ·have zz:True:=trivial;refine qT 3 ?_;simp(disch:=omega)only[go_sem,qJ,h3,jA hk.1,jB hk.1,h4,qR,qS,h5,jE hk,h7,zR,h6,zK,zJ,z0,z1];all_goals repeat refine And.intro rfl ?_
    refine qBh (fs':=[(2,.t (.int .i64 (n:Nat))),(3,.t (.sl [bsT d0,bsT d1])),(4,.ref 4096 0 0),(8,.ref 4112 0 0),(11,.t (.int .i64 0))]) (hs':=[(4112,.live 2 [.agg [.nil,.t (.int .i64 0)]] true true),(4096,.live 2 [.t (yL [b0,b1] u)] true true)]) (qI.rd id ?_ ?_ rfl) ?_
    ·simp(disch:=omega)only[go_sem,id]
    ·simp(disch:=omega)only[go_sem,id]
    have hE:qKp 0 0 loc n 2 d0.length d1.length=0:=by unfold qKp;rw[if_neg oM,if_neg oM,if_neg oM,if_neg oM]
    refine qT 3 ?_;simp(disch:=omega)only[go_sem,qJ,h3,jA hk.1,jB hk.1,h4,qR,qS,h5,jE hk,h7,zR,h6,zK,zJ,z0,z1];all_goals repeat refine And.intro rfl ?_
    refine qF 2 (fun k=>match k with | 0=>[(2,.t (.int .i64 (n:Nat))),(3,.t (.sl [bsT d0,bsT d1])),(4,.ref 4096 0 0),(8,.ref 4112 0 0),(12,.ref 65568 0 0),(13,.t (.int .i64 0))] | 1=>[(2,.t (.int .i64 (n:Nat))),(3,.t (.sl [bsT d0,bsT d1])),(4,.ref 4096 0 0),(8,.ref 4112 0 0),(12,.ref 65568 0 0),(13,.t (.int .i64 1))] | _=>[(2,.t (.int .i64 (n:Nat))),(3,.t (.sl [bsT d0,bsT d1])),(4,.ref 4096 0 0),(8,.ref 4112 0 0),(12,.ref 65568 0 0),(13,.t (.int .i64 2))]) (fun k=>match k with | 0=>[(65568,.live 2 [.agg [.sl 65552 0 2,.t (.int .i64 u)]] true true),(65554,.live 1 (((b1).map bsT).map V.t) true false),(65553,.live 1 (((b0).map bsT).map V.t) true false),(65552,.live 1 [.sl 65553 0 0,.sl 65554 0 0] true false),(4112,.live 2 [.agg [.nil,.t (.int .i64 0)]] true true),(4096,.live 2 [.t (yL [b0,b1] u)] true true)] | 1=>[(65568,.live 2 [.agg [.sl 65552 0 2,.t (.int .i64 u)]] true true),(65554,.live 1 (((b1).map bsT).map V.t) true false),(65553,.live 1 (((qBy 0 b0 n d0).map bsT).map V.t) true false),(65552,.live 1 [.sl 65553 0 0,.sl 65554 0 0] true false),(4112,.live 2 [.agg [.nil,.t (.int .i64 0)]] true true),(4096,.live 2 [.t (yL [b0,b1] u)] true true)] | _=>[(65568,.live 2 [.agg [.sl 65552 0 2,.t (.int .i64 u)]] true true),(65554,.live 1 (((qBy 1 b1 n d1).map bsT).map V.t) true false),(65553,.live 1 (((qBy 0 b0 n d0).map bsT).map V.t) true false),(65552,.live 1 [.sl 65553 0 0,.sl 65554 0 0] true false),(4112,.live 2 [.agg [.nil,.t (.int .i64 0)]] true true),(4096,.live 2 [.t (yL [b0,b1] u)] true true)]) ?_ (fun k hk2=>?_)
    ·refine qI.rd id ?_ ?_ rfl;all_goals simp(disch:=omega)only[go_sem,id,z0,z1]
    ·rcases (show k=0∨k=1∨k=2 by omega) with rfl | rfl | rfl
     ·have q:=List.take_of_length_le (show (b0.getD n []++d0).length≤(List.getD b0 n []).length+d0.length by rw[List.length_append];exact Nat.le_refl _);simp(disch:=omega)only[go_sem,h3,jA hk.1,jB hk.1,h4,qR,qS,h5,jE hk,h7,zR,h6,zK,zJ,z0,z1,qZ,q];refine qI.rd id ?_ ?_ rfl;all_goals simp(disch:=omega)only[go_sem,id,qBy,z0,z1]
     ·have q:=List.take_of_length_le (show (b1.getD n []++d1).length≤(List.getD b1 n []).length+d1.length by rw[List.length_append];exact Nat.le_refl _);simp(disch:=omega)only[go_sem,h3,jA hk.1,jB hk.1,h4,qR,qS,h5,jE hk,h7,zR,h6,zK,zJ,z0,z1,qZ,q];refine qI.rd id ?_ ?_ rfl;all_goals simp(disch:=omega)only[go_sem,id,qBy,z0,z1]
     ·have t0:List.take 0 (qBy 0 b0 n d0)=qBy 0 b0 n d0:=List.take_of_length_le (by rw[qZ,z0];exact Nat.le_refl _);have t1:List.take 0 (qBy 1 b1 n d1)=qBy 1 b1 n d1:=List.take_of_length_le (by rw[qZ,z1];exact Nat.le_refl _);have y0:qBy 0 b0 n d0=[]:=List.eq_nil_of_length_eq_zero (by rw[qZ,z0]);have y1:qBy 1 b1 n d1=[]:=List.eq_nil_of_length_eq_zero (by rw[qZ,z1]);simp(disch:=omega)only[go_sem,qZ,t0,t1,z0,z1,hE,qP3,Int.toNat_natCast,mcn,y0,y1,qQx,qKq,List.getD_cons_zero,List.getD_cons_succ,List.length_cons,List.length_nil]
 ·have zz:True:=trivial;by_cases p1:0<d0.length
  ·have zz:True:=trivial;have hE:qKp 0 16 loc n 2 d0.length d1.length=27:=by unfold qKp;rw[if_neg oM,if_neg oM,if_pos oM]
   refine qT 3 ?_;simp(disch:=omega)only[go_sem,qJ,h3,jA hk.1,jB hk.1,h4,qR,qS,h5,jE hk,h7,zR,h6,zK,zJ,z0,z1,hE,List.map_nil,qQx,qKq,List.getD_cons_zero,List.getD_cons_succ,List.length_cons,List.length_nil];all_goals repeat refine And.intro rfl ?_
   all_goals rfl
  ·have zz:True:=trivial;refine qT 3 ?_;simp(disch:=omega)only[go_sem,qJ,h3,jA hk.1,jB hk.1,h4,qR,qS,h5,jE hk,h7,zR,h6,zK,zJ,z0,z1];all_goals repeat refine And.intro rfl ?_
   refine qBh (fs':=[(2,.t (.int .i64 (n:Nat))),(3,.t (.sl [bsT d0,bsT d1])),(4,.ref 4096 0 0),(8,.ref 4112 0 0),(11,.t (.int .i64 0))]) (hs':=[(4112,.live 2 [.agg [.nil,.t (.int .i64 0)]] true true),(4096,.live 2 [.t (yL [b0,b1] u)] true true)]) (qI.rd id ?_ ?_ rfl) ?_
   ·simp(disch:=omega)only[go_sem,id]
   ·simp(disch:=omega)only[go_sem,id]
   by_cases q1:d1.length≠32
   ·have zz:True:=trivial;have hE:qKp 0 16 loc n 2 d0.length d1.length=24:=by unfold qKp;rw[if_neg oM,if_neg oM,if_neg oM,if_pos oM]
    refine qT 3 ?_;simp(disch:=omega)only[go_sem,qJ,h3,jA hk.1,jB hk.1,h4,qR,qS,h5,jE hk,h7,zR,h6,zK,zJ,z0,z1,hE,List.map_nil,qQx,qKq,List.getD_cons_zero,List.getD_cons_succ,List.length_cons,List.length_nil];all_goals repeat refine And.intro rfl ?_
    all_goals rfl
   ·have zz:True:=trivial;have hE:qKp 0 16 loc n 2 d0.length d1.length=0:=by unfold qKp;rw[if_neg oM,if_neg oM,if_neg oM,if_neg oM]
    refine qT 3 ?_;simp(disch:=omega)only[go_sem,qJ,h3,jA hk.1,jB hk.1,h4,qR,qS,h5,jE hk,h7,zR,h6,zK,zJ,z0,z1];all_goals repeat refine And.intro rfl ?_
    refine qF 2 (fun k=>match k with | 0=>[(2,.t (.int .i64 (n:Nat))),(3,.t (.sl [bsT d0,bsT d1])),(4,.ref 4096 0 0),(8,.ref 4112 0 0),(12,.ref 65568 0 0),(13,.t (.int .i64 0))] | 1=>[(2,.t (.int .i64 (n:Nat))),(3,.t (.sl [bsT d0,bsT d1])),(4,.ref 4096 0 0),(8,.ref 4112 0 0),(12,.ref 65568 0 0),(13,.t (.int .i64 1))] | _=>[(2,.t (.int .i64 (n:Nat))),(3,.t (.sl [bsT d0,bsT d1])),(4,.ref 4096 0 0),(8,.ref 4112 0 0),(12,.ref 65568 0 0),(13,.t (.int .i64 2))]) (fun k=>match k with | 0=>[(65568,.live 2 [.agg [.sl 65552 0 2,.t (.int .i64 u)]] true true),(65554,.live 1 (((b1).map bsT).map V.t) true false),(65553,.live 1 (((b0).map bsT).map V.t) true false),(65552,.live 1 [.sl 65553 0 0,.sl 65554 0 16] true false),(4112,.live 2 [.agg [.nil,.t (.int .i64 0)]] true true),(4096,.live 2 [.t (yL [b0,b1] u)] true true)] | 1=>[(65568,.live 2 [.agg [.sl 65552 0 2,.t (.int .i64 u)]] true true),(65554,.live 1 (((b1).map bsT).map V.t) true false),(65553,.live 1 (((qBy 0 b0 n d0).map bsT).map V.t) true false),(65552,.live 1 [.sl 65553 0 0,.sl 65554 0 16] true false),(4112,.live 2 [.agg [.nil,.t (.int .i64 0)]] true true),(4096,.live 2 [.t (yL [b0,b1] u)] true true)] | _=>[(65568,.live 2 [.agg [.sl 65552 0 2,.t (.int .i64 u)]] true true),(65554,.live 1 (((qBy 1 b1 n d1).map bsT).map V.t) true false),(65553,.live 1 (((qBy 0 b0 n d0).map bsT).map V.t) true false),(65552,.live 1 [.sl 65553 0 0,.sl 65554 0 16] true false),(4112,.live 2 [.agg [.nil,.t (.int .i64 0)]] true true),(4096,.live 2 [.t (yL [b0,b1] u)] true true)]) ?_ (fun k hk2=>?_)
    ·refine qI.rd id ?_ ?_ rfl;all_goals simp(disch:=omega)only[go_sem,id,z0,z1]
    ·rcases (show k=0∨k=1∨k=2 by omega) with rfl | rfl | rfl
     ·have q:=List.take_of_length_le (show (b0.getD n []++d0).length≤(List.getD b0 n []).length+d0.length by rw[List.length_append];exact Nat.le_refl _);simp(disch:=omega)only[go_sem,h3,jA hk.1,jB hk.1,h4,qR,qS,h5,jE hk,h7,zR,h6,zK,zJ,z0,z1,qZ,q];refine qI.rd id ?_ ?_ rfl;all_goals simp(disch:=omega)only[go_sem,id,qBy,z0,z1]
     ·have q:=List.take_of_length_le (show (b1.getD n []++d1).length≤(List.getD b1 n []).length+d1.length by rw[List.length_append];exact Nat.le_refl _);simp(maxSteps:=9^9)(disch:=try exact dS)only[go_sem,h3,jA hk.1,jB hk.1,h4,qR,qS,h5,jE hk,h7,zR,h6,zK,zJ,z0,z1,qZ,q];repeat refine And.intro rfl ?_
      refine qI.cv (hv:=[]) [86352] id ?_ rfl;simp(maxSteps:=9^9)(disch:=try exact dS)only[go_sem,id,qBy,z0,z1,qBw,kH,zOm,zOn,yJ,qO];all_goals rfl
     ·have t0:List.take 0 (qBy 0 b0 n d0)=qBy 0 b0 n d0:=List.take_of_length_le (by rw[qZ,z0];exact Nat.le_refl _);have t1:List.take 16 (qBy 1 b1 n d1)=qBy 1 b1 n d1:=List.take_of_length_le (by rw[qZ,z1];exact Nat.le_refl _);have y0:qBy 0 b0 n d0=[]:=List.eq_nil_of_length_eq_zero (by rw[qZ,z0]);simp(disch:=omega)only[go_sem,qZ,t0,t1,z0,z1,hE,qP3,Int.toNat_natCast,mcn,y0,qQx,qKq,List.getD_cons_zero,List.getD_cons_succ,List.length_cons,List.length_nil]
 ·have zz:True:=trivial;by_cases p1:0<d1.length
  ·have zz:True:=trivial;have hE:qKp 16 0 loc n 2 d0.length d1.length=27:=by unfold qKp;rw[if_neg oM,if_neg oM,if_pos oM]
   refine qT 3 ?_;simp(disch:=omega)only[go_sem,qJ,h3,jA hk.1,jB hk.1,h4,qR,qS,h5,jE hk,h7,zR,h6,zK,zJ,z0,z1,hE,List.map_nil,qQx,qKq,List.getD_cons_zero,List.getD_cons_succ,List.length_cons,List.length_nil];all_goals repeat refine And.intro rfl ?_
   all_goals rfl
  ·have zz:True:=trivial;refine qT 3 ?_;simp(disch:=omega)only[go_sem,qJ,h3,jA hk.1,jB hk.1,h4,qR,qS,h5,jE hk,h7,zR,h6,zK,zJ,z0,z1];all_goals repeat refine And.intro rfl ?_
   refine qBh (fs':=[(2,.t (.int .i64 (n:Nat))),(3,.t (.sl [bsT d0,bsT d1])),(4,.ref 4096 0 0),(8,.ref 4112 0 0),(11,.t (.int .i64 0))]) (hs':=[(4112,.live 2 [.agg [.nil,.t (.int .i64 0)]] true true),(4096,.live 2 [.t (yL [b0,b1] u)] true true)]) (qI.rd id ?_ ?_ rfl) ?_
   ·simp(disch:=omega)only[go_sem,id]
   ·simp(disch:=omega)only[go_sem,id]
   by_cases q1:d0.length≠20
   ·have zz:True:=trivial;have hE:qKp 16 0 loc n 2 d0.length d1.length=24:=by unfold qKp;rw[if_neg oM,if_neg oM,if_neg oM,if_pos oM]
    refine qT 3 ?_;simp(disch:=omega)only[go_sem,qJ,h3,jA hk.1,jB hk.1,h4,qR,qS,h5,jE hk,h7,zR,h6,zK,zJ,z0,z1,hE,List.map_nil,qQx,qKq,List.getD_cons_zero,List.getD_cons_succ,List.length_cons,List.length_nil];all_goals repeat refine And.intro rfl ?_
    all_goals rfl
   ·have zz:True:=trivial;have hE:qKp 16 0 loc n 2 d0.length d1.length=0:=by unfold qKp;rw[if_neg oM,if_neg oM,if_neg oM,if_neg oM]
    refine qT 3 ?_;simp(disch:=omega)only[go_sem,qJ,h3,jA hk.1,jB hk.1,h4,qR,qS,h5,jE hk,h7,zR,h6,zK,zJ,z0,z1];all_goals repeat refine And.intro rfl ?_
    refine qF 2 (fun k=>match k with | 0=>[(2,.t (.int .i64 (n:Nat))),(3,.t (.sl [bsT d0,bsT d1])),(4,.ref 4096 0 0),(8,.ref 4112 0 0),(12,.ref 65568 0 0),(13,.t (.int .i64 0))] | 1=>[(2,.t (.int .i64 (n:Nat))),(3,.t (.sl [bsT d0,bsT d1])),(4,.ref 4096 0 0),(8,.ref 4112 0 0),(12,.ref 65568 0 0),(13,.t (.int .i64 1))] | _=>[(2,.t (.int .i64 (n:Nat))),(3,.t (.sl [bsT d0,bsT d1])),(4,.ref 4096 0 0),(8,.ref 4112 0 0),(12,.ref 65568 0 0),(13,.t (.int .i64 2))]) (fun k=>match k with | 0=>[(65568,.live 2 [.agg [.sl 65552 0 2,.t (.int .i64 u)]] true true),(65554,.live 1 (((b1).map bsT).map V.t) true false),(65553,.live 1 (((b0).map bsT).map V.t) true false),(65552,.live 1 [.sl 65553 0 16,.sl 65554 0 0] true false),(4112,.live 2 [.agg [.nil,.t (.int .i64 0)]] true true),(4096,.live 2 [.t (yL [b0,b1] u)] true true)] | 1=>[(65568,.live 2 [.agg [.sl 65552 0 2,.t (.int .i64 u)]] true true),(65554,.live 1 (((b1).map bsT).map V.t) true false),(65553,.live 1 (((qBy 0 b0 n d0).map bsT).map V.t) true false),(65552,.live 1 [.sl 65553 0 16,.sl 65554 0 0] true false),(4112,.live 2 [.agg [.nil,.t (.int .i64 0)]] true true),(4096,.live 2 [.t (yL [b0,b1] u)] true true)] | _=>[(65568,.live 2 [.agg [.sl 65552 0 2,.t (.int .i64 u)]] true true),(65554,.live 1 (((qBy 1 b1 n d1).map bsT).map V.t) true false),(65553,.live 1 (((qBy 0 b0 n d0).map bsT).map V.t) true false),(65552,.live 1 [.sl 65553 0 16,.sl 65554 0 0] true false),(4112,.live 2 [.agg [.nil,.t (.int .i64 0)]] true true),(4096,.live 2 [.t (yL [b0,b1] u)] true true)]) ?_ (fun k hk2=>?_)
    ·refine qI.rd id ?_ ?_ rfl;all_goals simp(disch:=omega)only[go_sem,id,z0,z1]
    ·rcases (show k=0∨k=1∨k=2 by omega) with rfl | rfl | rfl
     ·have q:=List.take_of_length_le (show (b0.getD n []++d0).length≤(List.getD b0 n []).length+d0.length by rw[List.length_append];exact Nat.le_refl _);simp(maxSteps:=9^9)(disch:=try exact dS)only[go_sem,h3,jA hk.1,jB hk.1,h4,qR,qS,h5,jE hk,h7,zR,h6,zK,zJ,z0,z1,qZ,q];repeat refine And.intro rfl ?_
      refine qI.cv (hv:=[]) [86352] id ?_ rfl;simp(maxSteps:=9^9)(disch:=try exact dS)only[go_sem,id,qBy,z0,z1,qBw,kH,zOm,zOn,yJ,qO];all_goals rfl
     ·have q:=List.take_of_length_le (show (b1.getD n []++d1).length≤(List.getD b1 n []).length+d1.length by rw[List.length_append];exact Nat.le_refl _);simp(disch:=omega)only[go_sem,h3,jA hk.1,jB hk.1,h4,qR,qS,h5,jE hk,h7,zR,h6,zK,zJ,z0,z1,qZ,q];refine qI.rd id ?_ ?_ rfl;all_goals simp(disch:=omega)only[go_sem,id,qBy,z0,z1]
     ·have t0:List.take 16 (qBy 0 b0 n d0)=qBy 0 b0 n d0:=List.take_of_length_le (by rw[qZ,z0];exact Nat.le_refl _);have t1:List.take 0 (qBy 1 b1 n d1)=qBy 1 b1 n d1:=List.take_of_length_le (by rw[qZ,z1];exact Nat.le_refl _);have y1:qBy 1 b1 n d1=[]:=List.eq_nil_of_length_eq_zero (by rw[qZ,z1]);simp(disch:=omega)only[go_sem,qZ,t0,t1,z0,z1,hE,qP3,Int.toNat_natCast,mcn,y1,qQx,qKq,List.getD_cons_zero,List.getD_cons_succ,List.length_cons,List.length_nil]
 ·have zz:True:=trivial;refine qT 3 ?_;simp(disch:=omega)only[go_sem,qJ,h3,jA hk.1,jB hk.1,h4,qR,qS,h5,jE hk,h7,zR,h6,zK,zJ,z0,z1];all_goals repeat refine And.intro rfl ?_
  refine qBh (fs':=[(2,.t (.int .i64 (n:Nat))),(3,.t (.sl [bsT d0,bsT d1])),(4,.ref 4096 0 0),(8,.ref 4112 0 0),(11,.t (.int .i64 0))]) (hs':=[(4112,.live 2 [.agg [.nil,.t (.int .i64 0)]] true true),(4096,.live 2 [.t (yL [b0,b1] u)] true true)]) (qI.rd id ?_ ?_ rfl) ?_
  ·simp(disch:=omega)only[go_sem,id]
  ·simp(disch:=omega)only[go_sem,id]
  by_cases q2:d0.length≠20
  ·have zz:True:=trivial;have hE:qKp 16 16 loc n 2 d0.length d1.length=24:=by unfold qKp;rw[if_neg oM,if_neg oM,if_neg oM,if_pos oM]
   refine qT 3 ?_;simp(disch:=omega)only[go_sem,qJ,h3,jA hk.1,jB hk.1,h4,qR,qS,h5,jE hk,h7,zR,h6,zK,zJ,z0,z1,hE,List.map_nil,qQx,qKq,List.getD_cons_zero,List.getD_cons_succ,List.length_cons,List.length_nil];all_goals repeat refine And.intro rfl ?_
   all_goals rfl
  ·have zz:True:=trivial;by_cases q1:d1.length≠32
   ·have zz:True:=trivial;have hE:qKp 16 16 loc n 2 d0.length d1.length=24:=by unfold qKp;rw[if_neg oM,if_neg oM,if_neg oM,if_pos oM]
    refine qT 3 ?_;simp(disch:=omega)only[go_sem,qJ,h3,jA hk.1,jB hk.1,h4,qR,qS,h5,jE hk,h7,zR,h6,zK,zJ,z0,z1,hE,List.map_nil,qQx,qKq,List.getD_cons_zero,List.getD_cons_succ,List.length_cons,List.length_nil];all_goals repeat refine And.intro rfl ?_
    all_goals rfl
   ·have zz:True:=trivial;have hE:qKp 16 16 loc n 2 d0.length d1.length=0:=by unfold qKp;rw[if_neg oM,if_neg oM,if_neg oM,if_neg oM]
    refine qT 3 ?_;simp(disch:=omega)only[go_sem,qJ,h3,jA hk.1,jB hk.1,h4,qR,qS,h5,jE hk,h7,zR,h6,zK,zJ,z0,z1];all_goals repeat refine And.intro rfl ?_
    refine qF 2 (fun k=>match k with | 0=>[(2,.t (.int .i64 (n:Nat))),(3,.t (.sl [bsT d0,bsT d1])),(4,.ref 4096 0 0),(8,.ref 4112 0 0),(12,.ref 65568 0 0),(13,.t (.int .i64 0))] | 1=>[(2,.t (.int .i64 (n:Nat))),(3,.t (.sl [bsT d0,bsT d1])),(4,.ref 4096 0 0),(8,.ref 4112 0 0),(12,.ref 65568 0 0),(13,.t (.int .i64 1))] | _=>[(2,.t (.int .i64 (n:Nat))),(3,.t (.sl [bsT d0,bsT d1])),(4,.ref 4096 0 0),(8,.ref 4112 0 0),(12,.ref 65568 0 0),(13,.t (.int .i64 2))]) (fun k=>match k with | 0=>[(65568,.live 2 [.agg [.sl 65552 0 2,.t (.int .i64 u)]] true true),(65554,.live 1 (((b1).map bsT).map V.t) true false),(65553,.live 1 (((b0).map bsT).map V.t) true false),(65552,.live 1 [.sl 65553 0 16,.sl 65554 0 16] true false),(4112,.live 2 [.agg [.nil,.t (.int .i64 0)]] true true),(4096,.live 2 [.t (yL [b0,b1] u)] true true)] | 1=>[(65568,.live 2 [.agg [.sl 65552 0 2,.t (.int .i64 u)]] true true),(65554,.live 1 (((b1).map bsT).map V.t) true false),(65553,.live 1 (((qBy 0 b0 n d0).map bsT).map V.t) true false),(65552,.live 1 [.sl 65553 0 16,.sl 65554 0 16] true false),(4112,.live 2 [.agg [.nil,.t (.int .i64 0)]] true true),(4096,.live 2 [.t (yL [b0,b1] u)] true true)] | _=>[(65568,.live 2 [.agg [.sl 65552 0 2,.t (.int .i64 u)]] true true),(65554,.live 1 (((qBy 1 b1 n d1).map bsT).map V.t) true false),(65553,.live 1 (((qBy 0 b0 n d0).map bsT).map V.t) true false),(65552,.live 1 [.sl 65553 0 16,.sl 65554 0 16] true false),(4112,.live 2 [.agg [.nil,.t (.int .i64 0)]] true true),(4096,.live 2 [.t (yL [b0,b1] u)] true true)]) ?_ (fun k hk2=>?_)
    ·refine qI.rd id ?_ ?_ rfl;all_goals simp(disch:=omega)only[go_sem,id,z0,z1]
    ·rcases (show k=0∨k=1∨k=2 by omega) with rfl | rfl | rfl
     ·have q:=List.take_of_length_le (show (b0.getD n []++d0).length≤(List.getD b0 n []).length+d0.length by rw[List.length_append];exact Nat.le_refl _);simp(maxSteps:=9^9)(disch:=try exact dS)only[go_sem,h3,jA hk.1,jB hk.1,h4,qR,qS,h5,jE hk,h7,zR,h6,zK,zJ,z0,z1,qZ,q];repeat refine And.intro rfl ?_
      refine qI.cv (hv:=[]) [86352] id ?_ rfl;simp(maxSteps:=9^9)(disch:=try exact dS)only[go_sem,id,qBy,z0,z1,qBw,kH,zOm,zOn,yJ,qO];all_goals rfl
     ·have q:=List.take_of_length_le (show (b1.getD n []++d1).length≤(List.getD b1 n []).length+d1.length by rw[List.length_append];exact Nat.le_refl _);simp(maxSteps:=9^9)(disch:=try exact dS)only[go_sem,h3,jA hk.1,jB hk.1,h4,qR,qS,h5,jE hk,h7,zR,h6,zK,zJ,z0,z1,qZ,q];repeat refine And.intro rfl ?_
      refine qI.cv (hv:=[]) [86352] id ?_ rfl;simp(maxSteps:=9^9)(disch:=try exact dS)only[go_sem,id,qBy,z0,z1,qBw,kH,zOm,zOn,yJ,qO];all_goals rfl
     ·have t0:List.take 16 (qBy 0 b0 n d0)=qBy 0 b0 n d0:=List.take_of_length_le (by rw[qZ,z0];exact Nat.le_refl _);have t1:List.take 16 (qBy 1 b1 n d1)=qBy 1 b1 n d1:=List.take_of_length_le (by rw[qZ,z1];exact Nat.le_refl _);simp(disch:=omega)only[go_sem,qZ,t0,t1,z0,z1,hE,qP3,Int.toNat_natCast,mcn,qQx,qKq,List.getD_cons_zero,List.getD_cons_succ,List.length_cons,List.length_nil]
theorem qQo (h2:LkC tab 235 kC)(bk:List zE)(u loc i:Int)(ds:List (List UInt8))(hd:ds.length<1000000000)
  (hb:(loc<0∨4<loc∨i<0∨16≤i∨ds.length≠2)∨loc<yK i false) :
  zV.1.wp tab gl (qD 0 [.t (yL bk u),.t (.int .i64 loc),.t (.int .i64 i),.t (.sl (ds.map bsT))]) (qD 0 []) (qY [(8,some (2,true)),(9,none)] 0 (fun r o=>r = .tup [.t (yL [] 0),.t (.int .i64 (if loc<0∨4<loc∨i<0∨16≤i∨ds.length≠2 then 1 else 13))]∧o=[])):=by
 have a7 : ¬ yK i false=5:=by unfold yK;split<;>(try split)<;>(try split)<;>simp_all
 by_cases a1:loc<0
 ·simp(disch:=omega)only[go_sem,zV,a1,List.map_nil]
 ·by_cases a2:4<loc
  ·simp(disch:=omega)only[go_sem,zV,a1,a2,List.map_nil]
  ·by_cases a3:i<0
   ·simp(disch:=omega)only[go_sem,zV,a1,a2,a3,List.map_nil]
   ·by_cases a4:16≤i
    ·simp(disch:=omega)only[go_sem,zV,a1,a2,a3,a4,List.map_nil]
    ·by_cases a5:ds.length=2
     ·have a6:loc<yK i false:=by rcases hb with h | h;(omega);(exact h)
      simp(disch:=omega)only[go_sem,zV,a1,a2,a3,a4,a5,a6,a7,h2,qD4,List.map_nil,ne_eq]
     ·simp(disch:=omega)only[go_sem,zV,a1,a2,a3,a4,a5,List.map_nil,ne_eq]
theorem zGj {u:Int}{a:Nat}(ha:a<2):jX.fs [.t (.agg [.sl [],.int .i64 u]),.t (.int .i64 a)] []=some (.t (.bool false),[]):=(qG0 (bk:=[]) .nil oM).trans (by simp[onB])
theorem qWg (h2:LkC tab 235 kC)(h3:LkC tab 74 jX)(h5:LkC tab 79 jI)
  (u loc:Int) (n:Nat) (d0 d1:List UInt8) (hu:0≤u∧u<1000000000) (hd:d0.length<9223372036854775808∧d1.length<9223372036854775808) (e1 : ¬(loc<0∨4<loc∨16≤n)) (e2 : ¬ loc<yK n false) :
  zV.1.wp tab gl (qD 0 [.t (yL [] u),.t (.int .i64 loc),.t (.int .i64 n),.t (.sl [bsT d0,bsT d1])]) (qD 0 []) (qY [(8,some (2,true)),(9,none)] 0 (fun r o=>r=qQx [] u loc n [d0,d1]∧o=[])):=by
 have a6 : ¬ yK (n:Int) false=5:=by unfold yK;split<;>(try split)<;>(try split)<;>simp_all
 have c0:=zGj (u:=u) (a:=0) oM;have c1:=zGj (u:=u) (a:=1) oM;rw[show ((0:Nat):Int)=0 from rfl] at c0;rw[show ((1:Nat):Int)=1 from rfl] at c1;simp(disch:=omega)only[go_sem,zV,h2,qD4,a6,mcn];refine qBh (fs':=[(2,.t (.int .i64 (n:Nat))),(3,.t (.sl [bsT d0,bsT d1])),(4,.ref 4096 0 0),(8,.ref 4112 0 0),(10,.t (.int .i64 0))]) (hs':=[(4112,.live 2 [.agg [.nil,.t (.int .i64 0)]] true true),(4096,.live 2 [.t (yL [] u)] true true)]) (qI.rd id ?_ ?_ rfl) ?_
 ·simp(disch:=omega)only[go_sem,id]
 ·simp(disch:=omega)only[go_sem,id,List.map_nil]
 by_cases p:0<d0.length∨0<d1.length
 ·have hE:qKp 0 0 loc n 2 d0.length d1.length=27:=by unfold qKp;rw[if_neg oM,if_neg oM,if_pos oM]
  by_cases p0:0<d0.length
  ·refine qT 3 ?_;simp(disch:=omega)only[go_sem,qJ,h3,c0,c1,hE,List.map_nil,qQx,qKq,List.getD_nil,List.getD_cons_zero,List.getD_cons_succ,List.length_cons,List.length_nil];all_goals repeat refine And.intro rfl ?_
   all_goals rfl
  ·refine qT 3 ?_;simp(disch:=omega)only[go_sem,qJ,h3,c0,c1,hE,List.map_nil,qQx,qKq,List.getD_nil,List.getD_cons_zero,List.getD_cons_succ,List.length_cons,List.length_nil];all_goals repeat refine And.intro rfl ?_
   all_goals rfl
 ·have hE:qKp 0 0 loc n 2 d0.length d1.length=0:=by unfold qKp;rw[if_neg oM,if_neg oM,if_neg oM,if_neg oM]
  refine qT 3 ?_;simp(disch:=omega)only[go_sem,qJ,h3,c0,c1,List.map_nil];all_goals repeat refine And.intro rfl ?_
  refine qT 3 ?_;simp(disch:=omega)only[go_sem,qJ,h3,c0,c1,h5,qSk,List.map_nil];all_goals repeat refine And.intro rfl ?_
  refine qT 3 ?_;simp(disch:=omega)only[go_sem,qJ,h3,c0,c1,hE,List.map_nil,qQx,qKq,qP3,List.getD_nil,List.getD_cons_zero,List.getD_cons_succ,List.length_cons,List.length_nil]
def RV (bk:List zE):Prop:=RK bk ∧ ∀ b∈bk,∀ x∈b,x.length≤64
theorem RV.rm {bk:List zE}(h:RV bk):RM bk:=by
 refine⟨h.1,fun b hb=>⟨?_,fun x hx=>Nat.lt_of_le_of_lt (h.2 b hb x hx) oM⟩⟩;have:qUx b:=by
  obtain⟨hk,_⟩:=h;cases hk with
  | nil=>simp at hb
  | two b0 b1 h0 h1=>
   simp only[List.mem_cons,List.not_mem_nil,or_false] at hb;rcases hb with rfl | rfl
   ·exact h0
   ·exact h1
 rcases this with h | h<;>omega
theorem qX1 {b:zE}{m n:Nat}(h : ∀ x∈b,x.length≤m):(b.getD n []).length≤m:=by
 by_cases hi:n<List.length b
 ·have:b.getD n []=b[n]:=by simp[List.getD,hi]
  rw[this];exact h _ (List.getElem_mem hi)
 ·simp[List.getD,List.getElem?_eq_none (Nat.le_of_not_lt hi)]
abbrev jBb:=List zE×Int×Int×Int×List (List UInt8)
def zUo (x:jBb):Prop:=RV x.1∧(0≤x.2.1∧x.2.1<1000000000)∧x.2.2.2.2.length<1000000000 ∧ ∀ d∈x.2.2.2.2,d.length<9223372036854775808
def qEd:Ct where
 α:=jBb
 aS x:=[.t (yL x.1 x.2.1),.t (.int .i64 x.2.2.1),.t (.int .i64 x.2.2.2.1),.t (.sl (x.2.2.2.2.map bsT))]
 ins _:=[]
 pre:=zUo
 r x:=qQx x.1 x.2.1 x.2.2.1 x.2.2.2.1 x.2.2.2.2
 outs _:=[]
 inj:=by
  rintro⟨a,u,l,i,ds⟩ ⟨b,v,l',i',ds'⟩ h _;simp only[List.cons.injEq,V.t.injEq,T.int.injEq,T.sl.injEq,true_and,and_true,qFt] at h;obtain⟨h1,rfl,rfl,rfl⟩:=h;obtain⟨rfl,rfl⟩:=qCt h1;exact⟨rfl,rfl⟩
theorem zQi {bk:List zE}{u loc i:Int}{ds:List (List UInt8)}(hb:(loc<0∨4<loc∨i<0∨16≤i∨ds.length≠2)∨loc<yK i false) :
  qQx bk u loc i ds = .tup [.t (yL [] 0),.t (.int .i64 (if loc<0∨4<loc∨i<0∨16≤i∨ds.length≠2 then 1 else 13))]:=by
 have he:qKp (bk.getD 0 []).length (bk.getD 1 []).length loc i ds.length (ds.getD 0 []).length (ds.getD 1 []).length=if loc<0∨4<loc∨i<0∨16≤i∨ds.length≠2 then 1 else 13:=by
  unfold qKp;by_cases h:loc<0∨4<loc∨i<0∨16≤i∨ds.length≠2
  ·rw[if_pos h,if_pos h]
  ·have h2:loc<yK i false:=by rcases hb with h' | h';exact absurd h' h;exact h'
   rw[if_neg h,if_neg h,if_pos h2]
 unfold qQx;rw[he];split
 ·split at *<;>simp_all
 ·rfl
theorem qZz (h2:LkC tab 235 kC)(h3:LkC tab 74 jX)(h4:LkC tab 98 xQ)(h5:LkC tab 79 jI)(h7:LkC tab 99 kR)(h6:LkC tab 236 qE9)(x:qEd.α)(hx:qEd.pre x) :
  zV.1.wp tab gl (qD 0 (qEd.aS x)) (qD 0 (qEd.ins x)) (qY [(8,some (2,true)),(9,none)] (qEd.ins x).length (fun r o=>r=qEd.r x∧o=qEd.outs x)):=by
 obtain⟨bk,u,loc,i,ds⟩:=x;obtain⟨hv,hu,hd,hd2⟩:=hx;simp only[qEd] at *;by_cases hb:(loc<0∨4<loc∨i<0∨16≤i∨ds.length≠2)∨loc<yK i false
 ·rw[zQi hb];exact qQo tab gl h2 bk u loc i ds hd hb
 ·obtain⟨n,rfl⟩:=Int.eq_ofNat_of_zero_le (show 0≤i by omega)
  match ds,hd2,hb with
  | [d0,d1],hd2,hb=>
   have m0:=hd2 d0 sM;have m1:=hd2 d1 sM;have e1 : ¬(loc<0∨4<loc∨16≤n):=oM;have e2 : ¬ loc<yK n false:=oM;have hm:=hv.rm;obtain⟨hk,hl⟩:=hv;cases hk with
   | nil=>exact qWg tab gl h2 h3 h5 u loc n d0 d1 hu ⟨m0,m1⟩ e1 e2
   | two b0 b1 g0 g1=>exact qWh tab gl h2 h3 h4 h5 h7 h6 b0 b1 u loc n d0 d1 hu hm (qX1 (hl b0 sM)) (qX1 (hl b1 sM)) ⟨m0,m1⟩ e1 e2
  | [],_,hb=>simp at hb
  | [_],_,hb=>simp at hb
  | _::_::_::_,_,hb=>simp at hb
def qS6 (bk:List zE)(data:List UInt8):List (List UInt8):=[if onB bk 0 then qYn data else [],if onB bk 1 then jY data else []]
def evR (bk:List zE)(u loc i:Int)(data:List UInt8):V:=if 128<data.length then .tup [.t (yL [] 0),.t (.int .i64 4)] else qQx bk u loc i (qS6 bk data)
theorem zIb {bk:List zE}{u loc i:Int}{ds:List (List UInt8)} : ∃ (bk':List zE) (u' e:Int),qQx bk u loc i ds = .tup [.t (.agg [.sl (bk'.map vM),.int .i64 u']),.t (.int .i64 e)]:=by
 unfold qQx;split
 ·exact⟨_,_,_,rfl⟩
 ·exact⟨[],0,_,rfl⟩
theorem zUq {bk:List zE}{u loc i:Int}{ds:List (List UInt8)}(h:zUo (bk,u,loc,i,ds)):qEd.fs [.t (.agg [.sl (bk.map vM),.int .i64 u]),.t (.int .i64 loc),.t (.int .i64 i),.t (.sl (ds.map bsT))] []=some (qQx bk u loc i ds,[]):=qEd.eq (bk,u,loc,i,ds) h
theorem zGv {bk:List zE}{data:List UInt8}:(qS6 bk data).length<1000000000 ∧ ∀ d∈qS6 bk data,d.length<9223372036854775808:=by
 refine⟨by simp[qS6],?_⟩;intro d hd;simp only[qS6,List.mem_cons,List.not_mem_nil,or_false] at hd;rcases hd with rfl | rfl
 ·split
  ·rw[yJ];omega
  ·simp
 ·split
  ·rw[qO];omega
  ·simp
theorem qWf (h1:LkC tab 74 jX)(h2:LkC tab 236 qE9)(bk:List zE)(u:Int)(data:List UInt8)(hk:RK bk)(hd:data.length<1000000000) :
  qDd.1.wp tab gl (qD 0 [.t (yL bk u),.t (.sl (data.map qA))]) (qD 0 []) (qY [(4,none)] 0 (fun r o=>r = .t (.sl ((qS6 bk data).map bsT))∧o=[])):=by
 have c0:=qG0 (u:=u) (a:=0) hk oM;have c1:=qG0 (u:=u) (a:=1) hk oM;rw[show ((0:Nat):Int)=0 from rfl] at c0;rw[show ((1:Nat):Int)=1 from rfl] at c1;simp(disch:=omega)only[go_sem,qDd];cases o0:onB bk 0<;>cases o1:onB bk 1<;>rw[o0] at c0<;>rw[o1] at c1
 ·have hdig:qS6 bk data=[[],[]]:=by rw[qS6,o0,o1];rfl
  rw[hdig];refine qF 2 (fun k=>match k with | 0=>[(1,.t (.sl (data.map qA))),(2,.ref 4096 0 0),(5,.sl 8192 0 2),(6,.t (.int .i64 0))] | 1=>[(1,.t (.sl (data.map qA))),(2,.ref 4096 0 0),(5,.sl 8192 0 2),(6,.t (.int .i64 1))] | _=>[(1,.t (.sl (data.map qA))),(2,.ref 4096 0 0),(5,.sl 8192 0 2),(6,.t (.int .i64 2))]) (fun k=>match k with | 0=>[(8192,.live 1 [.t (bsT []),.t (bsT [])] true false),(4096,.live 2 [.t (yL bk u)] true true)] | 1=>[(8192,.live 1 [.t (bsT ([])),.t (bsT [])] true false),(4096,.live 2 [.t (yL bk u)] true true)] | _=>[(8192,.live 1 [.t (bsT ([])),.t (bsT ([]))] true false),(4096,.live 2 [.t (yL bk u)] true true)]) ?_ (fun k hk2=>?_)
  ·refine qI.rd id ?_ ?_ rfl;all_goals simp(disch:=omega)only[go_sem,id,List.map_nil]
  ·rcases (show k=0∨k=1∨k=2 by omega) with rfl | rfl | rfl
   ·simp(disch:=omega)only[go_sem,h1,h2,c0,c1,zK,zJ,List.map_nil];refine qI.rd id ?_ ?_ rfl;all_goals simp(disch:=omega)only[go_sem,id,List.map_nil]
   ·simp(disch:=omega)only[go_sem,h1,h2,c0,c1,zK,zJ,List.map_nil];refine qI.rd id ?_ ?_ rfl;all_goals simp(disch:=omega)only[go_sem,id,List.map_nil]
   ·simp(disch:=omega)only[go_sem,h1,h2,c0,c1,zK,zJ,List.map_nil,mcn]
 ·have hdig:qS6 bk data=[[],jY data]:=by rw[qS6,o0,o1];rfl
  rw[hdig];refine qF 2 (fun k=>match k with | 0=>[(1,.t (.sl (data.map qA))),(2,.ref 4096 0 0),(5,.sl 8192 0 2),(6,.t (.int .i64 0))] | 1=>[(1,.t (.sl (data.map qA))),(2,.ref 4096 0 0),(5,.sl 8192 0 2),(6,.t (.int .i64 1))] | _=>[(1,.t (.sl (data.map qA))),(2,.ref 4096 0 0),(5,.sl 8192 0 2),(6,.t (.int .i64 2))]) (fun k=>match k with | 0=>[(8192,.live 1 [.t (bsT []),.t (bsT [])] true false),(4096,.live 2 [.t (yL bk u)] true true)] | 1=>[(8192,.live 1 [.t (bsT ([])),.t (bsT [])] true false),(4096,.live 2 [.t (yL bk u)] true true)] | _=>[(8192,.live 1 [.t (bsT ([])),.t (bsT (jY data))] true false),(4096,.live 2 [.t (yL bk u)] true true)]) ?_ (fun k hk2=>?_)
  ·refine qI.rd id ?_ ?_ rfl;all_goals simp(disch:=omega)only[go_sem,id,List.map_nil]
  ·rcases (show k=0∨k=1∨k=2 by omega) with rfl | rfl | rfl
   ·simp(disch:=omega)only[go_sem,h1,h2,c0,c1,zK,zJ,List.map_nil];refine qI.rd id ?_ ?_ rfl;all_goals simp(disch:=omega)only[go_sem,id,List.map_nil]
   ·simp(disch:=omega)only[go_sem,h1,h2,c0,c1,zK,zJ,List.map_nil];refine qI.cv (hv:=[]) [28736] id ?_ rfl;simp(disch:=omega)only[go_sem,id,qBw,kH,List.map_nil,yJ,qO];all_goals rfl
   ·simp(disch:=omega)only[go_sem,h1,h2,c0,c1,zK,zJ,List.map_nil,mcn]
 ·have hdig:qS6 bk data=[qYn data,[]]:=by rw[qS6,o0,o1];rfl
  rw[hdig];refine qF 2 (fun k=>match k with | 0=>[(1,.t (.sl (data.map qA))),(2,.ref 4096 0 0),(5,.sl 8192 0 2),(6,.t (.int .i64 0))] | 1=>[(1,.t (.sl (data.map qA))),(2,.ref 4096 0 0),(5,.sl 8192 0 2),(6,.t (.int .i64 1))] | _=>[(1,.t (.sl (data.map qA))),(2,.ref 4096 0 0),(5,.sl 8192 0 2),(6,.t (.int .i64 2))]) (fun k=>match k with | 0=>[(8192,.live 1 [.t (bsT []),.t (bsT [])] true false),(4096,.live 2 [.t (yL bk u)] true true)] | 1=>[(8192,.live 1 [.t (bsT (qYn data)),.t (bsT [])] true false),(4096,.live 2 [.t (yL bk u)] true true)] | _=>[(8192,.live 1 [.t (bsT (qYn data)),.t (bsT ([]))] true false),(4096,.live 2 [.t (yL bk u)] true true)]) ?_ (fun k hk2=>?_)
  ·refine qI.rd id ?_ ?_ rfl;all_goals simp(disch:=omega)only[go_sem,id,List.map_nil]
  ·rcases (show k=0∨k=1∨k=2 by omega) with rfl | rfl | rfl
   ·simp(disch:=omega)only[go_sem,h1,h2,c0,c1,zK,zJ,List.map_nil];refine qI.cv (hv:=[]) [28736] id ?_ rfl;simp(disch:=omega)only[go_sem,id,qBw,kH,List.map_nil,yJ,qO];all_goals rfl
   ·simp(disch:=omega)only[go_sem,h1,h2,c0,c1,zK,zJ,List.map_nil];refine qI.rd id ?_ ?_ rfl;all_goals simp(disch:=omega)only[go_sem,id,List.map_nil]
   ·simp(disch:=omega)only[go_sem,h1,h2,c0,c1,zK,zJ,List.map_nil,mcn]
 ·have hdig:qS6 bk data=[qYn data,jY data]:=by rw[qS6,o0,o1];rfl
  rw[hdig];refine qF 2 (fun k=>match k with | 0=>[(1,.t (.sl (data.map qA))),(2,.ref 4096 0 0),(5,.sl 8192 0 2),(6,.t (.int .i64 0))] | 1=>[(1,.t (.sl (data.map qA))),(2,.ref 4096 0 0),(5,.sl 8192 0 2),(6,.t (.int .i64 1))] | _=>[(1,.t (.sl (data.map qA))),(2,.ref 4096 0 0),(5,.sl 8192 0 2),(6,.t (.int .i64 2))]) (fun k=>match k with | 0=>[(8192,.live 1 [.t (bsT []),.t (bsT [])] true false),(4096,.live 2 [.t (yL bk u)] true true)] | 1=>[(8192,.live 1 [.t (bsT (qYn data)),.t (bsT [])] true false),(4096,.live 2 [.t (yL bk u)] true true)] | _=>[(8192,.live 1 [.t (bsT (qYn data)),.t (bsT (jY data))] true false),(4096,.live 2 [.t (yL bk u)] true true)]) ?_ (fun k hk2=>?_)
  ·refine qI.rd id ?_ ?_ rfl;all_goals simp(disch:=omega)only[go_sem,id,List.map_nil]
  ·rcases (show k=0∨k=1∨k=2 by omega) with rfl | rfl | rfl
   ·simp(disch:=omega)only[go_sem,h1,h2,c0,c1,zK,zJ,List.map_nil];refine qI.cv (hv:=[]) [28736] id ?_ rfl;simp(disch:=omega)only[go_sem,id,qBw,kH,List.map_nil,yJ,qO];all_goals rfl
   ·simp(disch:=omega)only[go_sem,h1,h2,c0,c1,zK,zJ,List.map_nil];refine qI.cv (hv:=[]) [28736] id ?_ rfl;simp(disch:=omega)only[go_sem,id,qBw,kH,List.map_nil,yJ,qO];all_goals rfl
   ·simp(disch:=omega)only[go_sem,h1,h2,c0,c1,zK,zJ,List.map_nil,mcn]
def qS2:Ct where
 α:=List zE×Int×List UInt8
 aS x:=[.t (yL x.1 x.2.1),.t (.sl (x.2.2.map qA))]
 ins _:=[]
 pre x:=RK x.1∧x.2.2.length<1000000000
 r x:= .t (.sl ((qS6 x.1 x.2.2).map bsT))
 outs _:=[]
 inj:=by
  rintro⟨a,u,d⟩ ⟨b,v,d'⟩ h _;simp only[List.cons.injEq,V.t.injEq,T.sl.injEq,and_true,yC] at h;obtain⟨h1,rfl⟩:=h;obtain⟨rfl,rfl⟩:=qCt h1;exact⟨rfl,rfl⟩
theorem zDb (h1:LkC tab 195 qS2)(h2:LkC tab 194 qEd)(bk:List zE)(u loc i:Int)(data:List UInt8)(hk:RV bk)(hu:0≤u∧u<1000000000)(hd:data.length<1000000000) :
  qCk.1.wp tab gl (qD 0 [.t (yL bk u),.t (.int .i64 loc),.t (.int .i64 i),.t (.sl (data.map qA))]) (qD 0 []) (qY [(8,some (2,true)),(9,none)] 0 (fun r o=>r=evR bk u loc i data∧o=[])):=by
 by_cases hl:128<data.length
 ·simp(disch:=omega)only[go_sem,qCk,evR,hl,List.map_nil]
 rw[evR,if_neg hl];have hx:=zUq (bk:=bk) (u:=u) (loc:=loc) (i:=i) (ds:=qS6 bk data) ⟨hk,hu,zGv.1,zGv.2⟩;obtain⟨bk',u',e,he⟩:=zIb (bk:=bk) (u:=u) (loc:=loc) (i:=i) (ds:=qS6 bk data);rw[he] at hx;rw[he];have hdg:qS2.fs [.t (.agg [.sl (bk.map vM),.int .i64 u]),.t (.sl (data.map qA))] []=some (.t (.sl ((qS6 bk data).map bsT)),[]):=qS2.eq (bk,u,data) ⟨hk.1,hd⟩;simp(disch:=omega)only[go_sem,qCk,h1,h2,hdg,hx];all_goals rfl
def qKd:Ct where
 α:=List (List UInt8)×List (List UInt8)
 aS x:=[.t (.sl (x.1.map bsT)),.t (.sl (x.2.map bsT))]
 ins _:=[]
 pre x:=zDo x.1∧zDo x.2
 r x:= .t (.bool (decide (x.1=x.2)))
 outs _:=[]
 inj:=by
  rintro⟨a,b⟩ ⟨c,d⟩ h _;simp[qFt] at h;obtain⟨rfl,rfl⟩:=h;exact⟨rfl,rfl⟩
theorem qR8 {a:zE}(h:zDo a):qKd.fs [.t (.sl (a.map bsT)),.t (.sl (a.map bsT))] []=some (.t (.bool true),[]):=by
 refine (qKd.eq (a,a) ⟨h,h⟩).trans ?_;simp[qKd]
theorem RM.bank {bk:List zE}(h:RM bk)(a:Nat):zDo (bk.getD a []):=by
 by_cases ha:a<bk.length
 ·have e:bk.getD a []=bk[a]:=by simp[List.getD,ha]
  rw[e];exact h.2 _ (List.getElem_mem ha)
 ·have e:bk.getD a []=[]:=by simp[List.getD,List.getElem?_eq_none (Nat.le_of_not_lt ha)]
  rw[e];exact⟨sM,sM⟩
theorem zF8 (h1:LkC tab 74 jX)(h2:LkC tab 63 qKd)(bk:List zE)(u:Int)(hk:RM bk) :
  qIt.1.wp tab gl (qD 0 [.t (yL bk u),.t (yL bk u)]) (qD 0 []) (qY [(4,none)] 0 (fun r o=>r = .t (.bool true)∧o=[])):=by
 have c0:=qG0 (u:=u) (a:=0) hk.1 oM;have c1:=qG0 (u:=u) (a:=1) hk.1 oM;rw[show ((0:Nat):Int)=0 from rfl] at c0;rw[show ((1:Nat):Int)=1 from rfl] at c1;have m0:=qR8 (hk.bank 0);have m1:=qR8 (hk.bank 1);have hlen:bk.length≤2:=by
  obtain⟨h,_⟩:=hk;cases h<;>simp
 have l0:onB bk 0=true→0<bk.length:=fun h=>hk.1.len h
 have l1:onB bk 1=true→1<bk.length:=fun h=>hk.1.len h
 simp(disch:=omega)only[go_sem,qIt];refine qBh (fs':=[(2,.ref 4096 0 0),(3,.ref 4112 0 0),(5,.t (.int .i64 0))]) (hs':=[(4096,.live 2 [.t (yL bk u)] true true),(4112,.live 2 [.t (yL bk u)] true true)]) (qI.rd id ?_ ?_ rfl) ?_
 ·simp(disch:=omega)only[go_sem,id]
 ·simp(disch:=omega)only[go_sem,id]
 have g0 : ∀ h:0<bk.length,bk[0]?=some (bk.getD 0 []):=fun h=>jPm h
 cases o0:onB bk 0<;>cases o1:onB bk 1<;>rw[o0] at c0<;>rw[o1] at c1
 ·refine qT 3 ?_;simp(disch:=omega)only[go_sem,qJ,h1,c0,c1];all_goals repeat refine And.intro rfl ?_
  all_goals rfl
 ·have z1:=l1 o1;refine qT 3 ?_;simp(disch:=omega)only[go_sem,qJ,h1,c0,c1,h2,m0,m1];all_goals repeat refine And.intro rfl ?_
  all_goals rfl
 ·have z0:=l0 o0;refine qT 3 ?_;simp(disch:=omega)only[go_sem,qJ,h1,c0,c1,h2,m0,m1];all_goals repeat refine And.intro rfl ?_
  all_goals rfl
 ·have z0:=l0 o0;have z1:=l1 o1;refine qT 3 ?_;simp(disch:=omega)only[go_sem,qJ,h1,c0,c1,h2,m0,m1];all_goals repeat refine And.intro rfl ?_
  all_goals rfl
def xD:Ct where
 α:=Int
 aS s:=[.t (.int .i64 s)]
 ins _:=[]
 pre _:=True
 r s:=twR (qCr s) 0
 outs s:=twO (qCr s)
 inj:=by
  rintro a b h _;simp only[List.cons.injEq,V.t.injEq,T.int.injEq,true_and,and_true] at h;subst h;exact⟨rfl,rfl⟩
def zK0:Ct where
 α:=List zE×Int×Int×Int×List UInt8
 aS x:=[.t (yL x.1 x.2.1),.t (.int .i64 x.2.2.1),.t (.int .i64 x.2.2.2.1),.t (.sl (x.2.2.2.2.map qA))]
 ins _:=[]
 pre x:=RV x.1∧(0≤x.2.1∧x.2.1<1000000000)∧x.2.2.2.2.length<1000000000
 r x:=evR x.1 x.2.1 x.2.2.1 x.2.2.2.1 x.2.2.2.2
 outs _:=[]
 inj:=by
  rintro⟨a,u,l,i,d⟩ ⟨b,v,l',i',d'⟩ h _;simp only[List.cons.injEq,V.t.injEq,T.int.injEq,T.sl.injEq,true_and,and_true,yC] at h;obtain⟨h1,rfl,rfl,rfl⟩:=h;obtain⟨rfl,rfl⟩:=qCt h1;exact⟨rfl,rfl⟩
def qWw:Ct where
 α:=List zE×Int×Int×Int
 aS x:=[.t (yL x.1 x.2.1),.t (.int .i64 x.2.2.1),.t (.int .i64 x.2.2.2)]
 ins _:=[]
 pre x:=RM x.1
 r x:=jA8 x.1 x.2.2.1 x.2.2.2
 outs x:=jA7 x.1 x.2.2.1 x.2.2.2
 inj:=by
  rintro⟨a,u,l,i⟩ ⟨b,v,l',i'⟩ h _;simp only[List.cons.injEq,V.t.injEq,T.int.injEq,true_and,and_true] at h;obtain⟨h1,rfl,rfl⟩:=h;obtain⟨rfl,rfl⟩:=qCt h1;exact⟨rfl,rfl⟩
def qS3:Ct where
 α:=List zE×Int
 aS x:=[.t (yL x.1 x.2),.t (yL x.1 x.2)]
 ins _:=[]
 pre x:=RM x.1
 r _:= .t (.bool true)
 outs _:=[]
 inj:=by rintro a b h _;exact⟨rfl,rfl⟩
theorem qOb (h1:LkC tab 178 qG5)(h2:LkC tab 179 qP1)(x:(xO 5 qCm).α)(hx:(xO 5 qCm).pre x) :
  vV.1.wp tab gl (qD 0 ((xO 5 qCm).aS x)) (qD 0 ((xO 5 qCm).ins x)) (qY [] ((xO 5 qCm).ins x).length (fun r o=>r=(xO 5 qCm).r x∧o=(xO 5 qCm).outs x)):=by
 obtain⟨hs,bs⟩:=x;obtain⟨hb,hh⟩:=hx
 match hs,hh with
 | [x0,x1,x2,x3,x4],_=>exact qPq tab gl h1 h2 bs x0 x1 x2 x3 x4 hb
theorem qQr (x:jI.α)(hx:jI.pre x) :
  yQ.1.wp tab gl (qD 0 (jI.aS x)) (qD 0 (jI.ins x)) (xU [] [(2,some (2,true))] (jI.ins x).length (fun r o=>r=jI.r x∧o=jI.outs x)):=by
 obtain⟨bk,u⟩:=x;obtain⟨hk,hm⟩:=hx;have hk':RK bk:=hk;clear hk;cases hk' with
 | nil=>exact qQp tab gl u
 | two b0 b1 h0 h1=>exact qQq tab gl b0 b1 u (hm b0 (.head _)) (hm b1 (.tail _ (.head _)))
theorem qRx (h1:LkC tab 76 xQ)(h2:LkC tab 75 vS)(x:xD.α) :
  jM.1.wp tab gl (qD 0 (xD.aS x)) (qD 0 (xD.ins x)) (xU [] [(2,some (2,true))] (xD.ins x).length (fun r o=>r=xD.r x∧o=xD.outs x)):=by
 have x':Int:=x;by_cases h:(show Int from x)%4=0
 ·have:=qRv tab gl x h;show jM.1.wp tab gl (qD 0 [.t (.int .i64 x)]) (qD 0 []) (xU [] [(2,some (2,true))] 0 (fun r o=>r=twR (qCr x) 0∧o=twO (qCr x)));have e:qCr x=[]:=if_pos h;rw[e];exact this
 ·exact qUu tab gl h1 h2 x h
theorem zGc (h1:LkC tab 78 qDn)(x:xD.α) :
  vZ.1.wp tab gl (qD 0 (xD.aS x)) (qD 0 (xD.ins x)) (xU [] [(2,some (2,true))] (xD.ins x).length (fun r o=>r=xD.r x∧o=xD.outs x)):=by
 by_cases h:(show Int from x)%4=0
 ·have:=zF7 tab gl x h;show vZ.1.wp tab gl (qD 0 [.t (.int .i64 x)]) (qD 0 []) (xU [] [(2,some (2,true))] 0 (fun r o=>r=twR (qCr x) 0∧o=twO (qCr x)));have e:qCr x=[]:=if_pos h;rw[e];exact this
 ·exact zJ1 tab gl h1 x h
theorem zDh (x:vS.α)(hx:vS.pre x) :
  qEb.1.wp tab gl (qD 0 (vS.aS x)) (qD 0 (vS.ins x)) (xU [] [(4,none)] (vS.ins x).length (fun r o=>r=vS.r x∧o=vS.outs x)):=by
 obtain⟨n,x⟩:=x;have hx':n=20∨n=32:=hx;exact zF9 tab gl x n oM
theorem qWl (x:jX.α)(hx:jX.pre x) :
  wL.1.wp tab gl (qD 0 (jX.aS x)) (qD 0 (jX.ins x)) (qY [(4,none)] (jX.ins x).length (fun r o=>r=jX.r x∧o=jX.outs x)):=by
 obtain⟨bk,u,a⟩:=x;obtain⟨hk,ha⟩:=hx;have hk':RK bk:=hk;have ha':a<1000000000:=ha;refine qZx tab gl bk u a ha' ?_ ?_
 ·cases hk'<;>simp
 ·intro b hb;clear hk;cases hk' with
  | nil=>simp at hb
  | two b0 b1 h0 h1=>
   simp only[List.mem_cons,List.not_mem_nil,or_false] at hb;rcases hb with rfl | rfl
   ·rcases h0 with h | h<;>omega
   ·rcases h1 with h | h<;>omega
end Go.Eng
end
