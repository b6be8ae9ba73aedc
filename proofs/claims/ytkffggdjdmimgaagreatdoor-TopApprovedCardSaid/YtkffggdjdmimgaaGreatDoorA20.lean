/- A part of an abstract machine, its walks, their tie. -/
import Derived.Test.YtkffggdjdmimgaaGreatDoorA19
import Derived.Test.YtkffggdjdmimgaaGreatDoorA16
import Derived.Test.YtkffggdjdmimgaaGreatDoorA9
set_option linter.all false
section
set_option maxHeartbeats 64000000
set_option maxRecDepth 20000
namespace Go.Eng
open List
variable (tab:Tab) (gl:Gl)
theorem zBh (h2:LkC tab 90 qFq)(h3:LkC tab 30 vU)(h4:LkC tab 81 xB)(h5:LkC tab 91 jP)(h7:LkC tab 49 qHd)(h6:LkC tab 92 qBa)
  (b0 b1:zB) (u loc:Int) (n:Nat) (d0 d1:List UInt8) (hu:0≤u∧u<1000000000) (hk:RM [b0,b1]) (hv0:(b0.getD n []).length≤64) (hv1:(b1.getD n []).length≤64) (hd:d0.length<9223372036854775808∧d1.length<9223372036854775808) (e1 : ¬(loc<0∨4<loc∨16≤n)) (e2 : ¬ loc<yR n false) :
  jA.1.wp tab gl (qE 0 [.t (zY [b0,b1] u),.t (.int .i64 loc),.t (.int .i64 n),.t (.sl [bsT d0,bsT d1])]) (qE 0 []) (qV [(8,some (2,true)),(9,none)] 0 (fun r o=>r=qHy [b0,b1] u loc n [d0,d1]∧o=[])):=by
 have gg:qWn b0∧qWn b1:=by
  obtain⟨hrk,_⟩:=hk;cases hrk with
  | two _ _ h0 h1=>exact⟨h0,h1⟩
 obtain⟨g0,g1⟩:=gg;have a6 : ¬ yR (n:Int) false=5:=by unfold yR;split<;>(try split)<;>(try split)<;>simp_all
 simp(disch:=omega)only[go_sem,jA,h2,qYk,a6,mcn];refine wI (fs':=[(2,.t (.int .i64 (n:Nat))),(3,.t (.sl [bsT d0,bsT d1])),(4,.ref 4096 0 0),(8,.ref 4112 0 0),(10,.t (.int .i64 0))]) (hs':=[(4112,.live 2 [.agg [.nil,.t (.int .i64 0)]] true true),(4096,.live 2 [.t (zY [b0,b1] u)] true true)]) (qJ.rd id ?_ ?_ rfl) ?_
 ·simp(disch:=omega)only[go_sem,id]
 ·simp(disch:=omega)only[go_sem,id]
 rcases g0 with z0 | z0<;>rcases g1 with z1 | z1
 ·have zz:True:=trivial;by_cases p2:0<d0.length
  ·have zz:True:=trivial;have hE:qBc 0 0 loc n 2 d0.length d1.length=27:=by unfold qBc;rw[if_neg oM,if_neg oM,if_pos oM]
   refine qG 3 ?_;simp(disch:=omega)only[go_sem,qD,h3,jY hk.1,jZ hk.1,h4,qM,qN,h5,qY hk,h7,jK,h6,qR,qP,z0,z1,hE,map_nil,qHy,qBd,getD_cons_zero,getD_cons_succ,length_cons,length_nil];all_goals repeat refine And.intro rfl ?_
   all_goals rfl
  ·have zz:True:=trivial;by_cases p1:0<d1.length
   ·have zz:True:=trivial;have hE:qBc 0 0 loc n 2 d0.length d1.length=27:=by unfold qBc;rw[if_neg oM,if_neg oM,if_pos oM]
    refine qG 3 ?_;simp(disch:=omega)only[go_sem,qD,h3,jY hk.1,jZ hk.1,h4,qM,qN,h5,qY hk,h7,jK,h6,qR,qP,z0,z1,hE,map_nil,qHy,qBd,getD_cons_zero,getD_cons_succ,length_cons,length_nil];all_goals repeat refine And.intro rfl ?_
    all_goals rfl
   ·have zz:True:=trivial;refine qG 3 ?_;simp(disch:=omega)only[go_sem,qD,h3,jY hk.1,jZ hk.1,h4,qM,qN,h5,qY hk,h7,jK,h6,qR,qP,z0,z1];all_goals repeat refine And.intro rfl ?_
    refine wI (fs':=[(2,.t (.int .i64 (n:Nat))),(3,.t (.sl [bsT d0,bsT d1])),(4,.ref 4096 0 0),(8,.ref 4112 0 0),(11,.t (.int .i64 0))]) (hs':=[(4112,.live 2 [.agg [.nil,.t (.int .i64 0)]] true true),(4096,.live 2 [.t (zY [b0,b1] u)] true true)]) (qJ.rd id ?_ ?_ rfl) ?_
    ·simp(disch:=omega)only[go_sem,id]
    ·simp(disch:=omega)only[go_sem,id]
    have hE:qBc 0 0 loc n 2 d0.length d1.length=0:=by unfold qBc;rw[if_neg oM,if_neg oM,if_neg oM,if_neg oM]
    refine qG 3 ?_;simp(disch:=omega)only[go_sem,qD,h3,jY hk.1,jZ hk.1,h4,qM,qN,h5,qY hk,h7,jK,h6,qR,qP,z0,z1];all_goals repeat refine And.intro rfl ?_
    refine qB 2 (fun k=>match k with | 0=>[(2,.t (.int .i64 (n:Nat))),(3,.t (.sl [bsT d0,bsT d1])),(4,.ref 4096 0 0),(8,.ref 4112 0 0),(12,.ref 65568 0 0),(13,.t (.int .i64 0))] | 1=>[(2,.t (.int .i64 (n:Nat))),(3,.t (.sl [bsT d0,bsT d1])),(4,.ref 4096 0 0),(8,.ref 4112 0 0),(12,.ref 65568 0 0),(13,.t (.int .i64 1))] | _=>[(2,.t (.int .i64 (n:Nat))),(3,.t (.sl [bsT d0,bsT d1])),(4,.ref 4096 0 0),(8,.ref 4112 0 0),(12,.ref 65568 0 0),(13,.t (.int .i64 2))]) (fun k=>match k with | 0=>[(65568,.live 2 [.agg [.sl 65552 0 2,.t (.int .i64 u)]] true true),(65554,.live 1 (((b1).map bsT).map V.t) true false),(65553,.live 1 (((b0).map bsT).map V.t) true false),(65552,.live 1 [.sl 65553 0 0,.sl 65554 0 0] true false),(4112,.live 2 [.agg [.nil,.t (.int .i64 0)]] true true),(4096,.live 2 [.t (zY [b0,b1] u)] true true)] | 1=>[(65568,.live 2 [.agg [.sl 65552 0 2,.t (.int .i64 u)]] true true),(65554,.live 1 (((b1).map bsT).map V.t) true false),(65553,.live 1 (((vX 0 b0 n d0).map bsT).map V.t) true false),(65552,.live 1 [.sl 65553 0 0,.sl 65554 0 0] true false),(4112,.live 2 [.agg [.nil,.t (.int .i64 0)]] true true),(4096,.live 2 [.t (zY [b0,b1] u)] true true)] | _=>[(65568,.live 2 [.agg [.sl 65552 0 2,.t (.int .i64 u)]] true true),(65554,.live 1 (((vX 1 b1 n d1).map bsT).map V.t) true false),(65553,.live 1 (((vX 0 b0 n d0).map bsT).map V.t) true false),(65552,.live 1 [.sl 65553 0 0,.sl 65554 0 0] true false),(4112,.live 2 [.agg [.nil,.t (.int .i64 0)]] true true),(4096,.live 2 [.t (zY [b0,b1] u)] true true)]) ?_ (fun k hk2=>?_)
    ·refine qJ.rd id ?_ ?_ rfl;all_goals simp(disch:=omega)only[go_sem,id,z0,z1]
    ·rcases (show k=0∨k=1∨k=2 by omega) with rfl | rfl | rfl
     ·have q:=take_of_length_le (show (b0.getD n []++d0).length≤(List.getD b0 n []).length+d0.length by rw[length_append];exact Nat.le_refl _);simp(disch:=omega)only[go_sem,h3,jY hk.1,jZ hk.1,h4,qM,qN,h5,qY hk,h7,jK,h6,qR,qP,z0,z1,qK,q];refine qJ.rd id ?_ ?_ rfl;all_goals simp(disch:=omega)only[go_sem,id,vX,z0,z1]
     ·have q:=take_of_length_le (show (b1.getD n []++d1).length≤(List.getD b1 n []).length+d1.length by rw[length_append];exact Nat.le_refl _);simp(disch:=omega)only[go_sem,h3,jY hk.1,jZ hk.1,h4,qM,qN,h5,qY hk,h7,jK,h6,qR,qP,z0,z1,qK,q];refine qJ.rd id ?_ ?_ rfl;all_goals simp(disch:=omega)only[go_sem,id,vX,z0,z1]
     ·have t0:List.take 0 (vX 0 b0 n d0)=vX 0 b0 n d0:=take_of_length_le (by rw[qK,z0];exact Nat.le_refl _);have t1:List.take 0 (vX 1 b1 n d1)=vX 1 b1 n d1:=take_of_length_le (by rw[qK,z1];exact Nat.le_refl _);have y0:vX 0 b0 n d0=[]:=eq_nil_of_length_eq_zero (by rw[qK,z0]);have y1:vX 1 b1 n d1=[]:=eq_nil_of_length_eq_zero (by rw[qK,z1]);simp(disch:=omega)only[go_sem,qK,t0,t1,z0,z1,hE,qKd,Int.toNat_natCast,mcn,y0,y1,qHy,qBd,getD_cons_zero,getD_cons_succ,length_cons,length_nil]
 ·have zz:True:=trivial;by_cases p1:0<d0.length
  ·have zz:True:=trivial;have hE:qBc 0 16 loc n 2 d0.length d1.length=27:=by unfold qBc;rw[if_neg oM,if_neg oM,if_pos oM]
   refine qG 3 ?_;simp(disch:=omega)only[go_sem,qD,h3,jY hk.1,jZ hk.1,h4,qM,qN,h5,qY hk,h7,jK,h6,qR,qP,z0,z1,hE,map_nil,qHy,qBd,getD_cons_zero,getD_cons_succ,length_cons,length_nil];all_goals repeat refine And.intro rfl ?_
   all_goals rfl
  ·have zz:True:=trivial;refine qG 3 ?_;simp(disch:=omega)only[go_sem,qD,h3,jY hk.1,jZ hk.1,h4,qM,qN,h5,qY hk,h7,jK,h6,qR,qP,z0,z1];all_goals repeat refine And.intro rfl ?_
   refine wI (fs':=[(2,.t (.int .i64 (n:Nat))),(3,.t (.sl [bsT d0,bsT d1])),(4,.ref 4096 0 0),(8,.ref 4112 0 0),(11,.t (.int .i64 0))]) (hs':=[(4112,.live 2 [.agg [.nil,.t (.int .i64 0)]] true true),(4096,.live 2 [.t (zY [b0,b1] u)] true true)]) (qJ.rd id ?_ ?_ rfl) ?_
   ·simp(disch:=omega)only[go_sem,id]
   ·simp(disch:=omega)only[go_sem,id]
   by_cases q1:d1.length≠32
   ·have zz:True:=trivial;have hE:qBc 0 16 loc n 2 d0.length d1.length=24:=by unfold qBc;rw[if_neg oM,if_neg oM,if_neg oM,if_pos oM]
    refine qG 3 ?_;simp(disch:=omega)only[go_sem,qD,h3,jY hk.1,jZ hk.1,h4,qM,qN,h5,qY hk,h7,jK,h6,qR,qP,z0,z1,hE,map_nil,qHy,qBd,getD_cons_zero,getD_cons_succ,length_cons,length_nil];all_goals repeat refine And.intro rfl ?_
    all_goals rfl
   ·have zz:True:=trivial;have hE:qBc 0 16 loc n 2 d0.length d1.length=0:=by unfold qBc;rw[if_neg oM,if_neg oM,if_neg oM,if_neg oM]
    refine qG 3 ?_;simp(disch:=omega)only[go_sem,qD,h3,jY hk.1,jZ hk.1,h4,qM,qN,h5,qY hk,h7,jK,h6,qR,qP,z0,z1];all_goals repeat refine And.intro rfl ?_
    refine qB 2 (fun k=>match k with | 0=>[(2,.t (.int .i64 (n:Nat))),(3,.t (.sl [bsT d0,bsT d1])),(4,.ref 4096 0 0),(8,.ref 4112 0 0),(12,.ref 65568 0 0),(13,.t (.int .i64 0))] | 1=>[(2,.t (.int .i64 (n:Nat))),(3,.t (.sl [bsT d0,bsT d1])),(4,.ref 4096 0 0),(8,.ref 4112 0 0),(12,.ref 65568 0 0),(13,.t (.int .i64 1))] | _=>[(2,.t (.int .i64 (n:Nat))),(3,.t (.sl [bsT d0,bsT d1])),(4,.ref 4096 0 0),(8,.ref 4112 0 0),(12,.ref 65568 0 0),(13,.t (.int .i64 2))]) (fun k=>match k with | 0=>[(65568,.live 2 [.agg [.sl 65552 0 2,.t (.int .i64 u)]] true true),(65554,.live 1 (((b1).map bsT).map V.t) true false),(65553,.live 1 (((b0).map bsT).map V.t) true false),(65552,.live 1 [.sl 65553 0 0,.sl 65554 0 16] true false),(4112,.live 2 [.agg [.nil,.t (.int .i64 0)]] true true),(4096,.live 2 [.t (zY [b0,b1] u)] true true)] | 1=>[(65568,.live 2 [.agg [.sl 65552 0 2,.t (.int .i64 u)]] true true),(65554,.live 1 (((b1).map bsT).map V.t) true false),(65553,.live 1 (((vX 0 b0 n d0).map bsT).map V.t) true false),(65552,.live 1 [.sl 65553 0 0,.sl 65554 0 16] true false),(4112,.live 2 [.agg [.nil,.t (.int .i64 0)]] true true),(4096,.live 2 [.t (zY [b0,b1] u)] true true)] | _=>[(65568,.live 2 [.agg [.sl 65552 0 2,.t (.int .i64 u)]] true true),(65554,.live 1 (((vX 1 b1 n d1).map bsT).map V.t) true false),(65553,.live 1 (((vX 0 b0 n d0).map bsT).map V.t) true false),(65552,.live 1 [.sl 65553 0 0,.sl 65554 0 16] true false),(4112,.live 2 [.agg [.nil,.t (.int .i64 0)]] true true),(4096,.live 2 [.t (zY [b0,b1] u)] true true)]) ?_ (fun k hk2=>?_)
    ·refine qJ.rd id ?_ ?_ rfl;all_goals simp(disch:=omega)only[go_sem,id,z0,z1]
    ·rcases (show k=0∨k=1∨k=2 by omega) with rfl | rfl | rfl
     ·have q:=take_of_length_le (show (b0.getD n []++d0).length≤(List.getD b0 n []).length+d0.length by rw[length_append];exact Nat.le_refl _);simp(disch:=omega)only[go_sem,h3,jY hk.1,jZ hk.1,h4,qM,qN,h5,qY hk,h7,jK,h6,qR,qP,z0,z1,qK,q];refine qJ.rd id ?_ ?_ rfl;all_goals simp(disch:=omega)only[go_sem,id,vX,z0,z1]
     ·have q:=take_of_length_le (show (b1.getD n []++d1).length≤(List.getD b1 n []).length+d1.length by rw[length_append];exact Nat.le_refl _);simp(maxSteps:=9^9)(disch:=try exact dS)only[go_sem,h3,jY hk.1,jZ hk.1,h4,qM,qN,h5,qY hk,h7,jK,h6,qR,qP,z0,z1,qK,q];repeat refine And.intro rfl ?_
      refine qJ.cv (hv:=[]) [86352] id ?_ rfl;simp(maxSteps:=9^9)(disch:=try exact dS)only[go_sem,id,vX,z0,z1,vC,jH,zEb,zEc,zP,qH];all_goals rfl
     ·have t0:List.take 0 (vX 0 b0 n d0)=vX 0 b0 n d0:=take_of_length_le (by rw[qK,z0];exact Nat.le_refl _);have t1:List.take 16 (vX 1 b1 n d1)=vX 1 b1 n d1:=take_of_length_le (by rw[qK,z1];exact Nat.le_refl _);have y0:vX 0 b0 n d0=[]:=eq_nil_of_length_eq_zero (by rw[qK,z0]);simp(disch:=omega)only[go_sem,qK,t0,t1,z0,z1,hE,qKd,Int.toNat_natCast,mcn,y0,qHy,qBd,getD_cons_zero,getD_cons_succ,length_cons,length_nil]
 ·have zz:True:=trivial;by_cases p1:0<d1.length
  ·have zz:True:=trivial;have hE:qBc 16 0 loc n 2 d0.length d1.length=27:=by unfold qBc;rw[if_neg oM,if_neg oM,if_pos oM]
   refine qG 3 ?_;simp(disch:=omega)only[go_sem,qD,h3,jY hk.1,jZ hk.1,h4,qM,qN,h5,qY hk,h7,jK,h6,qR,qP,z0,z1,hE,map_nil,qHy,qBd,getD_cons_zero,getD_cons_succ,length_cons,length_nil];all_goals repeat refine And.intro rfl ?_
   all_goals rfl
  ·have zz:True:=trivial;refine qG 3 ?_;simp(disch:=omega)only[go_sem,qD,h3,jY hk.1,jZ hk.1,h4,qM,qN,h5,qY hk,h7,jK,h6,qR,qP,z0,z1];all_goals repeat refine And.intro rfl ?_
   refine wI (fs':=[(2,.t (.int .i64 (n:Nat))),(3,.t (.sl [bsT d0,bsT d1])),(4,.ref 4096 0 0),(8,.ref 4112 0 0),(11,.t (.int .i64 0))]) (hs':=[(4112,.live 2 [.agg [.nil,.t (.int .i64 0)]] true true),(4096,.live 2 [.t (zY [b0,b1] u)] true true)]) (qJ.rd id ?_ ?_ rfl) ?_
   ·simp(disch:=omega)only[go_sem,id]
   ·simp(disch:=omega)only[go_sem,id]
   by_cases q1:d0.length≠20
   ·have zz:True:=trivial;have hE:qBc 16 0 loc n 2 d0.length d1.length=24:=by unfold qBc;rw[if_neg oM,if_neg oM,if_neg oM,if_pos oM]
    refine qG 3 ?_;simp(disch:=omega)only[go_sem,qD,h3,jY hk.1,jZ hk.1,h4,qM,qN,h5,qY hk,h7,jK,h6,qR,qP,z0,z1,hE,map_nil,qHy,qBd,getD_cons_zero,getD_cons_succ,length_cons,length_nil];all_goals repeat refine And.intro rfl ?_
    all_goals rfl
   ·have zz:True:=trivial;have hE:qBc 16 0 loc n 2 d0.length d1.length=0:=by unfold qBc;rw[if_neg oM,if_neg oM,if_neg oM,if_neg oM]
    refine qG 3 ?_;simp(disch:=omega)only[go_sem,qD,h3,jY hk.1,jZ hk.1,h4,qM,qN,h5,qY hk,h7,jK,h6,qR,qP,z0,z1];all_goals repeat refine And.intro rfl ?_
    refine qB 2 (fun k=>match k with | 0=>[(2,.t (.int .i64 (n:Nat))),(3,.t (.sl [bsT d0,bsT d1])),(4,.ref 4096 0 0),(8,.ref 4112 0 0),(12,.ref 65568 0 0),(13,.t (.int .i64 0))] | 1=>[(2,.t (.int .i64 (n:Nat))),(3,.t (.sl [bsT d0,bsT d1])),(4,.ref 4096 0 0),(8,.ref 4112 0 0),(12,.ref 65568 0 0),(13,.t (.int .i64 1))] | _=>[(2,.t (.int .i64 (n:Nat))),(3,.t (.sl [bsT d0,bsT d1])),(4,.ref 4096 0 0),(8,.ref 4112 0 0),(12,.ref 65568 0 0),(13,.t (.int .i64 2))]) (fun k=>match k with | 0=>[(65568,.live 2 [.agg [.sl 65552 0 2,.t (.int .i64 u)]] true true),(65554,.live 1 (((b1).map bsT).map V.t) true false),(65553,.live 1 (((b0).map bsT).map V.t) true false),(65552,.live 1 [.sl 65553 0 16,.sl 65554 0 0] true false),(4112,.live 2 [.agg [.nil,.t (.int .i64 0)]] true true),(4096,.live 2 [.t (zY [b0,b1] u)] true true)] | 1=>[(65568,.live 2 [.agg [.sl 65552 0 2,.t (.int .i64 u)]] true true),(65554,.live 1 (((b1).map bsT).map V.t) true false),(65553,.live 1 (((vX 0 b0 n d0).map bsT).map V.t) true false),(65552,.live 1 [.sl 65553 0 16,.sl 65554 0 0] true false),(4112,.live 2 [.agg [.nil,.t (.int .i64 0)]] true true),(4096,.live 2 [.t (zY [b0,b1] u)] true true)] | _=>[(65568,.live 2 [.agg [.sl 65552 0 2,.t (.int .i64 u)]] true true),(65554,.live 1 (((vX 1 b1 n d1).map bsT).map V.t) true false),(65553,.live 1 (((vX 0 b0 n d0).map bsT).map V.t) true false),(65552,.live 1 [.sl 65553 0 16,.sl 65554 0 0] true false),(4112,.live 2 [.agg [.nil,.t (.int .i64 0)]] true true),(4096,.live 2 [.t (zY [b0,b1] u)] true true)]) ?_ (fun k hk2=>?_)
    ·refine qJ.rd id ?_ ?_ rfl;all_goals simp(disch:=omega)only[go_sem,id,z0,z1]
    ·rcases (show k=0∨k=1∨k=2 by omega) with rfl | rfl | rfl
     ·have q:=take_of_length_le (show (b0.getD n []++d0).length≤(List.getD b0 n []).length+d0.length by rw[length_append];exact Nat.le_refl _);simp(maxSteps:=9^9)(disch:=try exact dS)only[go_sem,h3,jY hk.1,jZ hk.1,h4,qM,qN,h5,qY hk,h7,jK,h6,qR,qP,z0,z1,qK,q];repeat refine And.intro rfl ?_
      refine qJ.cv (hv:=[]) [86352] id ?_ rfl;simp(maxSteps:=9^9)(disch:=try exact dS)only[go_sem,id,vX,z0,z1,vC,jH,zEb,zEc,zP,qH];all_goals rfl
     ·have q:=take_of_length_le (show (b1.getD n []++d1).length≤(List.getD b1 n []).length+d1.length by rw[length_append];exact Nat.le_refl _);simp(disch:=omega)only[go_sem,h3,jY hk.1,jZ hk.1,h4,qM,qN,h5,qY hk,h7,jK,h6,qR,qP,z0,z1,qK,q];refine qJ.rd id ?_ ?_ rfl;all_goals simp(disch:=omega)only[go_sem,id,vX,z0,z1]
     ·have t0:List.take 16 (vX 0 b0 n d0)=vX 0 b0 n d0:=take_of_length_le (by rw[qK,z0];exact Nat.le_refl _);have t1:List.take 0 (vX 1 b1 n d1)=vX 1 b1 n d1:=take_of_length_le (by rw[qK,z1];exact Nat.le_refl _);have y1:vX 1 b1 n d1=[]:=eq_nil_of_length_eq_zero (by rw[qK,z1]);simp(disch:=omega)only[go_sem,qK,t0,t1,z0,z1,hE,qKd,Int.toNat_natCast,mcn,y1,qHy,qBd,getD_cons_zero,getD_cons_succ,length_cons,length_nil]
 ·have zz:True:=trivial;refine qG 3 ?_;simp(disch:=omega)only[go_sem,qD,h3,jY hk.1,jZ hk.1,h4,qM,qN,h5,qY hk,h7,jK,h6,qR,qP,z0,z1];all_goals repeat refine And.intro rfl ?_
  refine wI (fs':=[(2,.t (.int .i64 (n:Nat))),(3,.t (.sl [bsT d0,bsT d1])),(4,.ref 4096 0 0),(8,.ref 4112 0 0),(11,.t (.int .i64 0))]) (hs':=[(4112,.live 2 [.agg [.nil,.t (.int .i64 0)]] true true),(4096,.live 2 [.t (zY [b0,b1] u)] true true)]) (qJ.rd id ?_ ?_ rfl) ?_
  ·simp(disch:=omega)only[go_sem,id]
  ·simp(disch:=omega)only[go_sem,id]
  by_cases q2:d0.length≠20
  ·have zz:True:=trivial;have hE:qBc 16 16 loc n 2 d0.length d1.length=24:=by unfold qBc;rw[if_neg oM,if_neg oM,if_neg oM,if_pos oM]
   refine qG 3 ?_;simp(disch:=omega)only[go_sem,qD,h3,jY hk.1,jZ hk.1,h4,qM,qN,h5,qY hk,h7,jK,h6,qR,qP,z0,z1,hE,map_nil,qHy,qBd,getD_cons_zero,getD_cons_succ,length_cons,length_nil];all_goals repeat refine And.intro rfl ?_
   all_goals rfl
  ·have zz:True:=trivial;by_cases q1:d1.length≠32
   ·have zz:True:=trivial;have hE:qBc 16 16 loc n 2 d0.length d1.length=24:=by unfold qBc;rw[if_neg oM,if_neg oM,if_neg oM,if_pos oM]
    refine qG 3 ?_;simp(disch:=omega)only[go_sem,qD,h3,jY hk.1,jZ hk.1,h4,qM,qN,h5,qY hk,h7,jK,h6,qR,qP,z0,z1,hE,map_nil,qHy,qBd,getD_cons_zero,getD_cons_succ,length_cons,length_nil];all_goals repeat refine And.intro rfl ?_
    all_goals rfl
   ·have zz:True:=trivial;have hE:qBc 16 16 loc n 2 d0.length d1.length=0:=by unfold qBc;rw[if_neg oM,if_neg oM,if_neg oM,if_neg oM]
    refine qG 3 ?_;simp(disch:=omega)only[go_sem,qD,h3,jY hk.1,jZ hk.1,h4,qM,qN,h5,qY hk,h7,jK,h6,qR,qP,z0,z1];all_goals repeat refine And.intro rfl ?_
    refine qB 2 (fun k=>match k with | 0=>[(2,.t (.int .i64 (n:Nat))),(3,.t (.sl [bsT d0,bsT d1])),(4,.ref 4096 0 0),(8,.ref 4112 0 0),(12,.ref 65568 0 0),(13,.t (.int .i64 0))] | 1=>[(2,.t (.int .i64 (n:Nat))),(3,.t (.sl [bsT d0,bsT d1])),(4,.ref 4096 0 0),(8,.ref 4112 0 0),(12,.ref 65568 0 0),(13,.t (.int .i64 1))] | _=>[(2,.t (.int .i64 (n:Nat))),(3,.t (.sl [bsT d0,bsT d1])),(4,.ref 4096 0 0),(8,.ref 4112 0 0),(12,.ref 65568 0 0),(13,.t (.int .i64 2))]) (fun k=>match k with | 0=>[(65568,.live 2 [.agg [.sl 65552 0 2,.t (.int .i64 u)]] true true),(65554,.live 1 (((b1).map bsT).map V.t) true false),(65553,.live 1 (((b0).map bsT).map V.t) true false),(65552,.live 1 [.sl 65553 0 16,.sl 65554 0 16] true false),(4112,.live 2 [.agg [.nil,.t (.int .i64 0)]] true true),(4096,.live 2 [.t (zY [b0,b1] u)] true true)] | 1=>[(65568,.live 2 [.agg [.sl 65552 0 2,.t (.int .i64 u)]] true true),(65554,.live 1 (((b1).map bsT).map V.t) true false),(65553,.live 1 (((vX 0 b0 n d0).map bsT).map V.t) true false),(65552,.live 1 [.sl 65553 0 16,.sl 65554 0 16] true false),(4112,.live 2 [.agg [.nil,.t (.int .i64 0)]] true true),(4096,.live 2 [.t (zY [b0,b1] u)] true true)] | _=>[(65568,.live 2 [.agg [.sl 65552 0 2,.t (.int .i64 u)]] true true),(65554,.live 1 (((vX 1 b1 n d1).map bsT).map V.t) true false),(65553,.live 1 (((vX 0 b0 n d0).map bsT).map V.t) true false),(65552,.live 1 [.sl 65553 0 16,.sl 65554 0 16] true false),(4112,.live 2 [.agg [.nil,.t (.int .i64 0)]] true true),(4096,.live 2 [.t (zY [b0,b1] u)] true true)]) ?_ (fun k hk2=>?_)
    ·refine qJ.rd id ?_ ?_ rfl;all_goals simp(disch:=omega)only[go_sem,id,z0,z1]
    ·rcases (show k=0∨k=1∨k=2 by omega) with rfl | rfl | rfl
     ·have q:=take_of_length_le (show (b0.getD n []++d0).length≤(List.getD b0 n []).length+d0.length by rw[length_append];exact Nat.le_refl _);simp(maxSteps:=9^9)(disch:=try exact dS)only[go_sem,h3,jY hk.1,jZ hk.1,h4,qM,qN,h5,qY hk,h7,jK,h6,qR,qP,z0,z1,qK,q];repeat refine And.intro rfl ?_
      refine qJ.cv (hv:=[]) [86352] id ?_ rfl;simp(maxSteps:=9^9)(disch:=try exact dS)only[go_sem,id,vX,z0,z1,vC,jH,zEb,zEc,zP,qH];all_goals rfl
     ·have q:=take_of_length_le (show (b1.getD n []++d1).length≤(List.getD b1 n []).length+d1.length by rw[length_append];exact Nat.le_refl _);simp(maxSteps:=9^9)(disch:=try exact dS)only[go_sem,h3,jY hk.1,jZ hk.1,h4,qM,qN,h5,qY hk,h7,jK,h6,qR,qP,z0,z1,qK,q];repeat refine And.intro rfl ?_
      refine qJ.cv (hv:=[]) [86352] id ?_ rfl;simp(maxSteps:=9^9)(disch:=try exact dS)only[go_sem,id,vX,z0,z1,vC,jH,zEb,zEc,zP,qH];all_goals rfl
     ·have t0:List.take 16 (vX 0 b0 n d0)=vX 0 b0 n d0:=take_of_length_le (by rw[qK,z0];exact Nat.le_refl _);have t1:List.take 16 (vX 1 b1 n d1)=vX 1 b1 n d1:=take_of_length_le (by rw[qK,z1];exact Nat.le_refl _);simp(disch:=omega)only[go_sem,qK,t0,t1,z0,z1,hE,qKd,Int.toNat_natCast,mcn,qHy,qBd,getD_cons_zero,getD_cons_succ,length_cons,length_nil]
theorem qKg (h1:LkC tab 265 kB)(h2:LkC tab 267 qB2)(bk:List zB)(u loc i:Int)(ds:List (List UInt8))(hd:ds.length<1000000000)
  (hb:(loc<0∨4<loc∨i<0∨16≤i∨ds.length≠2)∨loc<yR i false) :
  zD.1.wp tab gl (qE 0 [.t (zY bk u),.t (.int .i64 loc),.t (.int .i64 i),.t (.sl (ds.map bsT))]) (qE 0 []) (qV [(8,some (2,true)),(9,none)] 0 (fun r o=>r = .tup [.t (zY [] 0),.t (.int .i64 (if loc<0∨4<loc∨i<0∨16≤i∨ds.length≠2 then 1 else 13))]∧o=[])):=by
 by_cases a1:loc<0
 ·simp(disch:=omega)only[go_sem,zD,a1,map_nil]
 ·by_cases a2:4<loc
  ·simp(disch:=omega)only[go_sem,zD,a1,a2,map_nil]
  ·by_cases a3:i<0
   ·simp(disch:=omega)only[go_sem,zD,a1,a2,a3,h1,qX5,map_nil]
   ·by_cases a4:16≤i
    ·simp(disch:=omega)only[go_sem,zD,a1,a2,a3,a4,h1,qX5,map_nil]
    ·by_cases a5:ds.length=2
     ·have a6:loc<yR i false:=by rcases hb with h | h;(omega);(exact h)
      simp(disch:=omega)only[go_sem,zD,a1,a2,a3,a4,a5,a6,h1,qJr,h2,qNa,map_nil,ne_eq]
     ·simp(disch:=omega)only[go_sem,zD,a1,a2,a3,a4,a5,h1,qJr,map_nil,ne_eq]
theorem qUp (h2:LkC tab 90 qFq)(bk:List zB)(u loc i:Int)(ds:List (List UInt8))(hd:ds.length<1000000000)
  (hb:(loc<0∨4<loc∨i<0∨16≤i∨ds.length≠2)∨loc<yR i false) :
  jA.1.wp tab gl (qE 0 [.t (zY bk u),.t (.int .i64 loc),.t (.int .i64 i),.t (.sl (ds.map bsT))]) (qE 0 []) (qV [(8,some (2,true)),(9,none)] 0 (fun r o=>r = .tup [.t (zY [] 0),.t (.int .i64 (if loc<0∨4<loc∨i<0∨16≤i∨ds.length≠2 then 1 else 13))]∧o=[])):=by
 have a7 : ¬ yR i false=5:=by unfold yR;split<;>(try split)<;>(try split)<;>simp_all
 by_cases a1:loc<0
 ·simp(disch:=omega)only[go_sem,jA,a1,map_nil]
 ·by_cases a2:4<loc
  ·simp(disch:=omega)only[go_sem,jA,a1,a2,map_nil]
  ·by_cases a3:i<0
   ·simp(disch:=omega)only[go_sem,jA,a1,a2,a3,map_nil]
   ·by_cases a4:16≤i
    ·simp(disch:=omega)only[go_sem,jA,a1,a2,a3,a4,map_nil]
    ·by_cases a5:ds.length=2
     ·have a6:loc<yR i false:=by rcases hb with h | h;(omega);(exact h)
      simp(disch:=omega)only[go_sem,jA,a1,a2,a3,a4,a5,a6,a7,h2,qYk,map_nil,ne_eq]
     ·simp(disch:=omega)only[go_sem,jA,a1,a2,a3,a4,a5,map_nil,ne_eq]
theorem zMb {u:Int}{a:Nat}(ha:a<2):vU.fs [.t (.agg [.sl [],.int .i64 u]),.t (.int .i64 a)] []=some (.t (.bool false),[]):=(qXc (bk:=[]) .nil oM).trans (by simp[onB])
theorem qQ6 (h1:LkC tab 265 kB)(h2:LkC tab 267 qB2)(h3:LkC tab 266 qKc)(h5:LkC tab 264 jP)
  (u loc:Int) (n:Nat) (d0 d1:List UInt8) (hu:0≤u∧u<1000000000) (hd:d0.length<9223372036854775808∧d1.length<9223372036854775808) (e1 : ¬(loc<0∨4<loc∨16≤n)) (e2 : ¬ loc<yR n false) :
  zD.1.wp tab gl (qE 0 [.t (zY [] u),.t (.int .i64 loc),.t (.int .i64 n),.t (.sl [bsT d0,bsT d1])]) (qE 0 []) (qV [(8,some (2,true)),(9,none)] 0 (fun r o=>r=qHy [] u loc n [d0,d1]∧o=[])):=by
 have c0:=jEb (u:=u) (a:=0) oM;have c1:=jEb (u:=u) (a:=1) oM;rw[show ((0:Nat):Int)=0 from rfl] at c0;rw[show ((1:Nat):Int)=1 from rfl] at c1;simp(disch:=omega)only[go_sem,zD,h1,qJr,h2,qNa,mcn];refine wI (fs':=[(2,.t (.int .i64 (n:Nat))),(3,.t (.sl [bsT d0,bsT d1])),(4,.ref 4096 0 0),(8,.ref 4112 0 0),(38,.t (.sl [bsT d0,bsT d1])),(39,.t (.int .i64 2)),(40,.t (.int .i64 0))]) (hs':=[(4112,.live 2 [.agg [.nil,.t (.int .i64 0)]] true true),(4096,.live 2 [.t (zY [] u)] true true)]) (qJ.rd id ?_ ?_ rfl) ?_
 ·simp(disch:=omega)only[go_sem,id]
 ·simp(disch:=omega)only[go_sem,id,map_nil]
 by_cases p:0<d0.length∨0<d1.length
 ·have hE:qBc 0 0 loc n 2 d0.length d1.length=27:=by unfold qBc;rw[if_neg oM,if_neg oM,if_pos oM]
  by_cases p0:0<d0.length
  ·refine qG 3 ?_;simp(disch:=omega)only[go_sem,qD,h3,c0,c1,hE,map_nil,qHy,qBd,getD_nil,getD_cons_zero,getD_cons_succ,length_cons,length_nil]
  ·refine qG 3 ?_;simp(disch:=omega)only[go_sem,qD,h3,c0,c1,hE,map_nil,qHy,qBd,getD_nil,getD_cons_zero,getD_cons_succ,length_cons,length_nil]
 ·have hE:qBc 0 0 loc n 2 d0.length d1.length=0:=by unfold qBc;rw[if_neg oM,if_neg oM,if_neg oM,if_neg oM]
  refine qG 3 ?_;simp(disch:=omega)only[go_sem,qD,h3,c0,c1,map_nil];refine qG 3 ?_;simp(disch:=omega)only[go_sem,qD,h3,c0,c1,h5,qW4,map_nil];refine qG 1 ?_;simp(disch:=omega)only[go_sem,qD,hE,map_nil,qHy,qBd,qKd,getD_nil,getD_cons_zero,getD_cons_succ,length_cons,length_nil]
theorem zBg (h2:LkC tab 90 qFq)(h3:LkC tab 30 vU)(h5:LkC tab 91 jP)
  (u loc:Int) (n:Nat) (d0 d1:List UInt8) (hu:0≤u∧u<1000000000) (hd:d0.length<9223372036854775808∧d1.length<9223372036854775808) (e1 : ¬(loc<0∨4<loc∨16≤n)) (e2 : ¬ loc<yR n false) :
  jA.1.wp tab gl (qE 0 [.t (zY [] u),.t (.int .i64 loc),.t (.int .i64 n),.t (.sl [bsT d0,bsT d1])]) (qE 0 []) (qV [(8,some (2,true)),(9,none)] 0 (fun r o=>r=qHy [] u loc n [d0,d1]∧o=[])):=by
 have a6 : ¬ yR (n:Int) false=5:=by unfold yR;split<;>(try split)<;>(try split)<;>simp_all
 have c0:=zMb (u:=u) (a:=0) oM;have c1:=zMb (u:=u) (a:=1) oM;rw[show ((0:Nat):Int)=0 from rfl] at c0;rw[show ((1:Nat):Int)=1 from rfl] at c1;simp(disch:=omega)only[go_sem,jA,h2,qYk,a6,mcn];refine wI (fs':=[(2,.t (.int .i64 (n:Nat))),(3,.t (.sl [bsT d0,bsT d1])),(4,.ref 4096 0 0),(8,.ref 4112 0 0),(10,.t (.int .i64 0))]) (hs':=[(4112,.live 2 [.agg [.nil,.t (.int .i64 0)]] true true),(4096,.live 2 [.t (zY [] u)] true true)]) (qJ.rd id ?_ ?_ rfl) ?_
 ·simp(disch:=omega)only[go_sem,id]
 ·simp(disch:=omega)only[go_sem,id,map_nil]
 by_cases p:0<d0.length∨0<d1.length
 ·have hE:qBc 0 0 loc n 2 d0.length d1.length=27:=by unfold qBc;rw[if_neg oM,if_neg oM,if_pos oM]
  by_cases p0:0<d0.length
  ·refine qG 3 ?_;simp(disch:=omega)only[go_sem,qD,h3,c0,c1,hE,map_nil,qHy,qBd,getD_nil,getD_cons_zero,getD_cons_succ,length_cons,length_nil];all_goals repeat refine And.intro rfl ?_
   all_goals rfl
  ·refine qG 3 ?_;simp(disch:=omega)only[go_sem,qD,h3,c0,c1,hE,map_nil,qHy,qBd,getD_nil,getD_cons_zero,getD_cons_succ,length_cons,length_nil];all_goals repeat refine And.intro rfl ?_
   all_goals rfl
 ·have hE:qBc 0 0 loc n 2 d0.length d1.length=0:=by unfold qBc;rw[if_neg oM,if_neg oM,if_neg oM,if_neg oM]
  refine qG 3 ?_;simp(disch:=omega)only[go_sem,qD,h3,c0,c1,map_nil];all_goals repeat refine And.intro rfl ?_
  refine qG 3 ?_;simp(disch:=omega)only[go_sem,qD,h3,c0,c1,h5,qW4,map_nil];all_goals repeat refine And.intro rfl ?_
  refine qG 3 ?_;simp(disch:=omega)only[go_sem,qD,h3,c0,c1,hE,map_nil,qHy,qBd,qKd,getD_nil,getD_cons_zero,getD_cons_succ,length_cons,length_nil]
def RV (bk:List zB):Prop:=RK bk ∧ ∀ b∈bk,∀ x∈b,x.length≤64
theorem RV.rm {bk:List zB}(h:RV bk):RM bk:=by
 refine⟨h.1,fun b hb=>⟨?_,fun x hx=>Nat.lt_of_le_of_lt (h.2 b hb x hx) oM⟩⟩;have:qWn b:=by
  obtain⟨hk,_⟩:=h;cases hk with
  | nil=>simp at hb
  | two b0 b1 h0 h1=>
   simp only[mem_cons,not_mem_nil,or_false] at hb;rcases hb with rfl | rfl
   ·exact h0
   ·exact h1
 rcases this with h | h<;>omega
theorem qJq {b:zB}{m n:Nat}(h : ∀ x∈b,x.length≤m):(b.getD n []).length≤m:=by
 by_cases hi:n<List.length b
 ·have:b.getD n []=b[n]:=by simp[List.getD,hi]
  rw[this];exact h _ (getElem_mem hi)
 ·simp[List.getD,getElem?_eq_none (Nat.le_of_not_lt hi)]
abbrev jKs:=List zB×Int×Int×Int×List (List UInt8)
def jDo (x:jKs):Prop:=RV x.1∧(0≤x.2.1∧x.2.1<1000000000)∧x.2.2.2.2.length<1000000000 ∧ ∀ d∈x.2.2.2.2,d.length<9223372036854775808
def xV:Ct where
 α:=jKs
 aS x:=[.t (zY x.1 x.2.1),.t (.int .i64 x.2.2.1),.t (.int .i64 x.2.2.2.1),.t (.sl (x.2.2.2.2.map bsT))]
 ins _:=[]
 pre:=jDo
 r x:=qHy x.1 x.2.1 x.2.2.1 x.2.2.2.1 x.2.2.2.2
 outs _:=[]
 inj:=by
  rintro⟨a,u,l,i,ds⟩ ⟨b,v,l',i',ds'⟩ h _;simp only[List.cons.injEq,V.t.injEq,T.int.injEq,T.sl.injEq,true_and,and_true,qDg] at h;obtain⟨h1,rfl,rfl,rfl⟩:=h;obtain⟨rfl,rfl⟩:=qA0 h1;exact⟨rfl,rfl⟩
theorem zNe {bk:List zB}{u loc i:Int}{ds:List (List UInt8)}(hb:(loc<0∨4<loc∨i<0∨16≤i∨ds.length≠2)∨loc<yR i false) :
  qHy bk u loc i ds = .tup [.t (zY [] 0),.t (.int .i64 (if loc<0∨4<loc∨i<0∨16≤i∨ds.length≠2 then 1 else 13))]:=by
 have he:qBc (bk.getD 0 []).length (bk.getD 1 []).length loc i ds.length (ds.getD 0 []).length (ds.getD 1 []).length=if loc<0∨4<loc∨i<0∨16≤i∨ds.length≠2 then 1 else 13:=by
  unfold qBc;by_cases h:loc<0∨4<loc∨i<0∨16≤i∨ds.length≠2
  ·rw[if_pos h,if_pos h]
  ·have h2:loc<yR i false:=by rcases hb with h' | h';exact absurd h' h;exact h'
   rw[if_neg h,if_neg h,if_pos h2]
 unfold qHy;rw[he];split
 ·split at *<;>simp_all
 ·rfl
theorem qS2 (h1:LkC tab 265 kB)(h2:LkC tab 267 qB2)(h3:LkC tab 266 qKc)(h4:LkC tab 198 xB)(h5:LkC tab 264 jP)(h6:LkC tab 153 qBa)(x:xV.α)(hx:xV.pre x) :
  zD.1.wp tab gl (qE 0 (xV.aS x)) (qE 0 (xV.ins x)) (qV [(8,some (2,true)),(9,none)] (xV.ins x).length (fun r o=>r=xV.r x∧o=xV.outs x)):=by
 obtain⟨bk,u,loc,i,ds⟩:=x;obtain⟨hv,hu,hd,hd2⟩:=hx;simp only[xV] at *;by_cases hb:(loc<0∨4<loc∨i<0∨16≤i∨ds.length≠2)∨loc<yR i false
 ·rw[zNe hb];exact qKg tab gl h1 h2 bk u loc i ds hd hb
 ·obtain⟨n,rfl⟩:=Int.eq_ofNat_of_zero_le (show 0≤i by omega)
  match ds,hd2,hb with
  | [d0,d1],hd2,hb=>
   have m0:=hd2 d0 sM;have m1:=hd2 d1 sM;have e1 : ¬(loc<0∨4<loc∨16≤n):=oM;have e2 : ¬ loc<yR n false:=oM;have hm:=hv.rm;obtain⟨hk,hl⟩:=hv;cases hk with
   | nil=>exact qQ6 tab gl h1 h2 h3 h5 u loc n d0 d1 hu ⟨m0,m1⟩ e1 e2
   | two b0 b1 g0 g1=>exact qQ7 tab gl h1 h2 h3 h4 h5 h6 b0 b1 u loc n d0 d1 hu hm (qJq (hl b0 sM)) (qJq (hl b1 sM)) ⟨m0,m1⟩ e1 e2
  | [],_,hb=>simp at hb
  | [_],_,hb=>simp at hb
  | _::_::_::_,_,hb=>simp at hb
theorem zFj (h2:LkC tab 90 qFq)(h3:LkC tab 30 vU)(h4:LkC tab 81 xB)(h5:LkC tab 91 jP)(h7:LkC tab 49 qHd)(h6:LkC tab 92 qBa)(x:xV.α)(hx:xV.pre x) :
  jA.1.wp tab gl (qE 0 (xV.aS x)) (qE 0 (xV.ins x)) (qV [(8,some (2,true)),(9,none)] (xV.ins x).length (fun r o=>r=xV.r x∧o=xV.outs x)):=by
 obtain⟨bk,u,loc,i,ds⟩:=x;obtain⟨hv,hu,hd,hd2⟩:=hx;simp only[xV] at *;by_cases hb:(loc<0∨4<loc∨i<0∨16≤i∨ds.length≠2)∨loc<yR i false
 ·rw[zNe hb];exact qUp tab gl h2 bk u loc i ds hd hb
 ·obtain⟨n,rfl⟩:=Int.eq_ofNat_of_zero_le (show 0≤i by omega)
  match ds,hd2,hb with
  | [d0,d1],hd2,hb=>
   have m0:=hd2 d0 sM;have m1:=hd2 d1 sM;have e1 : ¬(loc<0∨4<loc∨16≤n):=oM;have e2 : ¬ loc<yR n false:=oM;have hm:=hv.rm;obtain⟨hk,hl⟩:=hv;cases hk with
   | nil=>exact zBg tab gl h2 h3 h5 u loc n d0 d1 hu ⟨m0,m1⟩ e1 e2
   | two b0 b1 g0 g1=>exact zBh tab gl h2 h3 h4 h5 h7 h6 b0 b1 u loc n d0 d1 hu hm (qJq (hl b0 sM)) (qJq (hl b1 sM)) ⟨m0,m1⟩ e1 e2
  | [],_,hb=>simp at hb
  | [_],_,hb=>simp at hb
  | _::_::_::_,_,hb=>simp at hb
def qKh (bk:List zB)(data:List UInt8):List (List UInt8):=[if onB bk 0 then qVh data else [],if onB bk 1 then zT data else []]
def evR (bk:List zB)(u loc i:Int)(data:List UInt8):V:=if 128<data.length then .tup [.t (zY [] 0),.t (.int .i64 4)] else qHy bk u loc i (qKh bk data)
theorem zB1 {bk:List zB}{u loc i:Int}{ds:List (List UInt8)} : ∃ (bk':List zB) (u' e:Int),qHy bk u loc i ds = .tup [.t (.agg [.sl (bk'.map vS),.int .i64 u']),.t (.int .i64 e)]:=by
 unfold qHy;split
 ·exact⟨_,_,_,rfl⟩
 ·exact⟨[],0,_,rfl⟩
theorem jDp {bk:List zB}{u loc i:Int}{ds:List (List UInt8)}(h:jDo (bk,u,loc,i,ds)):xV.fs [.t (.agg [.sl (bk.map vS),.int .i64 u]),.t (.int .i64 loc),.t (.int .i64 i),.t (.sl (ds.map bsT))] []=some (qHy bk u loc i ds,[]):=xV.eq (bk,u,loc,i,ds) h
theorem qWq {bk:List zB}{data:List UInt8}:(qKh bk data).length<1000000000 ∧ ∀ d∈qKh bk data,d.length<9223372036854775808:=by
 refine⟨by simp[qKh],?_⟩;intro d hd;simp only[qKh,mem_cons,not_mem_nil,or_false] at hd;rcases hd with rfl | rfl
 ·split
  ·rw[zP];omega
  ·simp
 ·split
  ·rw[qH];omega
  ·simp
theorem zBf (h1:LkC tab 30 vU)(h2:LkC tab 92 qBa)(bk:List zB)(u:Int)(data:List UInt8)(hk:RK bk)(hd:data.length<1000000000) :
  qFc.1.wp tab gl (qE 0 [.t (zY bk u),.t (.sl (data.map qA))]) (qE 0 []) (qV [(4,none)] 0 (fun r o=>r = .t (.sl ((qKh bk data).map bsT))∧o=[])):=by
 have c0:=qXc (u:=u) (a:=0) hk oM;have c1:=qXc (u:=u) (a:=1) hk oM;rw[show ((0:Nat):Int)=0 from rfl] at c0;rw[show ((1:Nat):Int)=1 from rfl] at c1;simp(disch:=omega)only[go_sem,qFc];cases o0:onB bk 0<;>cases o1:onB bk 1<;>rw[o0] at c0<;>rw[o1] at c1
 ·have hdig:qKh bk data=[[],[]]:=by rw[qKh,o0,o1];rfl
  rw[hdig];refine qB 2 (fun k=>match k with | 0=>[(1,.t (.sl (data.map qA))),(2,.ref 4096 0 0),(5,.sl 8192 0 2),(6,.t (.int .i64 0))] | 1=>[(1,.t (.sl (data.map qA))),(2,.ref 4096 0 0),(5,.sl 8192 0 2),(6,.t (.int .i64 1))] | _=>[(1,.t (.sl (data.map qA))),(2,.ref 4096 0 0),(5,.sl 8192 0 2),(6,.t (.int .i64 2))]) (fun k=>match k with | 0=>[(8192,.live 1 [.t (bsT []),.t (bsT [])] true false),(4096,.live 2 [.t (zY bk u)] true true)] | 1=>[(8192,.live 1 [.t (bsT ([])),.t (bsT [])] true false),(4096,.live 2 [.t (zY bk u)] true true)] | _=>[(8192,.live 1 [.t (bsT ([])),.t (bsT ([]))] true false),(4096,.live 2 [.t (zY bk u)] true true)]) ?_ (fun k hk2=>?_)
  ·refine qJ.rd id ?_ ?_ rfl;all_goals simp(disch:=omega)only[go_sem,id,map_nil]
  ·rcases (show k=0∨k=1∨k=2 by omega) with rfl | rfl | rfl
   ·simp(disch:=omega)only[go_sem,h1,h2,c0,c1,qR,qP,map_nil];refine qJ.rd id ?_ ?_ rfl;all_goals simp(disch:=omega)only[go_sem,id,map_nil]
   ·simp(disch:=omega)only[go_sem,h1,h2,c0,c1,qR,qP,map_nil];refine qJ.rd id ?_ ?_ rfl;all_goals simp(disch:=omega)only[go_sem,id,map_nil]
   ·simp(disch:=omega)only[go_sem,h1,h2,c0,c1,qR,qP,map_nil,mcn]
 ·have hdig:qKh bk data=[[],zT data]:=by rw[qKh,o0,o1];rfl
  rw[hdig];refine qB 2 (fun k=>match k with | 0=>[(1,.t (.sl (data.map qA))),(2,.ref 4096 0 0),(5,.sl 8192 0 2),(6,.t (.int .i64 0))] | 1=>[(1,.t (.sl (data.map qA))),(2,.ref 4096 0 0),(5,.sl 8192 0 2),(6,.t (.int .i64 1))] | _=>[(1,.t (.sl (data.map qA))),(2,.ref 4096 0 0),(5,.sl 8192 0 2),(6,.t (.int .i64 2))]) (fun k=>match k with | 0=>[(8192,.live 1 [.t (bsT []),.t (bsT [])] true false),(4096,.live 2 [.t (zY bk u)] true true)] | 1=>[(8192,.live 1 [.t (bsT ([])),.t (bsT [])] true false),(4096,.live 2 [.t (zY bk u)] true true)] | _=>[(8192,.live 1 [.t (bsT ([])),.t (bsT (zT data))] true false),(4096,.live 2 [.t (zY bk u)] true true)]) ?_ (fun k hk2=>?_)
  ·refine qJ.rd id ?_ ?_ rfl;all_goals simp(disch:=omega)only[go_sem,id,map_nil]
  ·rcases (show k=0∨k=1∨k=2 by omega) with rfl | rfl | rfl
   ·simp(disch:=omega)only[go_sem,h1,h2,c0,c1,qR,qP,map_nil];refine qJ.rd id ?_ ?_ rfl;all_goals simp(disch:=omega)only[go_sem,id,map_nil]
   ·simp(disch:=omega)only[go_sem,h1,h2,c0,c1,qR,qP,map_nil];refine qJ.cv (hv:=[]) [28736] id ?_ rfl;simp(disch:=omega)only[go_sem,id,vC,jH,map_nil,zP,qH];all_goals rfl
   ·simp(disch:=omega)only[go_sem,h1,h2,c0,c1,qR,qP,map_nil,mcn]
 ·have hdig:qKh bk data=[qVh data,[]]:=by rw[qKh,o0,o1];rfl
  rw[hdig];refine qB 2 (fun k=>match k with | 0=>[(1,.t (.sl (data.map qA))),(2,.ref 4096 0 0),(5,.sl 8192 0 2),(6,.t (.int .i64 0))] | 1=>[(1,.t (.sl (data.map qA))),(2,.ref 4096 0 0),(5,.sl 8192 0 2),(6,.t (.int .i64 1))] | _=>[(1,.t (.sl (data.map qA))),(2,.ref 4096 0 0),(5,.sl 8192 0 2),(6,.t (.int .i64 2))]) (fun k=>match k with | 0=>[(8192,.live 1 [.t (bsT []),.t (bsT [])] true false),(4096,.live 2 [.t (zY bk u)] true true)] | 1=>[(8192,.live 1 [.t (bsT (qVh data)),.t (bsT [])] true false),(4096,.live 2 [.t (zY bk u)] true true)] | _=>[(8192,.live 1 [.t (bsT (qVh data)),.t (bsT ([]))] true false),(4096,.live 2 [.t (zY bk u)] true true)]) ?_ (fun k hk2=>?_)
  ·refine qJ.rd id ?_ ?_ rfl;all_goals simp(disch:=omega)only[go_sem,id,map_nil]
  ·rcases (show k=0∨k=1∨k=2 by omega) with rfl | rfl | rfl
   ·simp(disch:=omega)only[go_sem,h1,h2,c0,c1,qR,qP,map_nil];refine qJ.cv (hv:=[]) [28736] id ?_ rfl;simp(disch:=omega)only[go_sem,id,vC,jH,map_nil,zP,qH];all_goals rfl
   ·simp(disch:=omega)only[go_sem,h1,h2,c0,c1,qR,qP,map_nil];refine qJ.rd id ?_ ?_ rfl;all_goals simp(disch:=omega)only[go_sem,id,map_nil]
   ·simp(disch:=omega)only[go_sem,h1,h2,c0,c1,qR,qP,map_nil,mcn]
 ·have hdig:qKh bk data=[qVh data,zT data]:=by rw[qKh,o0,o1];rfl
  rw[hdig];refine qB 2 (fun k=>match k with | 0=>[(1,.t (.sl (data.map qA))),(2,.ref 4096 0 0),(5,.sl 8192 0 2),(6,.t (.int .i64 0))] | 1=>[(1,.t (.sl (data.map qA))),(2,.ref 4096 0 0),(5,.sl 8192 0 2),(6,.t (.int .i64 1))] | _=>[(1,.t (.sl (data.map qA))),(2,.ref 4096 0 0),(5,.sl 8192 0 2),(6,.t (.int .i64 2))]) (fun k=>match k with | 0=>[(8192,.live 1 [.t (bsT []),.t (bsT [])] true false),(4096,.live 2 [.t (zY bk u)] true true)] | 1=>[(8192,.live 1 [.t (bsT (qVh data)),.t (bsT [])] true false),(4096,.live 2 [.t (zY bk u)] true true)] | _=>[(8192,.live 1 [.t (bsT (qVh data)),.t (bsT (zT data))] true false),(4096,.live 2 [.t (zY bk u)] true true)]) ?_ (fun k hk2=>?_)
  ·refine qJ.rd id ?_ ?_ rfl;all_goals simp(disch:=omega)only[go_sem,id,map_nil]
  ·rcases (show k=0∨k=1∨k=2 by omega) with rfl | rfl | rfl
   ·simp(disch:=omega)only[go_sem,h1,h2,c0,c1,qR,qP,map_nil];refine qJ.cv (hv:=[]) [28736] id ?_ rfl;simp(disch:=omega)only[go_sem,id,vC,jH,map_nil,zP,qH];all_goals rfl
   ·simp(disch:=omega)only[go_sem,h1,h2,c0,c1,qR,qP,map_nil];refine qJ.cv (hv:=[]) [28736] id ?_ rfl;simp(disch:=omega)only[go_sem,id,vC,jH,map_nil,zP,qH];all_goals rfl
   ·simp(disch:=omega)only[go_sem,h1,h2,c0,c1,qR,qP,map_nil,mcn]
def zMt:Ct where
 α:=List zB×Int×List UInt8
 aS x:=[.t (zY x.1 x.2.1),.t (.sl (x.2.2.map qA))]
 ins _:=[]
 pre x:=RK x.1∧x.2.2.length<1000000000
 r x:= .t (.sl ((qKh x.1 x.2.2).map bsT))
 outs _:=[]
 inj:=by
  rintro⟨a,u,d⟩ ⟨b,v,d'⟩ h _;simp only[List.cons.injEq,V.t.injEq,T.sl.injEq,and_true,zN] at h;obtain⟨h1,rfl⟩:=h;obtain⟨rfl,rfl⟩:=qA0 h1;exact⟨rfl,rfl⟩
theorem qUq (h1:LkC tab 266 qKc)(h2:LkC tab 153 qBa)(h3:LkC tab 202 xV)(bk:List zB)(u loc i:Int)(data:List UInt8)(hk:RV bk)(hu:0≤u∧u<1000000000)(hd:data.length<1000000000) :
  xI.1.wp tab gl (qE 0 [.t (zY bk u),.t (.int .i64 loc),.t (.int .i64 i),.t (.sl (data.map qA))]) (qE 0 []) (qV [(8,some (2,true)),(9,none)] 0 (fun r o=>r=evR bk u loc i data∧o=[])):=by
 have c0:=zUd (u:=u) (a:=0) hk.1 oM;have c1:=zUd (u:=u) (a:=1) hk.1 oM;rw[show ((0:Nat):Int)=0 from rfl] at c0;rw[show ((1:Nat):Int)=1 from rfl] at c1;by_cases hl:128<data.length
 ·simp(disch:=omega)only[go_sem,xI,evR,hl,map_nil]
 rw[evR,if_neg hl];have hx:=jDp (bk:=bk) (u:=u) (loc:=loc) (i:=i) (ds:=qKh bk data) ⟨hk,hu,qWq.1,qWq.2⟩;obtain⟨bk',u',e,he⟩:=zB1 (bk:=bk) (u:=u) (loc:=loc) (i:=i) (ds:=qKh bk data);rw[he] at hx;rw[he];simp(disch:=omega)only[go_sem,xI];cases o0:onB bk 0<;>cases o1:onB bk 1<;>rw[o0] at c0<;>rw[o1] at c1
 ·have hdig:qKh bk data=[[],[]]:=by rw[qKh,o0,o1];rfl
  have hx':=hx;rw[hdig] at hx';simp only[mcn,qI] at hx';refine qB 2 (fun k=>match k with | 0=>[(1,.t (.int .i64 loc)),(2,.t (.int .i64 i)),(3,.t (.sl (data.map qA))),(4,.ref 4096 0 0),(8,.ref 4112 0 0),(10,.sl 16384 0 2),(18,.t (.int .i64 2)),(19,.t (.int .i64 0))] | 1=>[(1,.t (.int .i64 loc)),(2,.t (.int .i64 i)),(3,.t (.sl (data.map qA))),(4,.ref 4096 0 0),(8,.ref 4112 0 0),(10,.sl 16384 0 2),(18,.t (.int .i64 2)),(19,.t (.int .i64 1))] | _=>[(1,.t (.int .i64 loc)),(2,.t (.int .i64 i)),(3,.t (.sl (data.map qA))),(4,.ref 4096 0 0),(8,.ref 4112 0 0),(10,.sl 16384 0 2),(18,.t (.int .i64 2)),(19,.t (.int .i64 2))]) (fun k=>match k with | 0=>[(16384,.live 1 [.t (bsT []),.t (bsT [])] true false),(4112,.live 2 [.agg [.nil,.t (.int .i64 0)]] true true),(4096,.live 2 [.t (zY bk u)] true true)] | 1=>[(16384,.live 1 [.t (bsT ([])),.t (bsT [])] true false),(4112,.live 2 [.agg [.nil,.t (.int .i64 0)]] true true),(4096,.live 2 [.t (zY bk u)] true true)] | _=>[(16384,.live 1 [.t (bsT ([])),.t (bsT ([]))] true false),(4112,.live 2 [.agg [.nil,.t (.int .i64 0)]] true true),(4096,.live 2 [.t (zY bk u)] true true)]) ?_ (fun k hk2=>?_)
  ·refine qJ.rd id ?_ ?_ rfl;all_goals simp(disch:=omega)only[go_sem,id,map_nil]
  ·rcases (show k=0∨k=1∨k=2 by omega) with rfl | rfl | rfl
   ·simp(disch:=omega)only[go_sem,h1,h2,c0,c1,qR,qP,map_nil];refine qJ.rd id ?_ ?_ rfl;all_goals simp(disch:=omega)only[go_sem,id,map_nil]
   ·simp(disch:=omega)only[go_sem,h1,h2,c0,c1,qR,qP,map_nil];refine qJ.rd id ?_ ?_ rfl;all_goals simp(disch:=omega)only[go_sem,id,map_nil]
   ·simp(disch:=omega)only[go_sem,h1,h2,c0,c1,qR,qP,mcn,h3,hx']
 ·have hdig:qKh bk data=[[],zT data]:=by rw[qKh,o0,o1];rfl
  have hx':=hx;rw[hdig] at hx';simp only[mcn,qI] at hx';refine qB 2 (fun k=>match k with | 0=>[(1,.t (.int .i64 loc)),(2,.t (.int .i64 i)),(3,.t (.sl (data.map qA))),(4,.ref 4096 0 0),(8,.ref 4112 0 0),(10,.sl 16384 0 2),(18,.t (.int .i64 2)),(19,.t (.int .i64 0))] | 1=>[(1,.t (.int .i64 loc)),(2,.t (.int .i64 i)),(3,.t (.sl (data.map qA))),(4,.ref 4096 0 0),(8,.ref 4112 0 0),(10,.sl 16384 0 2),(18,.t (.int .i64 2)),(19,.t (.int .i64 1))] | _=>[(1,.t (.int .i64 loc)),(2,.t (.int .i64 i)),(3,.t (.sl (data.map qA))),(4,.ref 4096 0 0),(8,.ref 4112 0 0),(10,.sl 16384 0 2),(18,.t (.int .i64 2)),(19,.t (.int .i64 2))]) (fun k=>match k with | 0=>[(16384,.live 1 [.t (bsT []),.t (bsT [])] true false),(4112,.live 2 [.agg [.nil,.t (.int .i64 0)]] true true),(4096,.live 2 [.t (zY bk u)] true true)] | 1=>[(16384,.live 1 [.t (bsT ([])),.t (bsT [])] true false),(4112,.live 2 [.agg [.nil,.t (.int .i64 0)]] true true),(4096,.live 2 [.t (zY bk u)] true true)] | _=>[(16384,.live 1 [.t (bsT ([])),.t (bsT (zT data))] true false),(4112,.live 2 [.agg [.nil,.t (.int .i64 0)]] true true),(4096,.live 2 [.t (zY bk u)] true true)]) ?_ (fun k hk2=>?_)
  ·refine qJ.rd id ?_ ?_ rfl;all_goals simp(disch:=omega)only[go_sem,id,map_nil]
  ·rcases (show k=0∨k=1∨k=2 by omega) with rfl | rfl | rfl
   ·simp(disch:=omega)only[go_sem,h1,h2,c0,c1,qR,qP,map_nil];refine qJ.rd id ?_ ?_ rfl;all_goals simp(disch:=omega)only[go_sem,id,map_nil]
   ·simp(disch:=omega)only[go_sem,h1,h2,c0,c1,qR,qP,map_nil];refine qJ.cv (hv:=[]) [36928] id ?_ rfl;simp(disch:=omega)only[go_sem,id,vC,jH,map_nil,zP,qH];all_goals rfl
   ·simp(disch:=omega)only[go_sem,h1,h2,c0,c1,qR,qP,mcn,h3,hx']
 ·have hdig:qKh bk data=[qVh data,[]]:=by rw[qKh,o0,o1];rfl
  have hx':=hx;rw[hdig] at hx';simp only[mcn,qI] at hx';refine qB 2 (fun k=>match k with | 0=>[(1,.t (.int .i64 loc)),(2,.t (.int .i64 i)),(3,.t (.sl (data.map qA))),(4,.ref 4096 0 0),(8,.ref 4112 0 0),(10,.sl 16384 0 2),(18,.t (.int .i64 2)),(19,.t (.int .i64 0))] | 1=>[(1,.t (.int .i64 loc)),(2,.t (.int .i64 i)),(3,.t (.sl (data.map qA))),(4,.ref 4096 0 0),(8,.ref 4112 0 0),(10,.sl 16384 0 2),(18,.t (.int .i64 2)),(19,.t (.int .i64 1))] | _=>[(1,.t (.int .i64 loc)),(2,.t (.int .i64 i)),(3,.t (.sl (data.map qA))),(4,.ref 4096 0 0),(8,.ref 4112 0 0),(10,.sl 16384 0 2),(18,.t (.int .i64 2)),(19,.t (.int .i64 2))]) (fun k=>match k with | 0=>[(16384,.live 1 [.t (bsT []),.t (bsT [])] true false),(4112,.live 2 [.agg [.nil,.t (.int .i64 0)]] true true),(4096,.live 2 [.t (zY bk u)] true true)] | 1=>[(16384,.live 1 [.t (bsT (qVh data)),.t (bsT [])] true false),(4112,.live 2 [.agg [.nil,.t (.int .i64 0)]] true true),(4096,.live 2 [.t (zY bk u)] true true)] | _=>[(16384,.live 1 [.t (bsT (qVh data)),.t (bsT ([]))] true false),(4112,.live 2 [.agg [.nil,.t (.int .i64 0)]] true true),(4096,.live 2 [.t (zY bk u)] true true)]) ?_ (fun k hk2=>?_)
  ·refine qJ.rd id ?_ ?_ rfl;all_goals simp(disch:=omega)only[go_sem,id,map_nil]
  ·rcases (show k=0∨k=1∨k=2 by omega) with rfl | rfl | rfl
   ·simp(disch:=omega)only[go_sem,h1,h2,c0,c1,qR,qP,map_nil];refine qJ.cv (hv:=[]) [36928] id ?_ rfl;simp(disch:=omega)only[go_sem,id,vC,jH,map_nil,zP,qH];all_goals rfl
   ·simp(disch:=omega)only[go_sem,h1,h2,c0,c1,qR,qP,map_nil];refine qJ.rd id ?_ ?_ rfl;all_goals simp(disch:=omega)only[go_sem,id,map_nil]
   ·simp(disch:=omega)only[go_sem,h1,h2,c0,c1,qR,qP,mcn,h3,hx']
 ·have hdig:qKh bk data=[qVh data,zT data]:=by rw[qKh,o0,o1];rfl
  have hx':=hx;rw[hdig] at hx';simp only[mcn,qI] at hx';refine qB 2 (fun k=>match k with | 0=>[(1,.t (.int .i64 loc)),(2,.t (.int .i64 i)),(3,.t (.sl (data.map qA))),(4,.ref 4096 0 0),(8,.ref 4112 0 0),(10,.sl 16384 0 2),(18,.t (.int .i64 2)),(19,.t (.int .i64 0))] | 1=>[(1,.t (.int .i64 loc)),(2,.t (.int .i64 i)),(3,.t (.sl (data.map qA))),(4,.ref 4096 0 0),(8,.ref 4112 0 0),(10,.sl 16384 0 2),(18,.t (.int .i64 2)),(19,.t (.int .i64 1))] | _=>[(1,.t (.int .i64 loc)),(2,.t (.int .i64 i)),(3,.t (.sl (data.map qA))),(4,.ref 4096 0 0),(8,.ref 4112 0 0),(10,.sl 16384 0 2),(18,.t (.int .i64 2)),(19,.t (.int .i64 2))]) (fun k=>match k with | 0=>[(16384,.live 1 [.t (bsT []),.t (bsT [])] true false),(4112,.live 2 [.agg [.nil,.t (.int .i64 0)]] true true),(4096,.live 2 [.t (zY bk u)] true true)] | 1=>[(16384,.live 1 [.t (bsT (qVh data)),.t (bsT [])] true false),(4112,.live 2 [.agg [.nil,.t (.int .i64 0)]] true true),(4096,.live 2 [.t (zY bk u)] true true)] | _=>[(16384,.live 1 [.t (bsT (qVh data)),.t (bsT (zT data))] true false),(4112,.live 2 [.agg [.nil,.t (.int .i64 0)]] true true),(4096,.live 2 [.t (zY bk u)] true true)]) ?_ (fun k hk2=>?_)
  ·refine qJ.rd id ?_ ?_ rfl;all_goals simp(disch:=omega)only[go_sem,id,map_nil]
  ·rcases (show k=0∨k=1∨k=2 by omega) with rfl | rfl | rfl
   ·simp(disch:=omega)only[go_sem,h1,h2,c0,c1,qR,qP,map_nil];refine qJ.cv (hv:=[]) [36928] id ?_ rfl;simp(disch:=omega)only[go_sem,id,vC,jH,map_nil,zP,qH];all_goals rfl
   ·simp(disch:=omega)only[go_sem,h1,h2,c0,c1,qR,qP,map_nil];refine qJ.cv (hv:=[]) [36928] id ?_ rfl;simp(disch:=omega)only[go_sem,id,vC,jH,map_nil,zP,qH];all_goals rfl
   ·simp(disch:=omega)only[go_sem,h1,h2,c0,c1,qR,qP,mcn,h3,hx']
theorem zIq (h1:LkC tab 56 zMt)(h2:LkC tab 55 xV)(bk:List zB)(u loc i:Int)(data:List UInt8)(hk:RV bk)(hu:0≤u∧u<1000000000)(hd:data.length<1000000000) :
  qEi.1.wp tab gl (qE 0 [.t (zY bk u),.t (.int .i64 loc),.t (.int .i64 i),.t (.sl (data.map qA))]) (qE 0 []) (qV [(8,some (2,true)),(9,none)] 0 (fun r o=>r=evR bk u loc i data∧o=[])):=by
 by_cases hl:128<data.length
 ·simp(disch:=omega)only[go_sem,qEi,evR,hl,map_nil]
 rw[evR,if_neg hl];have hx:=jDp (bk:=bk) (u:=u) (loc:=loc) (i:=i) (ds:=qKh bk data) ⟨hk,hu,qWq.1,qWq.2⟩;obtain⟨bk',u',e,he⟩:=zB1 (bk:=bk) (u:=u) (loc:=loc) (i:=i) (ds:=qKh bk data);rw[he] at hx;rw[he];have hdg:zMt.fs [.t (.agg [.sl (bk.map vS),.int .i64 u]),.t (.sl (data.map qA))] []=some (.t (.sl ((qKh bk data).map bsT)),[]):=zMt.eq (bk,u,data) ⟨hk.1,hd⟩;simp(disch:=omega)only[go_sem,qEi,h1,h2,hdg,hx];all_goals rfl
theorem RM.bank {bk:List zB}(h:RM bk)(a:Nat):zT3 (bk.getD a []):=by
 by_cases ha:a<bk.length
 ·have e:bk.getD a []=bk[a]:=by simp[List.getD,ha]
  rw[e];exact h.2 _ (getElem_mem ha)
 ·have e:bk.getD a []=[]:=by simp[List.getD,getElem?_eq_none (Nat.le_of_not_lt ha)]
  rw[e];exact⟨sM,sM⟩
def kH:Ct where
 α:=Int
 aS s:=[.t (.int .i64 s)]
 ins _:=[]
 pre _:=True
 r s:=twR (yV s) 0
 outs s:=twO (yV s)
 inj:=by
  rintro a b h _;simp only[List.cons.injEq,V.t.injEq,T.int.injEq,true_and,and_true] at h;subst h;exact⟨rfl,rfl⟩
def zJu:Ct where
 α:=List zB×Int×Int×Int×List UInt8
 aS x:=[.t (zY x.1 x.2.1),.t (.int .i64 x.2.2.1),.t (.int .i64 x.2.2.2.1),.t (.sl (x.2.2.2.2.map qA))]
 ins _:=[]
 pre x:=RV x.1∧(0≤x.2.1∧x.2.1<1000000000)∧x.2.2.2.2.length<1000000000
 r x:=evR x.1 x.2.1 x.2.2.1 x.2.2.2.1 x.2.2.2.2
 outs _:=[]
 inj:=by
  rintro⟨a,u,l,i,d⟩ ⟨b,v,l',i',d'⟩ h _;simp only[List.cons.injEq,V.t.injEq,T.int.injEq,T.sl.injEq,true_and,and_true,zN] at h;obtain⟨h1,rfl,rfl,rfl⟩:=h;obtain⟨rfl,rfl⟩:=qA0 h1;exact⟨rfl,rfl⟩
def zM2:Ct where
 α:=List zB×Int×Int×Int
 aS x:=[.t (zY x.1 x.2.1),.t (.int .i64 x.2.2.1),.t (.int .i64 x.2.2.2)]
 ins _:=[]
 pre x:=RM x.1
 r x:=jJq x.1 x.2.2.1 x.2.2.2
 outs x:=jJp x.1 x.2.2.1 x.2.2.2
 inj:=by
  rintro⟨a,u,l,i⟩ ⟨b,v,l',i'⟩ h _;simp only[List.cons.injEq,V.t.injEq,T.int.injEq,true_and,and_true] at h;obtain⟨h1,rfl,rfl⟩:=h;obtain⟨rfl,rfl⟩:=qA0 h1;exact⟨rfl,rfl⟩
theorem zT6 {a:Nat}(ha:a<2):qWn (qCf a):= .inr qO
theorem zT5 {a:Nat}(ha:a<2) : ∀ x∈qCf a,x.length≤64:=by
 intro x hx;simp only[qCf,mem_map,mem_range] at hx;obtain⟨i,_,rfl⟩:=hx;simp only[length_replicate];have:a=0∨a=1:=oM;rcases this with rfl | rfl<;>decide
theorem zNv {s:Int}:RV (yV s):=by
 unfold yV;split
 ·exact⟨.nil,sM⟩
 ·refine⟨.two _ _ ?_ ?_,?_⟩
  ·split
   ·exact zT6 oM
   ·exact .inl rfl
  ·split
   ·exact zT6 oM
   ·exact .inl rfl
  ·intro b hb;simp only[mem_cons,not_mem_nil,or_false] at hb;rcases hb with rfl | rfl
   ·split
    ·exact zT5 oM
    ·simp
   ·split
    ·exact zT5 oM
    ·simp
theorem qRc (h1:LkC tab 260 qI6)(h2:LkC tab 261 qTl)(x:(qA9 5 qEj).α)(hx:(qA9 5 qEj).pre x) :
  kK.1.wp tab gl (qE 0 ((qA9 5 qEj).aS x)) (qE 0 ((qA9 5 qEj).ins x)) (qV [] ((qA9 5 qEj).ins x).length (fun r o=>r=(qA9 5 qEj).r x∧o=(qA9 5 qEj).outs x)):=by
 obtain⟨hs,bs⟩:=x;obtain⟨hb,hh⟩:=hx
 match hs,hh with
 | [x0,x1,x2,x3,x4],_=>exact qSv tab gl h1 h2 bs x0 x1 x2 x3 x4 hb
theorem qRe (x:kT.α)(hx:kT.pre x) :
  yN.1.wp tab gl (qE 0 (kT.aS x)) (qE 0 (kT.ins x)) (qV [(2,none)] (kT.ins x).length (fun r o=>r=kT.r x∧o=kT.outs x)):=by
 obtain⟨bk,u⟩:=x;have hx':RK bk:=hx;clear hx;cases hx' with
 | nil=>exact qRa tab gl u
 | two b0 b1 h0 h1=>exact qRb tab gl b0 b1 (by rcases h0 with h | h<;>omega) (by rcases h1 with h | h<;>omega) u
theorem qU3 (x:jP.α)(hx:jP.pre x) :
  vK.1.wp tab gl (qE 0 (jP.aS x)) (qE 0 (jP.ins x)) (kG [] [(2,some (2,true))] (jP.ins x).length (fun r o=>r=jP.r x∧o=jP.outs x)):=by
 obtain⟨bk,u⟩:=x;obtain⟨hk,hm⟩:=hx;have hk':RK bk:=hk;clear hk;cases hk' with
 | nil=>exact qUu tab gl u
 | two b0 b1 h0 h1=>exact qUv tab gl b0 b1 u (hm b0 (.head _)) (hm b1 (.tail _ (.head _)))
theorem qWj (h1:LkC tab 198 xB)(h2:LkC tab 262 kE)(x:kH.α) :
  jR.1.wp tab gl (qE 0 (kH.aS x)) (qE 0 (kH.ins x)) (kG [] [(2,some (2,true))] (kH.ins x).length (fun r o=>r=kH.r x∧o=kH.outs x)):=by
 have x':Int:=x;by_cases h:(show Int from x)%4=0
 ·have:=qWe tab gl x h;show jR.1.wp tab gl (qE 0 [.t (.int .i64 x)]) (qE 0 []) (kG [] [(2,some (2,true))] 0 (fun r o=>r=twR (yV x) 0∧o=twO (yV x)));have e:yV x=[]:=if_pos h;rw[e];exact this
 ·exact qZw tab gl h1 h2 x h
theorem zL4 (h1:LkC tab 46 qI4)(x:kH.α) :
  kM.1.wp tab gl (qE 0 (kH.aS x)) (qE 0 (kH.ins x)) (kG [] [(2,some (2,true))] (kH.ins x).length (fun r o=>r=kH.r x∧o=kH.outs x)):=by
 by_cases h:(show Int from x)%4=0
 ·have:=zLx tab gl x h;show kM.1.wp tab gl (qE 0 [.t (.int .i64 x)]) (qE 0 []) (kG [] [(2,some (2,true))] 0 (fun r o=>r=twR (yV x) 0∧o=twO (yV x)));have e:yV x=[]:=if_pos h;rw[e];exact this
 ·exact zQ5 tab gl h1 x h
theorem zIx (x:kE.α)(hx:kE.pre x) :
  qGa.1.wp tab gl (qE 0 (kE.aS x)) (qE 0 (kE.ins x)) (kG [] [(4,none)] (kE.ins x).length (fun r o=>r=kE.r x∧o=kE.outs x)):=by
 obtain⟨n,x⟩:=x;have hx':n=20∨n=32:=hx;exact zLy tab gl x n oM
theorem zBl (x:vU.α)(hx:vU.pre x) :
  kX.1.wp tab gl (qE 0 (vU.aS x)) (qE 0 (vU.ins x)) (qV [(4,none)] (vU.ins x).length (fun r o=>r=vU.r x∧o=vU.outs x)):=by
 obtain⟨bk,u,a⟩:=x;obtain⟨hk,ha⟩:=hx;have hk':RK bk:=hk;have ha':a<1000000000:=ha;refine zFh tab gl bk u a ha' ?_ ?_
 ·cases hk'<;>simp
 ·intro b hb;clear hk;cases hk' with
  | nil=>simp at hb
  | two b0 b1 h0 h1=>
   simp only[mem_cons,not_mem_nil,or_false] at hb;rcases hb with rfl | rfl
   ·rcases h0 with h | h<;>omega
   ·rcases h1 with h | h<;>omega
def stN (x:List UInt8)(b:zB):Nat→zB
 | 0=>b
 | k+1=>(stN x b k).set (12+k) x
theorem qC4 {x:List UInt8}{b:zB}{k:Nat}:List.length (stN x b k)=List.length b:=by
 induction k with
 | zero=>rfl
 | succ k ih=>simp only[stN,length_set,ih]
def zD0 (bk:List zB):List zB:=match bk with
 | [b0,b1]=>[stN (List.replicate 20 255) b0 4,stN (List.replicate 32 255) b1 4]
 | bk=>bk
theorem zT7 {k:Nat}:zZq (12+k)=255:=if_pos oM
theorem qQ8 (h1:LkC tab 264 jP)(u:Int):yM.1.wp tab gl (qE 0 [.t (zY [] u)]) (qE 0 []) (qV [(2,some (2,true))] 0 (fun r o=>r = .t (zY [] u)∧o=[])):=by
 simp(disch:=omega)only[go_sem,yM,h1,qW4,map_nil];refine qG 1 ?_;simp(disch:=omega)only[go_sem,qD]
theorem qQ9 (h1:LkC tab 264 jP)(h2:LkC tab 198 xB)(h3:LkC tab 262 kE)(b0 b1:zB)(u:Int)(hk:RM [b0,b1]):yM.1.wp tab gl (qE 0 [.t (zY [b0,b1] u)]) (qE 0 []) (qV [(2,some (2,true))] 0 (fun r o=>r = .t (zY (zD0 [b0,b1]) u)∧o=[])):=by
 simp(disch:=omega)only[go_sem,yM,h1,qY hk,mcn];refine qG 3 ?_;simp(disch:=omega)only[go_sem,qD];obtain⟨hrk,_⟩:=hk;cases hrk with
 | two _ _ h0 h1=>
 have q0:qWn b0:=h0;rcases q0 with z0 | z0
 ·obtain rfl:b0=[]:=eq_nil_of_length_eq_zero z0;have y0:stN (List.replicate 20 255) [] 4=[]:=rfl;refine qG 1 ?_;simp(disch:=omega)only[go_sem,qD,length_nil,map_nil];have q1:qWn b1:=h1;rcases q1 with z1 | z1
  ·obtain rfl:b1=[]:=eq_nil_of_length_eq_zero z1;have y1:stN (List.replicate 32 255) [] 4=[]:=rfl;refine qG 1 ?_;simp(disch:=omega)only[go_sem,qD,length_nil,map_nil,z0,z1];all_goals rfl
  ·refine qB 4 (fun k=>[(2,.ref 4112 0 0),(3,.ref 8224 0 0),(4,.t (.int .i64 1)),(5,.t (.int .i64 ((12+k:Nat):Int))),(10,.t (.int .i64 2)),(11,.t (.int .i64 1))]) (fun k=>[(8224,.live 2 [.agg [.sl 8208 0 2,.t (.int .i64 u)]] true true),(8210,.live 1 (((stN (List.replicate 32 255) b1 k).map bsT).map V.t) true false),(8209,.live 1 (((([]:zB)).map bsT).map V.t) true false),(8208,.live 1 [.sl 8209 0 0,.sl 8210 0 16] true false),(4112,.live 2 [.agg [.nil,.t (.int .i64 0)]] true true)]) ?_ (fun k hk4=>?_)
   ·refine qJ.rd id ?_ ?_ rfl;all_goals simp(disch:=omega)only[go_sem,id,stN,z0,z1]
   ·have s1:List.length (stN (List.replicate 32 255) b1 k)=16:=by rw[qC4,z1]
    by_cases hlt:k<4
    ·simp(disch:=omega)only[go_sem,z1,s1,h2,h3,qM,qN,zH,zI];repeat refine And.intro rfl ?_
     refine⟨hlt,qJ.cv (hv:=[]) [36992] id ?_ rfl⟩;simp(maxSteps:=9^9)(disch:=try exact dS)only[go_sem,id,stN,z1,s1,take_replicate,Nat.min_self,zT7];refine⟨?_,rfl⟩;omega
    ·have e:k=4:=oM;subst e;have t1:List.take 16 (stN (List.replicate 32 255) b1 4)=stN (List.replicate 32 255) b1 4:=take_of_length_le oM;simp(disch:=omega)only[go_sem,z1,s1,qD,t1];all_goals rfl
 ·refine qB 4 (fun k=>[(2,.ref 4112 0 0),(3,.ref 8224 0 0),(4,.t (.int .i64 0)),(5,.t (.int .i64 ((12+k:Nat):Int))),(10,.t (.int .i64 2)),(11,.t (.int .i64 0))]) (fun k=>[(8224,.live 2 [.agg [.sl 8208 0 2,.t (.int .i64 u)]] true true),(8210,.live 1 (((b1).map bsT).map V.t) true false),(8209,.live 1 (((stN (List.replicate 20 255) b0 k).map bsT).map V.t) true false),(8208,.live 1 [.sl 8209 0 16,.sl 8210 0 b1.length] true false),(4112,.live 2 [.agg [.nil,.t (.int .i64 0)]] true true)]) ?_ (fun k hk4=>?_)
  ·refine qJ.rd id ?_ ?_ rfl;all_goals simp(disch:=omega)only[go_sem,id,stN,z0]
  ·have s0:List.length (stN (List.replicate 20 255) b0 k)=16:=by rw[qC4,z0]
   by_cases hlt:k<4
   ·simp(disch:=omega)only[go_sem,z0,s0,h2,h3,qM,qN,zH,zI];repeat refine And.intro rfl ?_
    refine⟨hlt,qJ.cv (hv:=[]) [36992] id ?_ rfl⟩;simp(maxSteps:=9^9)(disch:=try exact dS)only[go_sem,id,stN,z0,s0,take_replicate,Nat.min_self,zT7];refine⟨?_,rfl⟩;omega
   ·have e:k=4:=oM;subst e;have t0:List.take 16 (stN (List.replicate 20 255) b0 4)=stN (List.replicate 20 255) b0 4:=take_of_length_le oM;simp(disch:=omega)only[go_sem,z0,s0,qD,t0];have q1:qWn b1:=h1;rcases q1 with z1 | z1
    ·obtain rfl:b1=[]:=eq_nil_of_length_eq_zero z1;have y1:stN (List.replicate 32 255) [] 4=[]:=rfl;refine qG 1 ?_;simp(disch:=omega)only[go_sem,qD,length_nil,map_nil,z0,z1,t0];all_goals rfl
    ·refine qB 4 (fun k=>[(2,.ref 4112 0 0),(3,.ref 8224 0 0),(4,.t (.int .i64 1)),(5,.t (.int .i64 ((12+k:Nat):Int))),(10,.t (.int .i64 2)),(11,.t (.int .i64 1))]) (fun k=>[(8224,.live 2 [.agg [.sl 8208 0 2,.t (.int .i64 u)]] true true),(8210,.live 1 (((stN (List.replicate 32 255) b1 k).map bsT).map V.t) true false),(8209,.live 1 (((stN (List.replicate 20 255) b0 4).map bsT).map V.t) true false),(8208,.live 1 [.sl 8209 0 16,.sl 8210 0 16] true false),(4112,.live 2 [.agg [.nil,.t (.int .i64 0)]] true true)]) ?_ (fun k hk4=>?_)
     ·refine qJ.rd id ?_ ?_ rfl;all_goals simp(disch:=omega)only[go_sem,id,stN,z0,z1]
     ·have s1:List.length (stN (List.replicate 32 255) b1 k)=16:=by rw[qC4,z1]
      by_cases hlt:k<4
      ·simp(disch:=omega)only[go_sem,z1,s1,h2,h3,qM,qN,zH,zI];repeat refine And.intro rfl ?_
       refine⟨hlt,qJ.cv (hv:=[]) [36992] id ?_ rfl⟩;simp(maxSteps:=9^9)(disch:=try exact dS)only[go_sem,id,stN,z1,s1,take_replicate,Nat.min_self,zT7];refine⟨?_,rfl⟩;omega
      ·have e:k=4:=oM;subst e;have t1:List.take 16 (stN (List.replicate 32 255) b1 4)=stN (List.replicate 32 255) b1 4:=take_of_length_le oM;simp(disch:=omega)only[go_sem,z1,s1,qD,t0,t1];all_goals rfl
end Go.Eng
end
