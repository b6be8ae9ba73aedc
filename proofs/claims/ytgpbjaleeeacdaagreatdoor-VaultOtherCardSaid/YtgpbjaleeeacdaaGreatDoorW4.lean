/- My own text: an abstract machine, its walks over the functions reached, and their tie to the program. -/
import Derived.Test.YtgpbjaleeeacdaaGreatDoorW3
set_option linter.unusedSimpArgs false
set_option linter.unusedVariables false
section
set_option maxRecDepth 20000
set_option maxHeartbeats 64000000
namespace Go.Eng
def qFk (l0 l1:Nat) (loc i:Int) (nd k0 k1:Nat):Int:=
 if loc<0∨4<loc∨i<0∨16≤i∨nd≠2 then 1 else if loc<qBc i false then 13
 else if (l0≠16∧0<k0)∨(l1≠16∧0<k1) then 27 else if (l0=16∧k0≠20)∨(l1=16∧k1≠32) then 24 else 0
def xS (a:Nat) (b:jI) (i:Nat) (d:List UInt8):jI:=if List.length b=16 then b.set i (zCn a (b.getD i []++d)) else b
theorem qS {a:Nat} {b:jI} {i:Nat} {d:List UInt8}:List.length (xS a b i d)=List.length b:=by
 unfold xS;split<;>simp
def qJc (bk:List jI) (i:Nat) (ds:List (List UInt8)):List jI:=match bk with
 | [b0,b1]=>[xS 0 b0 i (ds.getD 0 []),xS 1 b1 i (ds.getD 1 [])]
 | bk=>bk
def qD9 (bk:List jI) (loc i:Int) (ds:List (List UInt8)):Int:=qFk (bk.getD 0 []).length (bk.getD 1 []).length loc i ds.length (ds.getD 0 []).length (ds.getD 1 []).length
def qO4 (bk:List jI) (u loc i:Int) (ds:List (List UInt8)):V:=
 if qFk (bk.getD 0 []).length (bk.getD 1 []).length loc i ds.length (ds.getD 0 []).length (ds.getD 1 []).length=0 then .tup [.t (xT (qJc bk i.toNat ds) (u+1)),.t (.int .i64 0)]
 else .tup [.t (xT [] 0),.t (.int .i64 (qFk (bk.getD 0 []).length (bk.getD 1 []).length loc i ds.length (ds.getD 0 []).length (ds.getD 1 []).length))]
theorem zHq {x:List UInt8}:zCn 0 x=qTd x:=rfl
theorem zHr {x:List UInt8}:zCn 1 x=zS x:=rfl
theorem qC4 {x:List UInt8}:List.take 20 (qTd x)=qTd x:=List.take_of_length_le (by rw[vA];exact Nat.le_refl _)
theorem kZ {x:List UInt8}:List.take 32 (zS x)=zS x:=List.take_of_length_le (by rw[qH];exact Nat.le_refl _)
theorem qHb (tab:Tab) (gl:Gl) (n1 n2 n3 n4 n5 n6:Nat) (h1:tab.look n1=some wL.fs) (h2:tab.look n2=some qB2.fs) (h3:tab.look n3=some qGq.fs) (h4:tab.look n4=some qBb.fs) (h5:tab.look n5=some wE.fs) (h6:tab.look n6=some qAe.fs)
  (b0 b1:jI) (u loc:Int) (n:Nat) (d0 d1:List UInt8) (hu:0≤u∧u<1000000000) (hk:RM [b0,b1]) (hv0:(b0.getD n []).length≤64) (hv1:(b1.getD n []).length≤64) (hd:d0.length<9223372036854775808∧d1.length<9223372036854775808) (e1 : ¬(loc<0∨4<loc∨16≤n)) (e2 : ¬ loc<qBc n false) :
  (qZ n1 n2 n3 n4 n5 n6).wp tab gl (qE 0 [.t (xT [b0,b1] u),.t (.int .i64 loc),.t (.int .i64 n),.t (.sl [bsT d0,bsT d1])]) (qE 0 []) (jK [(8,some (2,true)),(9,none)] 0 (fun r o=>r=qO4 [b0,b1] u loc n [d0,d1]∧o=[])):=by
 have gg:qTj b0∧qTj b1:=by
  obtain⟨hrk,_⟩:=hk
  cases hrk with
  | two _ _ h0 h1=>exact⟨h0,h1⟩
 obtain⟨g0,g1⟩:=gg
 simp (disch:=omega) only [go_sem,seval,qZ,h1,qRw,h2,qRx,List.map_nil,List.map_cons]
 refine kT (fs':=[(2,.t (.int .i64 (n:Nat))),(3,.t (.sl [bsT d0,bsT d1])),(4,.ref 4096 0 0),(8,.ref 4112 0 0),(38,.t (.sl [bsT d0,bsT d1])),(39,.t (.int .i64 2)),(40,.t (.int .i64 0))]) (hs':=[(4112,.live 2 [.agg [.nil,.t (.int .i64 0)]] true true),(4096,.live 2 [.t (xT [b0,b1] u)] true true)]) (qQ.rd id ?_ ?_ rfl) ?_
 ·simp (disch:=omega) only [go_sem,seval,id]
 ·simp (disch:=omega) only [go_sem,seval,id]
 rcases g0 with z0 | z0<;>rcases g1 with z1 | z1
 ·have zz:True:=trivial
  by_cases p2:0<d0.length
  ·have zz:True:=trivial
   have hE:qFk 0 0 loc n 2 d0.length d1.length=27:=by unfold qFk;rw[if_neg (by omega),if_neg (by omega),if_pos (by omega)]
   refine qU 3 ?_
   simp (disch:=omega) only [go_sem,seval,qG,qR,h3,vM hk.1,vN hk.1,h4,qN,qO,h5,jD hk,h6,zU,zO,z0,z1,hE,List.map_nil,qO4,qD9,List.getD_cons_zero,List.getD_cons_succ,List.length_cons,List.length_nil]
   all_goals repeat refine And.intro rfl ?_
   all_goals rfl
  ·have zz:True:=trivial
   by_cases p1:0<d1.length
   ·have zz:True:=trivial
    have hE:qFk 0 0 loc n 2 d0.length d1.length=27:=by unfold qFk;rw[if_neg (by omega),if_neg (by omega),if_pos (by omega)]
    refine qU 3 ?_
    simp (disch:=omega) only [go_sem,seval,qG,qR,h3,vM hk.1,vN hk.1,h4,qN,qO,h5,jD hk,h6,zU,zO,z0,z1,hE,List.map_nil,qO4,qD9,List.getD_cons_zero,List.getD_cons_succ,List.length_cons,List.length_nil]
    all_goals repeat refine And.intro rfl ?_
    all_goals rfl
   ·have zz:True:=trivial
    refine qU 3 ?_
    simp (disch:=omega) only [go_sem,seval,qG,qR,h3,vM hk.1,vN hk.1,h4,qN,qO,h5,jD hk,h6,zU,zO,z0,z1]
    all_goals repeat refine And.intro rfl ?_
    refine kT (fs':=[(2,.t (.int .i64 (n:Nat))),(3,.t (.sl [bsT d0,bsT d1])),(4,.ref 4096 0 0),(8,.ref 4112 0 0),(56,.t (.sl [bsT d0,bsT d1])),(57,.t (.int .i64 2)),(58,.t (.int .i64 0))]) (hs':=[(4112,.live 2 [.agg [.nil,.t (.int .i64 0)]] true true),(4096,.live 2 [.t (xT [b0,b1] u)] true true)]) (qQ.rd id ?_ ?_ rfl) ?_
    ·simp (disch:=omega) only [go_sem,seval,id]
    ·simp (disch:=omega) only [go_sem,seval,id]
    have hE:qFk 0 0 loc n 2 d0.length d1.length=0:=by unfold qFk;rw[if_neg (by omega),if_neg (by omega),if_neg (by omega),if_neg (by omega)]
    refine qU 3 ?_
    simp (disch:=omega) only [go_sem,seval,qG,qY,h3,vM hk.1,vN hk.1,h4,qN,qO,h5,jD hk,h6,zU,zO,z0,z1]
    all_goals repeat refine And.intro rfl ?_
    refine qD 2 (fun k=>match k with | 0=>[(2,.t (.int .i64 (n:Nat))),(3,.t (.sl [bsT d0,bsT d1])),(4,.ref 4096 0 0),(8,.ref 4112 0 0),(14,.ref 73760 0 0),(79,.t (.int .i64 2)),(80,.t (.int .i64 0))] | 1=>[(2,.t (.int .i64 (n:Nat))),(3,.t (.sl [bsT d0,bsT d1])),(4,.ref 4096 0 0),(8,.ref 4112 0 0),(14,.ref 73760 0 0),(79,.t (.int .i64 2)),(80,.t (.int .i64 1))] | _=>[(2,.t (.int .i64 (n:Nat))),(3,.t (.sl [bsT d0,bsT d1])),(4,.ref 4096 0 0),(8,.ref 4112 0 0),(14,.ref 73760 0 0),(79,.t (.int .i64 2)),(80,.t (.int .i64 2))]) (fun k=>match k with | 0=>[(73760,.live 2 [.agg [.sl 73744 0 2,.t (.int .i64 u)]] true true),(73746,.live 1 (((b1).map bsT).map V.t) true false),(73745,.live 1 (((b0).map bsT).map V.t) true false),(73744,.live 1 [.sl 73745 0 0,.sl 73746 0 0] true false),(4112,.live 2 [.agg [.nil,.t (.int .i64 0)]] true true),(4096,.live 2 [.t (xT [b0,b1] u)] true true)] | 1=>[(73760,.live 2 [.agg [.sl 73744 0 2,.t (.int .i64 u)]] true true),(73746,.live 1 (((b1).map bsT).map V.t) true false),(73745,.live 1 (((xS 0 b0 n d0).map bsT).map V.t) true false),(73744,.live 1 [.sl 73745 0 0,.sl 73746 0 0] true false),(4112,.live 2 [.agg [.nil,.t (.int .i64 0)]] true true),(4096,.live 2 [.t (xT [b0,b1] u)] true true)] | _=>[(73760,.live 2 [.agg [.sl 73744 0 2,.t (.int .i64 u)]] true true),(73746,.live 1 (((xS 1 b1 n d1).map bsT).map V.t) true false),(73745,.live 1 (((xS 0 b0 n d0).map bsT).map V.t) true false),(73744,.live 1 [.sl 73745 0 0,.sl 73746 0 0] true false),(4112,.live 2 [.agg [.nil,.t (.int .i64 0)]] true true),(4096,.live 2 [.t (xT [b0,b1] u)] true true)]) ?_ (fun k hk2=>?_)
    ·refine qQ.rd id ?_ ?_ rfl
     all_goals simp (disch:=omega) only [go_sem,seval,id,z0,z1]
    ·rcases (show k=0∨k=1∨k=2 by omega) with rfl | rfl | rfl
     ·have q:=List.take_of_length_le (show (b0.getD n []++d0).length≤(List.getD b0 n []).length+d0.length by rw[List.length_append];exact Nat.le_refl _)
      simp (disch:=omega) only [go_sem,seval,qJ,h3,vM hk.1,vN hk.1,h4,qN,qO,h5,jD hk,h6,zU,zO,z0,z1,qS,q]
      refine qQ.rd id ?_ ?_ rfl
      all_goals simp (disch:=omega) only [go_sem,seval,id,xS,z0,z1]
     ·have q:=List.take_of_length_le (show (b1.getD n []++d1).length≤(List.getD b1 n []).length+d1.length by rw[List.length_append];exact Nat.le_refl _)
      simp (disch:=omega) only [go_sem,seval,qJ,h3,vM hk.1,vN hk.1,h4,qN,qO,h5,jD hk,h6,zU,zO,z0,z1,qS,q]
      refine qQ.rd id ?_ ?_ rfl
      all_goals simp (disch:=omega) only [go_sem,seval,id,xS,z0,z1]
     ·have t0:List.take 0 (xS 0 b0 n d0)=xS 0 b0 n d0:=List.take_of_length_le (by rw[qS,z0];exact Nat.le_refl _)
      have t1:List.take 0 (xS 1 b1 n d1)=xS 1 b1 n d1:=List.take_of_length_le (by rw[qS,z1];exact Nat.le_refl _)
      have y0:xS 0 b0 n d0=[]:=List.eq_nil_of_length_eq_zero (by rw[qS,z0])
      have y1:xS 1 b1 n d1=[]:=List.eq_nil_of_length_eq_zero (by rw[qS,z1])
      simp (disch:=omega) only [go_sem,seval,qJ,qS,t0,t1,z0,z1,hE,qJc,Int.toNat_natCast,List.map_cons,List.map_nil,y0,y1,qO4,qD9,List.getD_cons_zero,List.getD_cons_succ,List.length_cons,List.length_nil]
 ·have zz:True:=trivial
  by_cases p1:0<d0.length
  ·have zz:True:=trivial
   have hE:qFk 0 16 loc n 2 d0.length d1.length=27:=by unfold qFk;rw[if_neg (by omega),if_neg (by omega),if_pos (by omega)]
   refine qU 3 ?_
   simp (disch:=omega) only [go_sem,seval,qG,qR,h3,vM hk.1,vN hk.1,h4,qN,qO,h5,jD hk,h6,zU,zO,z0,z1,hE,List.map_nil,qO4,qD9,List.getD_cons_zero,List.getD_cons_succ,List.length_cons,List.length_nil]
   all_goals repeat refine And.intro rfl ?_
   all_goals rfl
  ·have zz:True:=trivial
   refine qU 3 ?_
   simp (disch:=omega) only [go_sem,seval,qG,qR,h3,vM hk.1,vN hk.1,h4,qN,qO,h5,jD hk,h6,zU,zO,z0,z1]
   all_goals repeat refine And.intro rfl ?_
   refine kT (fs':=[(2,.t (.int .i64 (n:Nat))),(3,.t (.sl [bsT d0,bsT d1])),(4,.ref 4096 0 0),(8,.ref 4112 0 0),(56,.t (.sl [bsT d0,bsT d1])),(57,.t (.int .i64 2)),(58,.t (.int .i64 0))]) (hs':=[(4112,.live 2 [.agg [.nil,.t (.int .i64 0)]] true true),(4096,.live 2 [.t (xT [b0,b1] u)] true true)]) (qQ.rd id ?_ ?_ rfl) ?_
   ·simp (disch:=omega) only [go_sem,seval,id]
   ·simp (disch:=omega) only [go_sem,seval,id]
   by_cases q1:d1.length≠32
   ·have zz:True:=trivial
    have hE:qFk 0 16 loc n 2 d0.length d1.length=24:=by unfold qFk;rw[if_neg (by omega),if_neg (by omega),if_neg (by omega),if_pos (by omega)]
    refine qU 3 ?_
    simp (disch:=omega) only [go_sem,seval,qG,qY,h3,vM hk.1,vN hk.1,h4,qN,qO,h5,jD hk,h6,zU,zO,z0,z1,hE,List.map_nil,qO4,qD9,List.getD_cons_zero,List.getD_cons_succ,List.length_cons,List.length_nil]
    all_goals repeat refine And.intro rfl ?_
    all_goals rfl
   ·have zz:True:=trivial
    have hE:qFk 0 16 loc n 2 d0.length d1.length=0:=by unfold qFk;rw[if_neg (by omega),if_neg (by omega),if_neg (by omega),if_neg (by omega)]
    refine qU 3 ?_
    simp (disch:=omega) only [go_sem,seval,qG,qY,h3,vM hk.1,vN hk.1,h4,qN,qO,h5,jD hk,h6,zU,zO,z0,z1]
    all_goals repeat refine And.intro rfl ?_
    refine qD 2 (fun k=>match k with | 0=>[(2,.t (.int .i64 (n:Nat))),(3,.t (.sl [bsT d0,bsT d1])),(4,.ref 4096 0 0),(8,.ref 4112 0 0),(14,.ref 73760 0 0),(79,.t (.int .i64 2)),(80,.t (.int .i64 0))] | 1=>[(2,.t (.int .i64 (n:Nat))),(3,.t (.sl [bsT d0,bsT d1])),(4,.ref 4096 0 0),(8,.ref 4112 0 0),(14,.ref 73760 0 0),(79,.t (.int .i64 2)),(80,.t (.int .i64 1))] | _=>[(2,.t (.int .i64 (n:Nat))),(3,.t (.sl [bsT d0,bsT d1])),(4,.ref 4096 0 0),(8,.ref 4112 0 0),(14,.ref 73760 0 0),(79,.t (.int .i64 2)),(80,.t (.int .i64 2))]) (fun k=>match k with | 0=>[(73760,.live 2 [.agg [.sl 73744 0 2,.t (.int .i64 u)]] true true),(73746,.live 1 (((b1).map bsT).map V.t) true false),(73745,.live 1 (((b0).map bsT).map V.t) true false),(73744,.live 1 [.sl 73745 0 0,.sl 73746 0 16] true false),(4112,.live 2 [.agg [.nil,.t (.int .i64 0)]] true true),(4096,.live 2 [.t (xT [b0,b1] u)] true true)] | 1=>[(73760,.live 2 [.agg [.sl 73744 0 2,.t (.int .i64 u)]] true true),(73746,.live 1 (((b1).map bsT).map V.t) true false),(73745,.live 1 (((xS 0 b0 n d0).map bsT).map V.t) true false),(73744,.live 1 [.sl 73745 0 0,.sl 73746 0 16] true false),(4112,.live 2 [.agg [.nil,.t (.int .i64 0)]] true true),(4096,.live 2 [.t (xT [b0,b1] u)] true true)] | _=>[(73760,.live 2 [.agg [.sl 73744 0 2,.t (.int .i64 u)]] true true),(73746,.live 1 (((xS 1 b1 n d1).map bsT).map V.t) true false),(73745,.live 1 (((xS 0 b0 n d0).map bsT).map V.t) true false),(73744,.live 1 [.sl 73745 0 0,.sl 73746 0 16] true false),(4112,.live 2 [.agg [.nil,.t (.int .i64 0)]] true true),(4096,.live 2 [.t (xT [b0,b1] u)] true true)]) ?_ (fun k hk2=>?_)
    ·refine qQ.rd id ?_ ?_ rfl
     all_goals simp (disch:=omega) only [go_sem,seval,id,z0,z1]
    ·rcases (show k=0∨k=1∨k=2 by omega) with rfl | rfl | rfl
     ·have q:=List.take_of_length_le (show (b0.getD n []++d0).length≤(List.getD b0 n []).length+d0.length by rw[List.length_append];exact Nat.le_refl _)
      simp (disch:=omega) only [go_sem,seval,qJ,h3,vM hk.1,vN hk.1,h4,qN,qO,h5,jD hk,h6,zU,zO,z0,z1,qS,q]
      refine qQ.rd id ?_ ?_ rfl
      all_goals simp (disch:=omega) only [go_sem,seval,id,xS,z0,z1]
     ·have q:=List.take_of_length_le (show (b1.getD n []++d1).length≤(List.getD b1 n []).length+d1.length by rw[List.length_append];exact Nat.le_refl _)
      simp (config := { maxSteps:=2000000 }) (disch:=(first | omega | (simp only[qBq,qBp];omega))) only [go_sem,seval,qJ,h3,vM hk.1,vN hk.1,h4,qN,qO,h5,jD hk,h6,zU,zO,z0,z1,qS,q]
      repeat refine And.intro rfl ?_
      refine qQ.cv (hv:=[]) [94544] id ?_ rfl
      simp (config := { maxSteps:=2000000 }) (disch:=(first | omega | (simp only[qBq,qBp];omega))) only [go_sem,seval,id,xS,z0,z1,qC4,kZ,zHq,zHr,vA,qH]
      all_goals rfl
     ·have t0:List.take 0 (xS 0 b0 n d0)=xS 0 b0 n d0:=List.take_of_length_le (by rw[qS,z0];exact Nat.le_refl _)
      have t1:List.take 16 (xS 1 b1 n d1)=xS 1 b1 n d1:=List.take_of_length_le (by rw[qS,z1];exact Nat.le_refl _)
      have y0:xS 0 b0 n d0=[]:=List.eq_nil_of_length_eq_zero (by rw[qS,z0])
      simp (disch:=omega) only [go_sem,seval,qJ,qS,t0,t1,z0,z1,hE,qJc,Int.toNat_natCast,List.map_cons,List.map_nil,y0,qO4,qD9,List.getD_cons_zero,List.getD_cons_succ,List.length_cons,List.length_nil]
 ·have zz:True:=trivial
  by_cases p1:0<d1.length
  ·have zz:True:=trivial
   have hE:qFk 16 0 loc n 2 d0.length d1.length=27:=by unfold qFk;rw[if_neg (by omega),if_neg (by omega),if_pos (by omega)]
   refine qU 3 ?_
   simp (disch:=omega) only [go_sem,seval,qG,qR,h3,vM hk.1,vN hk.1,h4,qN,qO,h5,jD hk,h6,zU,zO,z0,z1,hE,List.map_nil,qO4,qD9,List.getD_cons_zero,List.getD_cons_succ,List.length_cons,List.length_nil]
   all_goals repeat refine And.intro rfl ?_
   all_goals rfl
  ·have zz:True:=trivial
   refine qU 3 ?_
   simp (disch:=omega) only [go_sem,seval,qG,qR,h3,vM hk.1,vN hk.1,h4,qN,qO,h5,jD hk,h6,zU,zO,z0,z1]
   all_goals repeat refine And.intro rfl ?_
   refine kT (fs':=[(2,.t (.int .i64 (n:Nat))),(3,.t (.sl [bsT d0,bsT d1])),(4,.ref 4096 0 0),(8,.ref 4112 0 0),(56,.t (.sl [bsT d0,bsT d1])),(57,.t (.int .i64 2)),(58,.t (.int .i64 0))]) (hs':=[(4112,.live 2 [.agg [.nil,.t (.int .i64 0)]] true true),(4096,.live 2 [.t (xT [b0,b1] u)] true true)]) (qQ.rd id ?_ ?_ rfl) ?_
   ·simp (disch:=omega) only [go_sem,seval,id]
   ·simp (disch:=omega) only [go_sem,seval,id]
   by_cases q1:d0.length≠20
   ·have zz:True:=trivial
    have hE:qFk 16 0 loc n 2 d0.length d1.length=24:=by unfold qFk;rw[if_neg (by omega),if_neg (by omega),if_neg (by omega),if_pos (by omega)]
    refine qU 3 ?_
    simp (disch:=omega) only [go_sem,seval,qG,qY,h3,vM hk.1,vN hk.1,h4,qN,qO,h5,jD hk,h6,zU,zO,z0,z1,hE,List.map_nil,qO4,qD9,List.getD_cons_zero,List.getD_cons_succ,List.length_cons,List.length_nil]
    all_goals repeat refine And.intro rfl ?_
    all_goals rfl
   ·have zz:True:=trivial
    have hE:qFk 16 0 loc n 2 d0.length d1.length=0:=by unfold qFk;rw[if_neg (by omega),if_neg (by omega),if_neg (by omega),if_neg (by omega)]
    refine qU 3 ?_
    simp (disch:=omega) only [go_sem,seval,qG,qY,h3,vM hk.1,vN hk.1,h4,qN,qO,h5,jD hk,h6,zU,zO,z0,z1]
    all_goals repeat refine And.intro rfl ?_
    refine qD 2 (fun k=>match k with | 0=>[(2,.t (.int .i64 (n:Nat))),(3,.t (.sl [bsT d0,bsT d1])),(4,.ref 4096 0 0),(8,.ref 4112 0 0),(14,.ref 73760 0 0),(79,.t (.int .i64 2)),(80,.t (.int .i64 0))] | 1=>[(2,.t (.int .i64 (n:Nat))),(3,.t (.sl [bsT d0,bsT d1])),(4,.ref 4096 0 0),(8,.ref 4112 0 0),(14,.ref 73760 0 0),(79,.t (.int .i64 2)),(80,.t (.int .i64 1))] | _=>[(2,.t (.int .i64 (n:Nat))),(3,.t (.sl [bsT d0,bsT d1])),(4,.ref 4096 0 0),(8,.ref 4112 0 0),(14,.ref 73760 0 0),(79,.t (.int .i64 2)),(80,.t (.int .i64 2))]) (fun k=>match k with | 0=>[(73760,.live 2 [.agg [.sl 73744 0 2,.t (.int .i64 u)]] true true),(73746,.live 1 (((b1).map bsT).map V.t) true false),(73745,.live 1 (((b0).map bsT).map V.t) true false),(73744,.live 1 [.sl 73745 0 16,.sl 73746 0 0] true false),(4112,.live 2 [.agg [.nil,.t (.int .i64 0)]] true true),(4096,.live 2 [.t (xT [b0,b1] u)] true true)] | 1=>[(73760,.live 2 [.agg [.sl 73744 0 2,.t (.int .i64 u)]] true true),(73746,.live 1 (((b1).map bsT).map V.t) true false),(73745,.live 1 (((xS 0 b0 n d0).map bsT).map V.t) true false),(73744,.live 1 [.sl 73745 0 16,.sl 73746 0 0] true false),(4112,.live 2 [.agg [.nil,.t (.int .i64 0)]] true true),(4096,.live 2 [.t (xT [b0,b1] u)] true true)] | _=>[(73760,.live 2 [.agg [.sl 73744 0 2,.t (.int .i64 u)]] true true),(73746,.live 1 (((xS 1 b1 n d1).map bsT).map V.t) true false),(73745,.live 1 (((xS 0 b0 n d0).map bsT).map V.t) true false),(73744,.live 1 [.sl 73745 0 16,.sl 73746 0 0] true false),(4112,.live 2 [.agg [.nil,.t (.int .i64 0)]] true true),(4096,.live 2 [.t (xT [b0,b1] u)] true true)]) ?_ (fun k hk2=>?_)
    ·refine qQ.rd id ?_ ?_ rfl
     all_goals simp (disch:=omega) only [go_sem,seval,id,z0,z1]
    ·rcases (show k=0∨k=1∨k=2 by omega) with rfl | rfl | rfl
     ·have q:=List.take_of_length_le (show (b0.getD n []++d0).length≤(List.getD b0 n []).length+d0.length by rw[List.length_append];exact Nat.le_refl _)
      simp (config := { maxSteps:=2000000 }) (disch:=(first | omega | (simp only[qBq,qBp];omega))) only [go_sem,seval,qJ,h3,vM hk.1,vN hk.1,h4,qN,qO,h5,jD hk,h6,zU,zO,z0,z1,qS,q]
      repeat refine And.intro rfl ?_
      refine qQ.cv (hv:=[]) [94544] id ?_ rfl
      simp (config := { maxSteps:=2000000 }) (disch:=(first | omega | (simp only[qBq,qBp];omega))) only [go_sem,seval,id,xS,z0,z1,qC4,kZ,zHq,zHr,vA,qH]
      all_goals rfl
     ·have q:=List.take_of_length_le (show (b1.getD n []++d1).length≤(List.getD b1 n []).length+d1.length by rw[List.length_append];exact Nat.le_refl _)
      simp (disch:=omega) only [go_sem,seval,qJ,h3,vM hk.1,vN hk.1,h4,qN,qO,h5,jD hk,h6,zU,zO,z0,z1,qS,q]
      refine qQ.rd id ?_ ?_ rfl
      all_goals simp (disch:=omega) only [go_sem,seval,id,xS,z0,z1]
     ·have t0:List.take 16 (xS 0 b0 n d0)=xS 0 b0 n d0:=List.take_of_length_le (by rw[qS,z0];exact Nat.le_refl _)
      have t1:List.take 0 (xS 1 b1 n d1)=xS 1 b1 n d1:=List.take_of_length_le (by rw[qS,z1];exact Nat.le_refl _)
      have y1:xS 1 b1 n d1=[]:=List.eq_nil_of_length_eq_zero (by rw[qS,z1])
      simp (disch:=omega) only [go_sem,seval,qJ,qS,t0,t1,z0,z1,hE,qJc,Int.toNat_natCast,List.map_cons,List.map_nil,y1,qO4,qD9,List.getD_cons_zero,List.getD_cons_succ,List.length_cons,List.length_nil]
 ·have zz:True:=trivial
  refine qU 3 ?_
  simp (disch:=omega) only [go_sem,seval,qG,qR,h3,vM hk.1,vN hk.1,h4,qN,qO,h5,jD hk,h6,zU,zO,z0,z1]
  all_goals repeat refine And.intro rfl ?_
  refine kT (fs':=[(2,.t (.int .i64 (n:Nat))),(3,.t (.sl [bsT d0,bsT d1])),(4,.ref 4096 0 0),(8,.ref 4112 0 0),(56,.t (.sl [bsT d0,bsT d1])),(57,.t (.int .i64 2)),(58,.t (.int .i64 0))]) (hs':=[(4112,.live 2 [.agg [.nil,.t (.int .i64 0)]] true true),(4096,.live 2 [.t (xT [b0,b1] u)] true true)]) (qQ.rd id ?_ ?_ rfl) ?_
  ·simp (disch:=omega) only [go_sem,seval,id]
  ·simp (disch:=omega) only [go_sem,seval,id]
  by_cases q2:d0.length≠20
  ·have zz:True:=trivial
   have hE:qFk 16 16 loc n 2 d0.length d1.length=24:=by unfold qFk;rw[if_neg (by omega),if_neg (by omega),if_neg (by omega),if_pos (by omega)]
   refine qU 3 ?_
   simp (disch:=omega) only [go_sem,seval,qG,qY,h3,vM hk.1,vN hk.1,h4,qN,qO,h5,jD hk,h6,zU,zO,z0,z1,hE,List.map_nil,qO4,qD9,List.getD_cons_zero,List.getD_cons_succ,List.length_cons,List.length_nil]
   all_goals repeat refine And.intro rfl ?_
   all_goals rfl
  ·have zz:True:=trivial
   by_cases q1:d1.length≠32
   ·have zz:True:=trivial
    have hE:qFk 16 16 loc n 2 d0.length d1.length=24:=by unfold qFk;rw[if_neg (by omega),if_neg (by omega),if_neg (by omega),if_pos (by omega)]
    refine qU 3 ?_
    simp (disch:=omega) only [go_sem,seval,qG,qY,h3,vM hk.1,vN hk.1,h4,qN,qO,h5,jD hk,h6,zU,zO,z0,z1,hE,List.map_nil,qO4,qD9,List.getD_cons_zero,List.getD_cons_succ,List.length_cons,List.length_nil]
    all_goals repeat refine And.intro rfl ?_
    all_goals rfl
   ·have zz:True:=trivial
    have hE:qFk 16 16 loc n 2 d0.length d1.length=0:=by unfold qFk;rw[if_neg (by omega),if_neg (by omega),if_neg (by omega),if_neg (by omega)]
    refine qU 3 ?_
    simp (disch:=omega) only [go_sem,seval,qG,qY,h3,vM hk.1,vN hk.1,h4,qN,qO,h5,jD hk,h6,zU,zO,z0,z1]
    all_goals repeat refine And.intro rfl ?_
    refine qD 2 (fun k=>match k with | 0=>[(2,.t (.int .i64 (n:Nat))),(3,.t (.sl [bsT d0,bsT d1])),(4,.ref 4096 0 0),(8,.ref 4112 0 0),(14,.ref 73760 0 0),(79,.t (.int .i64 2)),(80,.t (.int .i64 0))] | 1=>[(2,.t (.int .i64 (n:Nat))),(3,.t (.sl [bsT d0,bsT d1])),(4,.ref 4096 0 0),(8,.ref 4112 0 0),(14,.ref 73760 0 0),(79,.t (.int .i64 2)),(80,.t (.int .i64 1))] | _=>[(2,.t (.int .i64 (n:Nat))),(3,.t (.sl [bsT d0,bsT d1])),(4,.ref 4096 0 0),(8,.ref 4112 0 0),(14,.ref 73760 0 0),(79,.t (.int .i64 2)),(80,.t (.int .i64 2))]) (fun k=>match k with | 0=>[(73760,.live 2 [.agg [.sl 73744 0 2,.t (.int .i64 u)]] true true),(73746,.live 1 (((b1).map bsT).map V.t) true false),(73745,.live 1 (((b0).map bsT).map V.t) true false),(73744,.live 1 [.sl 73745 0 16,.sl 73746 0 16] true false),(4112,.live 2 [.agg [.nil,.t (.int .i64 0)]] true true),(4096,.live 2 [.t (xT [b0,b1] u)] true true)] | 1=>[(73760,.live 2 [.agg [.sl 73744 0 2,.t (.int .i64 u)]] true true),(73746,.live 1 (((b1).map bsT).map V.t) true false),(73745,.live 1 (((xS 0 b0 n d0).map bsT).map V.t) true false),(73744,.live 1 [.sl 73745 0 16,.sl 73746 0 16] true false),(4112,.live 2 [.agg [.nil,.t (.int .i64 0)]] true true),(4096,.live 2 [.t (xT [b0,b1] u)] true true)] | _=>[(73760,.live 2 [.agg [.sl 73744 0 2,.t (.int .i64 u)]] true true),(73746,.live 1 (((xS 1 b1 n d1).map bsT).map V.t) true false),(73745,.live 1 (((xS 0 b0 n d0).map bsT).map V.t) true false),(73744,.live 1 [.sl 73745 0 16,.sl 73746 0 16] true false),(4112,.live 2 [.agg [.nil,.t (.int .i64 0)]] true true),(4096,.live 2 [.t (xT [b0,b1] u)] true true)]) ?_ (fun k hk2=>?_)
    ·refine qQ.rd id ?_ ?_ rfl
     all_goals simp (disch:=omega) only [go_sem,seval,id,z0,z1]
    ·rcases (show k=0∨k=1∨k=2 by omega) with rfl | rfl | rfl
     ·have q:=List.take_of_length_le (show (b0.getD n []++d0).length≤(List.getD b0 n []).length+d0.length by rw[List.length_append];exact Nat.le_refl _)
      simp (config := { maxSteps:=2000000 }) (disch:=(first | omega | (simp only[qBq,qBp];omega))) only [go_sem,seval,qJ,h3,vM hk.1,vN hk.1,h4,qN,qO,h5,jD hk,h6,zU,zO,z0,z1,qS,q]
      repeat refine And.intro rfl ?_
      refine qQ.cv (hv:=[]) [94544] id ?_ rfl
      simp (config := { maxSteps:=2000000 }) (disch:=(first | omega | (simp only[qBq,qBp];omega))) only [go_sem,seval,id,xS,z0,z1,qC4,kZ,zHq,zHr,vA,qH]
      all_goals rfl
     ·have q:=List.take_of_length_le (show (b1.getD n []++d1).length≤(List.getD b1 n []).length+d1.length by rw[List.length_append];exact Nat.le_refl _)
      simp (config := { maxSteps:=2000000 }) (disch:=(first | omega | (simp only[qBq,qBp];omega))) only [go_sem,seval,qJ,h3,vM hk.1,vN hk.1,h4,qN,qO,h5,jD hk,h6,zU,zO,z0,z1,qS,q]
      repeat refine And.intro rfl ?_
      refine qQ.cv (hv:=[]) [94544] id ?_ rfl
      simp (config := { maxSteps:=2000000 }) (disch:=(first | omega | (simp only[qBq,qBp];omega))) only [go_sem,seval,id,xS,z0,z1,qC4,kZ,zHq,zHr,vA,qH]
      all_goals rfl
     ·have t0:List.take 16 (xS 0 b0 n d0)=xS 0 b0 n d0:=List.take_of_length_le (by rw[qS,z0];exact Nat.le_refl _)
      have t1:List.take 16 (xS 1 b1 n d1)=xS 1 b1 n d1:=List.take_of_length_le (by rw[qS,z1];exact Nat.le_refl _)
      simp (disch:=omega) only [go_sem,seval,qJ,qS,t0,t1,z0,z1,hE,qJc,Int.toNat_natCast,List.map_cons,List.map_nil,qO4,qD9,List.getD_cons_zero,List.getD_cons_succ,List.length_cons,List.length_nil]
theorem qEb (tab:Tab) (gl:Gl) (n1 n2 n3 n4 n5 n6:Nat) (h1:tab.look n1=some wL.fs) (h2:tab.look n2=some qB2.fs) (bk:List jI) (u loc i:Int) (ds:List (List UInt8)) (hd:ds.length<1000000000)
  (hb:(loc<0∨4<loc∨i<0∨16≤i∨ds.length≠2)∨loc<qBc i false) :
  (qZ n1 n2 n3 n4 n5 n6).wp tab gl (qE 0 [.t (xT bk u),.t (.int .i64 loc),.t (.int .i64 i),.t (.sl (ds.map bsT))]) (qE 0 []) (jK [(8,some (2,true)),(9,none)] 0 (fun r o=>r = .tup [.t (xT [] 0),.t (.int .i64 (if loc<0∨4<loc∨i<0∨16≤i∨ds.length≠2 then 1 else 13))]∧o=[])):=by
 by_cases a1:loc<0
 ·simp (disch:=omega) only [go_sem,seval,qZ,a1,List.map_nil]
 ·by_cases a2:4<loc
  ·simp (disch:=omega) only [go_sem,seval,qZ,a1,a2,List.map_nil]
  ·by_cases a3:i<0
   ·simp (disch:=omega) only [go_sem,seval,qZ,a1,a2,a3,h1,zFs,List.map_nil]
   ·by_cases a4:16≤i
    ·simp (disch:=omega) only [go_sem,seval,qZ,a1,a2,a3,a4,h1,zFs,List.map_nil]
    ·by_cases a5:ds.length=2
     ·have a6:loc<qBc i false:=by rcases hb with h | h;(omega);(exact h)
      simp (disch:=omega) only [go_sem,seval,qZ,a1,a2,a3,a4,a5,a6,h1,qRw,h2,qRx,List.map_nil,ne_eq]
     ·simp (disch:=omega) only [go_sem,seval,qZ,a1,a2,a3,a4,a5,h1,qRw,List.map_nil,ne_eq]
theorem qHa (tab:Tab) (gl:Gl) (n1 n2 n3 n4 n5 n6:Nat) (h1:tab.look n1=some wL.fs) (h2:tab.look n2=some qB2.fs) (h3:tab.look n3=some qGq.fs) (h5:tab.look n5=some wE.fs)
  (u loc:Int) (n:Nat) (d0 d1:List UInt8) (hu:0≤u∧u<1000000000) (hd:d0.length<9223372036854775808∧d1.length<9223372036854775808) (e1 : ¬(loc<0∨4<loc∨16≤n)) (e2 : ¬ loc<qBc n false) :
  (qZ n1 n2 n3 n4 n5 n6).wp tab gl (qE 0 [.t (xT [] u),.t (.int .i64 loc),.t (.int .i64 n),.t (.sl [bsT d0,bsT d1])]) (qE 0 []) (jK [(8,some (2,true)),(9,none)] 0 (fun r o=>r=qO4 [] u loc n [d0,d1]∧o=[])):=by
 have c0:=zN8 (u:=u) (a:=0) (by omega)
 have c1:=zN8 (u:=u) (a:=1) (by omega)
 rw[show ((0:Nat):Int)=0 from rfl] at c0
 rw[show ((1:Nat):Int)=1 from rfl] at c1
 simp (disch:=omega) only [go_sem,seval,qZ,h1,qRw,h2,qRx,List.map_nil,List.map_cons]
 refine kT (fs':=[(2,.t (.int .i64 (n:Nat))),(3,.t (.sl [bsT d0,bsT d1])),(4,.ref 4096 0 0),(8,.ref 4112 0 0),(38,.t (.sl [bsT d0,bsT d1])),(39,.t (.int .i64 2)),(40,.t (.int .i64 0))]) (hs':=[(4112,.live 2 [.agg [.nil,.t (.int .i64 0)]] true true),(4096,.live 2 [.t (xT [] u)] true true)]) (qQ.rd id ?_ ?_ rfl) ?_
 ·simp (disch:=omega) only [go_sem,seval,id]
 ·simp (disch:=omega) only [go_sem,seval,id,List.map_nil]
 by_cases p:0<d0.length∨0<d1.length
 ·have hE:qFk 0 0 loc n 2 d0.length d1.length=27:=by unfold qFk;rw[if_neg (by omega),if_neg (by omega),if_pos (by omega)]
  by_cases p0:0<d0.length
  ·refine qU 3 ?_
   simp (disch:=omega) only [go_sem,seval,qG,qR,h3,c0,c1,hE,List.map_nil,qO4,qD9,List.getD_nil,List.getD_cons_zero,List.getD_cons_succ,List.length_cons,List.length_nil]
  ·refine qU 3 ?_
   simp (disch:=omega) only [go_sem,seval,qG,qR,h3,c0,c1,hE,List.map_nil,qO4,qD9,List.getD_nil,List.getD_cons_zero,List.getD_cons_succ,List.length_cons,List.length_nil]
 ·have hE:qFk 0 0 loc n 2 d0.length d1.length=0:=by unfold qFk;rw[if_neg (by omega),if_neg (by omega),if_neg (by omega),if_neg (by omega)]
  refine qU 3 ?_
  simp (disch:=omega) only [go_sem,seval,qG,qR,h3,c0,c1,List.map_nil]
  refine qU 3 ?_
  simp (disch:=omega) only [go_sem,seval,qG,qY,h3,c0,c1,h5,zMt,List.map_nil]
  refine qU 1 ?_
  simp (disch:=omega) only [go_sem,seval,qG,qJ,hE,List.map_nil,qO4,qD9,qJc,List.getD_nil,List.getD_cons_zero,List.getD_cons_succ,List.length_cons,List.length_nil]
def RV (bk:List jI):Prop:=RK bk ∧ ∀ b∈bk,∀ x∈b,x.length≤64
theorem RV.rm {bk:List jI} (h:RV bk):RM bk:=by
 refine⟨h.1,fun b hb=>⟨?_,fun x hx=>Nat.lt_of_le_of_lt (h.2 b hb x hx) (by omega)⟩⟩
 have:qTj b:=by
  obtain⟨hk,_⟩:=h
  cases hk with
  | nil=>simp at hb
  | two b0 b1 h0 h1=>
   simp only[List.mem_cons,List.not_mem_nil,or_false] at hb
   rcases hb with rfl | rfl
   ·exact h0
   ·exact h1
 rcases this with h | h<;>omega
theorem qRv {b:jI} {m n:Nat} (h : ∀ x∈b,x.length≤m):(b.getD n []).length≤m:=by
 by_cases hi:n<List.length b
 ·have:b.getD n []=b[n]:=by simp[List.getD,hi]
  rw[this];exact h _ (List.getElem_mem hi)
 ·simp[List.getD,List.getElem?_eq_none (Nat.le_of_not_lt hi)]
abbrev zTz:=List jI×Int×Int×Int×List (List UInt8)
def zUr (x:zTz):Prop:=RV x.1∧(0≤x.2.1∧x.2.1<1000000000)∧x.2.2.2.2.length<1000000000 ∧ ∀ d∈x.2.2.2.2,d.length<9223372036854775808
def qCv:Ct where
 α:=zTz
 as x:=[.t (xT x.1 x.2.1),.t (.int .i64 x.2.2.1),.t (.int .i64 x.2.2.2.1),.t (.sl (x.2.2.2.2.map bsT))]
 ins _:=[]
 pre:=zUr
 r x:=qO4 x.1 x.2.1 x.2.2.1 x.2.2.2.1 x.2.2.2.2
 outs _:=[]
 inj:=by
  rintro⟨a,u,l,i,ds⟩ ⟨b,v,l',i',ds'⟩ h _
  simp only[List.cons.injEq,V.t.injEq,T.int.injEq,T.sl.injEq,true_and,and_true,qCz] at h
  obtain⟨h1,rfl,rfl,rfl⟩:=h
  obtain⟨rfl,rfl⟩:=qIh h1
  exact⟨rfl,rfl⟩
theorem zJt {bk:List jI} {u loc i:Int} {ds:List (List UInt8)} (hb:(loc<0∨4<loc∨i<0∨16≤i∨ds.length≠2)∨loc<qBc i false) :
  qO4 bk u loc i ds = .tup [.t (xT [] 0),.t (.int .i64 (if loc<0∨4<loc∨i<0∨16≤i∨ds.length≠2 then 1 else 13))]:=by
 have he:qFk (bk.getD 0 []).length (bk.getD 1 []).length loc i ds.length (ds.getD 0 []).length (ds.getD 1 []).length=if loc<0∨4<loc∨i<0∨16≤i∨ds.length≠2 then 1 else 13:=by
  unfold qFk
  by_cases h:loc<0∨4<loc∨i<0∨16≤i∨ds.length≠2
  ·rw[if_pos h,if_pos h]
  ·have h2:loc<qBc i false:=by rcases hb with h' | h';exact absurd h' h;exact h'
   rw[if_neg h,if_neg h,if_pos h2]
 unfold qO4
 rw[he]
 split
 ·split at *<;>simp_all
 ·rfl
theorem qI1 (tab:Tab) (gl:Gl) (n1 n2 n3 n4 n5 n6:Nat) (h1:tab.look n1=some wL.fs) (h2:tab.look n2=some qB2.fs) (h3:tab.look n3=some qGq.fs) (h4:tab.look n4=some qBb.fs) (h5:tab.look n5=some wE.fs) (h6:tab.look n6=some qAe.fs) (x:qCv.α) (hx:qCv.pre x) :
  (qZ n1 n2 n3 n4 n5 n6).wp tab gl (qE 0 (qCv.as x)) (qE 0 (qCv.ins x)) (jK [(8,some (2,true)),(9,none)] (qCv.ins x).length (fun r o=>r=qCv.r x∧o=qCv.outs x)):=by
 obtain⟨bk,u,loc,i,ds⟩:=x
 obtain⟨hv,hu,hd,hd2⟩:=hx
 simp only[qCv] at *
 by_cases hb:(loc<0∨4<loc∨i<0∨16≤i∨ds.length≠2)∨loc<qBc i false
 ·rw[zJt hb]
  exact qEb tab gl n1 n2 n3 n4 n5 n6 h1 h2 bk u loc i ds hd hb
 ·obtain⟨n,rfl⟩:=Int.eq_ofNat_of_zero_le (show 0≤i by omega)
  match ds,hd2,hb with
  | [d0,d1],hd2,hb=>
   have m0:=hd2 d0 (by simp)
   have m1:=hd2 d1 (by simp)
   have e1 : ¬(loc<0∨4<loc∨16≤n):=by omega
   have e2 : ¬ loc<qBc n false:=by omega
   have hm:=hv.rm
   obtain⟨hk,hl⟩:=hv
   cases hk with
   | nil=>exact qHa tab gl n1 n2 n3 n4 n5 n6 h1 h2 h3 h5 u loc n d0 d1 hu ⟨m0,m1⟩ e1 e2
   | two b0 b1 g0 g1=>exact qHb tab gl n1 n2 n3 n4 n5 n6 h1 h2 h3 h4 h5 h6 b0 b1 u loc n d0 d1 hu hm (qRv (hl b0 (by simp))) (qRv (hl b1 (by simp))) ⟨m0,m1⟩ e1 e2
  | [],_,hb=>simp at hb
  | [_],_,hb=>simp at hb
  | _::_::_::_,_,hb=>simp at hb
theorem RM.bank {bk:List jI} (h:RM bk) (a:Nat):zTs (bk.getD a []):=by
 by_cases ha:a<bk.length
 ·have e:bk.getD a []=bk[a]:=by simp[List.getD,ha]
  rw[e];exact h.2 _ (List.getElem_mem ha)
 ·have e:bk.getD a []=[]:=by simp[List.getD,List.getElem?_eq_none (Nat.le_of_not_lt ha)]
  rw[e];exact⟨by simp,by simp⟩
def qCw:Ct where
 α:=Int
 as s:=[.t (.int .i64 s)]
 ins _:=[]
 pre _:=True
 r s:=twR (qBr s) 0
 outs s:=twO (qBr s)
 inj:=by
  rintro a b h _
  simp only[List.cons.injEq,V.t.injEq,T.int.injEq,true_and,and_true] at h
  subst h
  exact⟨rfl,rfl⟩
theorem zF7 {a:Nat} (ha:a<2):qTj (qFp a):= .inr qX
theorem zF6 {a:Nat} (ha:a<2) : ∀ x∈qFp a,x.length≤64:=by
 intro x hx
 simp only[qFp,List.mem_map,List.mem_range] at hx
 obtain⟨i,_,rfl⟩:=hx
 simp only[List.length_replicate]
 have:a=0∨a=1:=by omega
 rcases this with rfl | rfl<;>decide
theorem zKy {s:Int}:RV (qBr s):=by
 unfold qBr
 split
 ·exact⟨.nil,by simp⟩
 ·refine⟨.two _ _ ?_ ?_,?_⟩
  ·split
   ·exact zF7 (by omega)
   ·exact .inl rfl
  ·split
   ·exact zF7 (by omega)
   ·exact .inl rfl
  ·intro b hb
   simp only[List.mem_cons,List.not_mem_nil,or_false] at hb
   rcases hb with rfl | rfl
   ·split
    ·exact zF6 (by omega)
    ·simp
   ·split
    ·exact zF6 (by omega)
    ·simp
def qFh:Ct where
 α:=Unit
 as _:=[]
 ins _:=[]
 pre _:=True
 r _:= .t (.bool true)
 outs _:=[]
 inj:=by rintro a b h _;exact⟨rfl,rfl⟩
theorem qHx:qFh.fs [] []=some (.t (.bool true),[]):=qFh.eq () trivial
end Go.Eng
end
section
set_option maxRecDepth 20000
namespace Go.Eng
theorem qHe (tab:Tab) (gl:Gl) (n1 n2:Nat) (h1:tab.look n1=some qCi.fs) (h2:tab.look n2=some qGu.fs) (x:(vP 5 qDc).α) (hx:(vP 5 qDc).pre x) :
  (wM n1 n2).wp tab gl (qE 0 ((vP 5 qDc).as x)) (qE 0 ((vP 5 qDc).ins x)) (jK [] ((vP 5 qDc).ins x).length (fun r o=>r=(vP 5 qDc).r x∧o=(vP 5 qDc).outs x)):=by
 obtain⟨hs,bs⟩:=x
 obtain⟨hb,hh⟩:=hx
 match hs,hh with
 | [x0,x1,x2,x3,x4],_=>exact qIv tab gl n1 n2 h1 h2 bs x0 x1 x2 x3 x4 hb
theorem qHf (tab:Tab) (gl:Gl) (x:vD.α) (hx:vD.pre x) :
  yC.wp tab gl (qE 0 (vD.as x)) (qE 0 (vD.ins x)) (jK [(2,none)] (vD.ins x).length (fun r o=>r=vD.r x∧o=vD.outs x)):=by
 obtain⟨bk,u⟩:=x
 have hx':RK bk:=hx
 clear hx
 cases hx' with
 | nil=>exact qHc tab gl u
 | two b0 b1 h0 h1=>exact qHd tab gl b0 b1 (by rcases h0 with h | h<;>omega) (by rcases h1 with h | h<;>omega) u
theorem qJ1 (tab:Tab) (gl:Gl) (x:wE.α) (hx:wE.pre x) :
  yS.wp tab gl (qE 0 (wE.as x)) (qE 0 (wE.ins x)) (qAg [] [(2,some (2,true))] (wE.ins x).length (fun r o=>r=wE.r x∧o=wE.outs x)):=by
 obtain⟨bk,u⟩:=x
 obtain⟨hk,hm⟩:=hx
 have hk':RK bk:=hk
 clear hk
 cases hk' with
 | nil=>exact qJx tab gl u
 | two b0 b1 h0 h1=>exact qJy tab gl b0 b1 u (hm b0 (.head _)) (hm b1 (.tail _ (.head _)))
theorem qLf (tab:Tab) (gl:Gl) (n1 n2:Nat) (h1:tab.look n1=some qBb.fs) (h2:tab.look n2=some qEu.fs) (x:qCw.α) :
  (jJ n1 n2).wp tab gl (qE 0 (qCw.as x)) (qE 0 (qCw.ins x)) (qAg [] [(2,some (2,true))] (qCw.ins x).length (fun r o=>r=qCw.r x∧o=qCw.outs x)):=by
 have x':Int:=x
 by_cases h:(show Int from x)%4=0
 ·have:=qLc tab gl n1 n2 x h
  show (jJ n1 n2).wp tab gl (qE 0 [.t (.int .i64 x)]) (qE 0 []) (qAg [] [(2,some (2,true))] 0 (fun r o=>r=twR (qBr x) 0∧o=twO (qBr x)))
  have e:qBr x=[]:=if_pos h
  rw[e];exact this
 ·exact qO0 tab gl n1 n2 h1 h2 x h
end Go.Eng
end
section
set_option maxRecDepth 20000
set_option maxHeartbeats 16000000
namespace Go.Eng
def stN (x:List UInt8) (b:jI):Nat→jI
 | 0=>b
 | k+1=>(stN x b k).set (12+k) x
theorem qQ0 {x:List UInt8} {b:jI} {k:Nat}:List.length (stN x b k)=List.length b:=by
 induction k with
 | zero=>rfl
 | succ k ih=>simp only[stN,List.length_set,ih]
def zWm (bk:List jI):List jI:=match bk with
 | [b0,b1]=>[stN (List.replicate 20 255) b0 4,stN (List.replicate 32 255) b1 4]
 | bk=>bk
end Go.Eng
end
section
set_option maxRecDepth 20000
set_option maxHeartbeats 16000000
namespace Go.Eng
theorem RV.of2 {b0 b1:jI} (h0:qTj b0) (h1:qTj b1) (m0 : ∀ x∈b0,x.length≤64) (m1 : ∀ x∈b1,x.length≤64):RV [b0,b1]:=by
 refine⟨.two _ _ h0 h1,fun b hb=>?_⟩
 simp only[List.mem_cons,List.not_mem_nil,or_false] at hb
 rcases hb with rfl | rfl
 ·exact m0
 ·exact m1
theorem qLl {b c:jI} (h:qTj b) (hl:List.length c=List.length b):qTj c:=by
 rcases h with h | h
 ·exact .inl (by rw[hl,h])
 ·exact .inr (by rw[hl,h])
theorem zOn {b:jI} {i:Nat} {y:List UInt8} (h : ∀ x∈b,x.length≤64) (hy:y.length≤64) : ∀ x∈b.set i y,x.length≤64:=by
 intro x hx
 rcases List.mem_or_eq_of_mem_set hx with h1 | rfl
 ·exact h x h1
 ·exact hy
theorem RV.cases {bk:List jI} (h:RV bk):bk=[] ∨ ∃ b0 b1,bk=[b0,b1]∧qTj b0∧qTj b1∧(∀ x∈b0,x.length≤64)∧(∀ x∈b1,x.length≤64):=by
 obtain⟨hk,hm⟩:=h
 cases hk with
 | nil=>exact .inl rfl
 | two b0 b1 h0 h1=>exact .inr ⟨b0,b1,rfl,h0,h1,hm b0 (.head _),hm b1 (.tail _ (.head _))⟩
theorem zEw {a:Nat} (ha:a<2) {b:jI} {i:Nat} {d:List UInt8} (h : ∀ x∈b,x.length≤64) : ∀ x∈xS a b i d,x.length≤64:=by
 unfold xS
 split
 ·refine zOn h ?_
  have:a=0∨a=1:=by omega
  rcases this with rfl | rfl
  ·rw[zHq,vA];omega
  ·rw[zHr,qH];omega
 ·exact h
theorem zHp {y:List UInt8} {b:jI} (hy:y.length≤64) (h : ∀ x∈b,x.length≤64) : ∀ k,∀ x∈stN y b k,x.length≤64
 | 0=>h
 | k+1=>zOn (zHp hy h k) hy
theorem RV.ext {bk:List jI} (h:RV bk) (i:Nat) (ds:List (List UInt8)):RV (qJc bk i ds):=by
 rcases h.cases with rfl | ⟨b0,b1,rfl,h0,h1,m0,m1⟩
 ·exact h
 ·exact .of2 (qLl h0 qS) (qLl h1 qS) (zEw (by omega) m0) (zEw (by omega) m1)
theorem RV.res {bk:List jI} (h:RV bk):RV (zWm bk):=by
 rcases h.cases with rfl | ⟨b0,b1,rfl,h0,h1,m0,m1⟩
 ·exact h
 ·exact .of2 (qLl h0 qQ0) (qLl h1 qQ0) (zHp (by rw[List.length_replicate];omega) m0 4) (zHp (by rw[List.length_replicate];omega) m1 4)
end Go.Eng
end
section
set_option maxRecDepth 20000
set_option maxHeartbeats 64000000
namespace Go.Eng
def zTq (x:List jI×Int) (l i:Int) (ds:List (List UInt8)):List jI×Int:=if qD9 x.1 l i ds=0 then (qJc x.1 i.toNat ds,x.2+1) else x
def Ans (x:List jI×Int) (v:V) (y:List jI×Int):Prop := ∃ (bk:List jI) (u e:Int),v = .tup [.t (.agg [.sl (bk.map qBn),.int .i64 u]),.t (.int .i64 e)]∧((e=0∧y=(bk,u))∨(e≠0∧y=x))
def RS (n:Nat) (x:List jI×Int):Prop:=RV x.1∧0≤x.2∧x.2≤n
theorem RS.up {n m:Nat} {x:List jI×Int} (h:RS n x) (hm:n≤m):RS m x:=⟨h.1,h.2.1,by have:=h.2.2;omega⟩
theorem RS.ext {n:Nat} {x:List jI×Int} (h:RS n x) (l i:Int) (ds:List (List UInt8)):RS (n+1) (zTq x l i ds):=by
 unfold zTq
 split
 ·exact⟨h.1.ext _ _,by have:=h.2.1;simp only;omega,by have:=h.2.2;simp only;omega⟩
 ·exact h.up (by omega)
theorem Ans.rv {x:List jI×Int} {v:V} {y:List jI×Int} (h:Ans x v y) (hv : ∃ bk' u' e,v = .tup [.t (xT bk' u'),.t (.int .i64 e)]∧RV bk'∧(e=0→u'=x.2+1)) : ∃ bk' u' e,v = .tup [.t (.agg [.sl (bk'.map qBn),.int .i64 u']),.t (.int .i64 e)]∧RM bk':=by
 obtain⟨bk',u',e,h1,h2,_⟩:=hv
 exact⟨bk',u',e,h1,h2.rm⟩
theorem RK.cases {bk:List jI} (h:RK bk):bk=[] ∨ ∃ b0 b1,bk=[b0,b1]∧qTj b0∧qTj b1:=by
 cases h with
 | nil=>exact .inl rfl
 | two b0 b1 h0 h1=>exact .inr ⟨b0,b1,rfl,h0,h1⟩
theorem qUf {b0 b1:jI} {i:Nat} {ds:List (List UInt8)}:qJc [b0,b1] i ds=[xS 0 b0 i (ds.getD 0 []),xS 1 b1 i (ds.getD 1 [])]:=rfl
def wF:Ct where
 α:=List UInt8×Nat×Int
 as x:=[.t (.sl (x.1.map qA)),.t (.int .i64 x.2.1),.t (.int .i64 x.2.2)]
 ins _:=[]
 pre x:=x.1.length<1000000000∧1≤x.2.1∧x.2.1≤8
 r x:= .sl 0 0 (x.1.length+x.2.1)
 outs x:=[.live 1 (((x.1++beI x.2.1 x.2.2 x.2.1).map qA).map V.t) true false]
 inj:=by
  rintro⟨a,s,n⟩ ⟨c,t,m⟩ h _
  simp only[List.cons.injEq,V.t.injEq,T.sl.injEq,T.int.injEq,true_and,and_true,qP,Int.natCast_inj] at h
  obtain⟨rfl,rfl,rfl⟩:=h
  exact⟨rfl,rfl⟩
theorem qVl {b:List UInt8} {n:Int} (hb:b.length<1000000000):wF.fs [.t (.sl (b.map qA)),.t (.int .i64 2),.t (.int .i64 n)] []=some (.sl 0 0 (b.length+2),[.live 1 (((b++beI 2 n 2).map qA).map V.t) true false]):=wF.eq (b,2,n) ⟨hb,by show 1≤2;omega,by show 2≤8;omega⟩
theorem jB {s k:Nat} {n:Int}:(beI s n k).length=k:=by simp[beI]
def qGg (bk:List jI) (a:Nat) (s:Int):Nat→List UInt8
 | 0=>[]
 | i+1=>if s/2^i%2=1 then qGg bk a s i++zCs bk a i else qGg bk a s i
theorem qHy {n:Nat}:(zIk n).length=4:=rfl
theorem zAm {bk:List jI} {a:Nat} {s:Int}:qGg bk a s 0=[]:=rfl
theorem zAl {bk:List jI} {a i:Nat} {s:Int} (h:s/2^i%2=1):qGg bk a s (i+1)=qGg bk a s i++zCs bk a i:=if_pos h
theorem qLw {bk:List jI} {a i:Nat} {s:Int} (h : ¬ s/2^i%2=1):qGg bk a s (i+1)=qGg bk a s i:=if_neg h
def PD (A B:Prop) (k:Nat):Prop:=(1≤k→A)∧(2≤k→B)
def zIj (s:Int):Prop:=s<0∨65535<s
instance {s:Int}:Decidable (zIj s):=inferInstanceAs (Decidable (_∨_))
def qDi (s0 s1:Int):List UInt8:=beI 2 s0 2++beI 2 s1 2
def zM1 (bk:List jI) (s0 s1:Int):List UInt8:=qGg bk 0 s0 16++qGg bk 1 s1 16
def qUd (bk:List jI) (s0 s1:Int):Int:=if zIj s0∨zIj s1 then 1 else if (s0≠0∧onB bk 0=false)∨(s1≠0∧onB bk 1=false) then 27 else 0
def zIn (bk:List jI) (s0 s1:Int):V:=if qUd bk s0 s1=0 then .tup [.sl 0 0 32,.t (.int .i64 0)] else .tup [.nil,.t (.int .i64 (qUd bk s0 s1))]
def zIm (bk:List jI) (s0 s1:Int):List Ob:=if qUd bk s0 s1=0 then [.live 1 (((qBo 5 [qDi s0 s1,zM1 bk s0 s1]).map qA).map V.t) true false] else []
theorem qBk {bk:List jI} (h:RV bk) (a:Nat) (s:Int) : ∀ i,(qGg bk a s i).length≤64*i
 | 0=>by simp[qGg]
 | i+1=>by
  have ih:=qBk h a s i
  have hv:(zCs bk a i).length≤64:=by
   unfold zCs
   rcases h.cases with rfl | ⟨b0,b1,rfl,_,_,m0,m1⟩
   ·simp
   ·match a with
    | 0=>exact qRv m0
    | 1=>exact qRv m1
    | a+2=>simp
  unfold qGg
  split
  ·rw[List.length_append];omega
  ·omega
def jQ:Ct where
 α:=Nat×List (List UInt8)
 as x:=[.t (.int .i64 x.1),.t (.sl (x.2.map bsT))]
 ins _:=[]
 pre x:=x.1<256∧(zK x.1 x.2).length<1000000000
 r _:= .sl 0 0 32
 outs x:=[.live 1 (((qBo x.1 x.2).map qA).map V.t) true false]
 inj:=by
  rintro⟨a,b⟩ ⟨c,d⟩ h _
  simp[qCz,Int.natCast_inj] at h
  obtain⟨rfl,rfl⟩:=h
  exact⟨rfl,rfl⟩
theorem zJ6 {x y:List UInt8} (h:(zK 5 [x,y]).length<1000000000):jQ.fs [.t (.int .i64 5),.t (.sl [.sl (x.map qA),.sl (y.map qA)])] []=some (.sl 0 0 32,[.live 1 (((qBo 5 [x,y]).map qA).map V.t) true false]):=jQ.eq (5,[x,y]) ⟨by show 5<256;omega,h⟩
theorem qI0 (tab:Tab) (gl:Gl) (n1 n2 n3:Nat) (h1:tab.look n1=some wF.fs) (h2:tab.look n2=some qGq.fs) (h3:tab.look n3=some jQ.fs) (bk:List jI) (u s0 s1:Int) (hv:RV bk) :
  (qAy n1 n2 n3).wp tab gl (qE 0 [.t (xT bk u),.t (.agg [.int .i64 s0,.int .i64 s1])]) (qE 0 []) (qAg [] [(4,none),(5,none)] 0 (fun r o=>r=zIn bk s0 s1∧o=zIm bk s0 s1)):=by
 simp (disch:=omega) only [go_sem,seval,qAy]
 have t2:List.take 2 (beI 2 s0 2)=beI 2 s0 2:=List.take_of_length_le (by rw[jB];exact Nat.le_refl _)
 have t4:List.take 4 (beI 2 s0 2++beI 2 s1 2)=beI 2 s0 2++beI 2 s1 2:=List.take_of_length_le (by rw[List.length_append,jB,jB];exact Nat.le_refl _)
 by_cases b0:zIj s0
 ·have hE:qUd bk s0 s1=1:=by unfold qUd;rw[if_pos (.inl b0)]
  rw[zIn,zIm,hE]
  unfold zIj at b0
  refine qU 1 ?_
  by_cases c0:s0<0
  ·simp (disch:=omega) only [go_sem,seval,qG,zG,c0]
  ·simp (disch:=omega) only [go_sem,seval,qG,zG,c0]
 have hb0 : ¬ s0<0 ∧ ¬ 65535<s0:=by unfold zIj at b0;omega
 obtain⟨c0,d0⟩:=hb0
 have hm:=hv.rm
 have hu:=qVl (b:=[]) (n:=s0) (by decide)
 simp only[List.map_nil,List.length_nil,List.nil_append] at hu
 by_cases b1:zIj s1
 ·have hE:qUd bk s0 s1=1:=by unfold qUd;rw[if_pos (.inr b1)]
  rw[zIn,zIm,hE]
  unfold zIj at b1
  refine qU 2 ?_
  by_cases c1:s1<0
  ·simp (disch:=omega) only [go_sem,seval,qG,zG,c0,d0,c1,h1,hu,List.map_nil]
  ·simp (disch:=omega) only [go_sem,seval,qG,zG,c0,d0,c1,h1,hu,List.map_nil]
 have hb1 : ¬ s1<0 ∧ ¬ 65535<s1:=by unfold zIj at b1;omega
 obtain⟨c1,d1⟩:=hb1
 refine qD 2 (fun k=>match k with
  | 0=>[(2,.ref 4096 0 0),(3,.ref 4112 0 0),(6,.t (.sl (([]:List UInt8).map qA))),(7,.nil),(13,.t (.agg [.int .i64 s0,.int .i64 s1])),(14,.t (.int .i64 0))]
  | 1=>[(2,.ref 4096 0 0),(3,.ref 4112 0 0),(6,.t (.sl ((beI 2 s0 2).map qA))),(7,.nil),(13,.t (.agg [.int .i64 s0,.int .i64 s1])),(14,.t (.int .i64 1))]
  | _=>[(2,.ref 4096 0 0),(3,.ref 4112 0 0),(6,.t (.sl ((qDi s0 s1).map qA))),(7,.nil),(13,.t (.agg [.int .i64 s0,.int .i64 s1])),(14,.t (.int .i64 2))])
  (fun _=>[(4112,.live 1 [.t (.int .i64 s0),.t (.int .i64 s1)] true true),(4096,.live 2 [.t (xT bk u)] true true)]) ?_ (fun k hk=>?_)
 ·refine qQ.rd id ?_ ?_ rfl
  all_goals simp (disch:=omega) only [go_sem,seval,id,List.map_nil]
 ·rcases (show k=0∨k=1∨k=2 by omega) with rfl | rfl | rfl
  ·simp (disch:=omega) only [go_sem,seval,zG,c0,d0,h1,hu,List.map_nil]
   refine qQ.cv (hv:=[]) [32800] id ?_ rfl
   simp (disch:=omega) only [go_sem,seval,id,jB,t2]
   rfl
  ·have hu:=qVl (b:=beI 2 s0 2) (n:=s1) (by rw[jB];omega)
   rw[jB] at hu
   simp (disch:=omega) only [go_sem,seval,zG,c1,d1,h1,hu]
   refine qQ.cv (hv:=[]) [32800] id ?_ rfl
   simp (disch:=omega) only [go_sem,seval,id,jB,qDi,t4]
   rfl
  ·simp (disch:=omega) only [go_sem,seval,zG]
   refine kU 2 (PD (s0=0∨onB bk 0=true) (s1=0∨onB bk 1=true)) (fun k=>match k with | 0=>[(2,.ref 4096 0 0),(6,.t (.sl ((qDi s0 s1).map qA))),(7,.sl 9100 0 (List.length ([]:List UInt8))),(27,.t (.agg [.int .i64 s0,.int .i64 s1])),(28,.t (.int .i64 0))] | 1=>[(2,.ref 4096 0 0),(6,.t (.sl ((qDi s0 s1).map qA))),(7,.sl 9100 0 (List.length (qGg bk 0 s0 16))),(27,.t (.agg [.int .i64 s0,.int .i64 s1])),(28,.t (.int .i64 1))] | _=>[(2,.ref 4096 0 0),(6,.t (.sl ((qDi s0 s1).map qA))),(7,.sl 9100 0 (List.length (qGg bk 0 s0 16++qGg bk 1 s1 16))),(27,.t (.agg [.int .i64 s0,.int .i64 s1])),(28,.t (.int .i64 2))]) (fun k=>match k with | 0=>[(9100,.live 1 ((([]:List UInt8).map qA).map V.t) true false),(4096,.live 2 [.t (xT bk u)] true true)] | 1=>[(9100,.live 1 (((qGg bk 0 s0 16).map qA).map V.t) true false),(4096,.live 2 [.t (xT bk u)] true true)] | _=>[(9100,.live 1 (((qGg bk 0 s0 16++qGg bk 1 s1 16).map qA).map V.t) true false),(4096,.live 2 [.t (xT bk u)] true true)]) ⟨fun h=>absurd h (by omega),fun h=>absurd h (by omega)⟩ ?_ (fun k hk hP=>?_)
   ·refine qQ.cv0 (hv:=[(9100,.live 1 [] true false)]) (ho:=[(4096,.live 2 [.t (xT bk u)] true true)]) id ?_ ?_ rfl rfl
    all_goals simp (disch:=omega) only [go_sem,seval,id,List.map_cons,List.map_nil,List.length_nil]
   ·rcases (show k=0∨k=1∨k=2 by omega) with rfl | rfl | rfl
    ·by_cases z:s0=0
     ·have zz:(s0==0)=true:=by simpa using z
      simp (disch:=omega) only [go_sem,seval,zH,zz]
      refine qD 16 (fun i=>[(2,.ref 4096 0 0),(6,.t (.sl ((qDi s0 s1).map qA))),(7,.sl 9100 0 (List.length (qGg bk 0 s0 i))),(10,.t (.int .i64 0)),(11,.t (.int .i64 s0)),(27,.t (.agg [.int .i64 s0,.int .i64 s1])),(28,.t (.int .i64 0)),(40,.t (.int .i64 (i:Nat)))]) (fun i=>[(9100,.live 1 (((qGg bk 0 s0 i).map qA).map V.t) true false),(4096,.live 2 [.t (xT bk u)] true true)]) ?_ (fun i hi=>?_)
      ·refine qQ.rd id ?_ ?_ rfl
       all_goals simp (disch:=omega) only [go_sem,seval,id,zAm,List.append_nil]
      ·have l0:=qBk hv 0 s0 16
       have l1:=qBk hv 0 s0 i
       by_cases hlt:i<16
       ·have hsh:s0.fdiv (2^i)=s0/2^i:=Int.fdiv_eq_ediv_of_nonneg _ (Int.le_of_lt (Int.pow_pos (by decide)))
        have hb : ¬ s0/2^i%2=1:=by rw[z];simp
        simp (disch:=omega) only [go_sem,seval,qT,hsh,hb]
        refine⟨hlt,qQ.rd id ?_ ?_ rfl⟩
        all_goals simp (disch:=omega) only [go_sem,seval,id,qLw (bk:=bk) (a:=0) hb]
       ·have e:i=16:=by omega
        subst e
        simp (disch:=omega) only [go_sem,seval,qT]
        refine⟨⟨fun _=> .inl z,fun h=>absurd h (by omega)⟩,qQ.rd id ?_ ?_ rfl⟩
        all_goals simp (disch:=omega) only [go_sem,seval,id]
     ·have zz:(s0==0)=false:=by simpa using z
      have c0:=zV5 (u:=u) (a:=0) hv.1 (by omega)
      rw[show ((0:Nat):Int)=0 from rfl] at c0
      cases ho:onB bk 0
      ·rw[ho] at c0
       have hE:qUd bk s0 s1=27:=by
        unfold qUd
        rw[if_neg (by rintro (h | h);exact b0 h;exact b1 h),if_pos (.inl ⟨z,ho⟩)]
       rw[zIn,zIm,hE]
       simp (disch:=omega) only [go_sem,seval,zH,zz,h2,c0]
      ·rw[ho] at c0
       have hbl:=hv.1.len ho
       have hbn:List.length (bk.getD 0 [])=16:=by simpa [onB] using ho
       simp (disch:=omega) only [go_sem,seval,zH,zz,h2,c0]
       refine qD 16 (fun i=>[(2,.ref 4096 0 0),(6,.t (.sl ((qDi s0 s1).map qA))),(7,.sl 9100 0 (List.length (qGg bk 0 s0 i))),(10,.t (.int .i64 0)),(11,.t (.int .i64 s0)),(27,.t (.agg [.int .i64 s0,.int .i64 s1])),(28,.t (.int .i64 0)),(40,.t (.int .i64 (i:Nat)))]) (fun i=>[(9100,.live 1 (((qGg bk 0 s0 i).map qA).map V.t) true false),(4096,.live 2 [.t (xT bk u)] true true)]) ?_ (fun i hi=>?_)
       ·refine qQ.rd id ?_ ?_ rfl
        all_goals simp (disch:=omega) only [go_sem,seval,id,zAm,List.append_nil]
       ·have l0:=qBk hv 0 s0 16
        have l1:=qBk hv 0 s0 i
        by_cases hlt:i<16
        ·have hsh:s0.fdiv (2^i)=s0/2^i:=Int.fdiv_eq_ediv_of_nonneg _ (Int.le_of_lt (Int.pow_pos (by decide)))
         by_cases hb:s0/2^i%2=1
         ·have hvl:=hm.val 0 i
          have hx:(bk.getD 0 []).getD i []=zCs bk 0 i:=rfl
          simp (disch:=omega) only [go_sem,seval,qT,hsh,hb,hx]
          refine⟨hlt,qQ.rd (fun j=>if j=9100 then 77968 else j) ?_ ?_ rfl⟩
          all_goals simp (disch:=omega) only [go_sem,seval,zAl (bk:=bk) (a:=0) hb,List.append_assoc]
          all_goals try omega
         ·simp (disch:=omega) only [go_sem,seval,qT,hsh,hb]
          refine⟨hlt,qQ.rd id ?_ ?_ rfl⟩
          all_goals simp (disch:=omega) only [go_sem,seval,id,qLw (bk:=bk) (a:=0) hb]
        ·have e:i=16:=by omega
         subst e
         simp (disch:=omega) only [go_sem,seval,qT]
         refine⟨⟨fun _=>(by first | exact .inr ho | trivial),fun h=>absurd h (by omega)⟩,qQ.rd id ?_ ?_ rfl⟩
         all_goals simp (disch:=omega) only [go_sem,seval,id]
    ·by_cases z:s1=0
     ·have zz:(s1==0)=true:=by simpa using z
      simp (disch:=omega) only [go_sem,seval,zH,zz]
      refine qD 16 (fun i=>[(2,.ref 4096 0 0),(6,.t (.sl ((qDi s0 s1).map qA))),(7,.sl 9100 0 (List.length (qGg bk 0 s0 16++qGg bk 1 s1 i))),(10,.t (.int .i64 1)),(11,.t (.int .i64 s1)),(27,.t (.agg [.int .i64 s0,.int .i64 s1])),(28,.t (.int .i64 1)),(40,.t (.int .i64 (i:Nat)))]) (fun i=>[(9100,.live 1 (((qGg bk 0 s0 16++qGg bk 1 s1 i).map qA).map V.t) true false),(4096,.live 2 [.t (xT bk u)] true true)]) ?_ (fun i hi=>?_)
      ·refine qQ.rd id ?_ ?_ rfl
       all_goals simp (disch:=omega) only [go_sem,seval,id,zAm,List.append_nil]
      ·have l0:=qBk hv 0 s0 16
       have l1:=qBk hv 1 s1 i
       by_cases hlt:i<16
       ·have hsh:s1.fdiv (2^i)=s1/2^i:=Int.fdiv_eq_ediv_of_nonneg _ (Int.le_of_lt (Int.pow_pos (by decide)))
        have hb : ¬ s1/2^i%2=1:=by rw[z];simp
        simp (disch:=omega) only [go_sem,seval,qT,hsh,hb]
        refine⟨hlt,qQ.rd id ?_ ?_ rfl⟩
        all_goals simp (disch:=omega) only [go_sem,seval,id,qLw (bk:=bk) (a:=1) hb]
       ·have e:i=16:=by omega
        subst e
        simp (disch:=omega) only [go_sem,seval,qT]
        refine⟨⟨fun _=>hP.1 (by omega),fun _=> .inl z⟩,qQ.rd id ?_ ?_ rfl⟩
        all_goals simp (disch:=omega) only [go_sem,seval,id]
     ·have zz:(s1==0)=false:=by simpa using z
      have c1:=zV5 (u:=u) (a:=1) hv.1 (by omega)
      rw[show ((1:Nat):Int)=1 from rfl] at c1
      cases ho:onB bk 1
      ·rw[ho] at c1
       have hE:qUd bk s0 s1=27:=by
        unfold qUd
        rw[if_neg (by rintro (h | h);exact b0 h;exact b1 h),if_pos (.inr ⟨z,ho⟩)]
       rw[zIn,zIm,hE]
       simp (disch:=omega) only [go_sem,seval,zH,zz,h2,c1]
      ·rw[ho] at c1
       have hbl:=hv.1.len ho
       have hbn:List.length (bk.getD 1 [])=16:=by simpa [onB] using ho
       simp (disch:=omega) only [go_sem,seval,zH,zz,h2,c1]
       refine qD 16 (fun i=>[(2,.ref 4096 0 0),(6,.t (.sl ((qDi s0 s1).map qA))),(7,.sl 9100 0 (List.length (qGg bk 0 s0 16++qGg bk 1 s1 i))),(10,.t (.int .i64 1)),(11,.t (.int .i64 s1)),(27,.t (.agg [.int .i64 s0,.int .i64 s1])),(28,.t (.int .i64 1)),(40,.t (.int .i64 (i:Nat)))]) (fun i=>[(9100,.live 1 (((qGg bk 0 s0 16++qGg bk 1 s1 i).map qA).map V.t) true false),(4096,.live 2 [.t (xT bk u)] true true)]) ?_ (fun i hi=>?_)
       ·refine qQ.rd id ?_ ?_ rfl
        all_goals simp (disch:=omega) only [go_sem,seval,id,zAm,List.append_nil]
       ·have l0:=qBk hv 0 s0 16
        have l1:=qBk hv 1 s1 i
        by_cases hlt:i<16
        ·have hsh:s1.fdiv (2^i)=s1/2^i:=Int.fdiv_eq_ediv_of_nonneg _ (Int.le_of_lt (Int.pow_pos (by decide)))
         by_cases hb:s1/2^i%2=1
         ·have hvl:=hm.val 1 i
          have hx:(bk.getD 1 []).getD i []=zCs bk 1 i:=rfl
          simp (disch:=omega) only [go_sem,seval,qT,hsh,hb,hx]
          refine⟨hlt,qQ.rd (fun j=>if j=9100 then 77968 else j) ?_ ?_ rfl⟩
          all_goals simp (disch:=omega) only [go_sem,seval,zAl (bk:=bk) (a:=1) hb,List.append_assoc]
          all_goals try omega
         ·simp (disch:=omega) only [go_sem,seval,qT,hsh,hb]
          refine⟨hlt,qQ.rd id ?_ ?_ rfl⟩
          all_goals simp (disch:=omega) only [go_sem,seval,id,qLw (bk:=bk) (a:=1) hb]
        ·have e:i=16:=by omega
         subst e
         simp (disch:=omega) only [go_sem,seval,qT]
         refine⟨⟨fun _=>hP.1 (by omega),fun _=>by first | exact .inr ho | trivial⟩,qQ.rd id ?_ ?_ rfl⟩
         all_goals simp (disch:=omega) only [go_sem,seval,id]
    ·have l0:=qBk hv 0 s0 16
     have l1:=qBk hv 1 s1 16
     have p0:=hP.1 (by omega)
     have p1:=hP.2 (by omega)
     have hE:qUd bk s0 s1=0:=by
      unfold qUd
      rw[if_neg (by rintro (h | h);exact b0 h;exact b1 h),if_neg]
      rintro (⟨h1,h2⟩ | ⟨h1,h2⟩)
      ·rcases p0 with h | h
       ·exact h1 h
       ·rw[h] at h2;cases h2
      ·rcases p1 with h | h
       ·exact h1 h
       ·rw[h] at h2;cases h2
     have hv2:(zM1 bk s0 s1).length≤2048:=by unfold zM1;rw[List.length_append];omega
     have hh2:(qDi s0 s1).length=4:=by unfold qDi;rw[List.length_append,jB,jB]
     have hvs:qGg bk 0 s0 16++qGg bk 1 s1 16=zM1 bk s0 s1:=rfl
     rw[zIn,zIm,if_pos hE,if_pos hE]
     have hf:(zK 5 [qDi s0 s1,zM1 bk s0 s1]).length<1000000000:=by
      simp only[zK,List.flatMap_cons,List.flatMap_nil,List.length_cons,List.length_append,List.length_nil,qHy]
      omega
     have hq:=zJ6 hf
     have tv:List.take (zM1 bk s0 s1).length (zM1 bk s0 s1)=zM1 bk s0 s1:=List.take_of_length_le (Nat.le_refl _)
     simp (disch:=omega) only [go_sem,seval,zH,hvs,h3,hq,tv]
end Go.Eng
end
section
set_option maxRecDepth 20000
set_option maxHeartbeats 16000000
namespace Go.Eng
abbrev rdO (s:Rd):Ob:= .live 3 [.t (.agg [.sl (s.1.map qA),.int .i64 (s.2.1:Int),.int .i64 s.2.2])] true true
def qCh:Ct where
 α:=List UInt8
 as x:=[.t (.sl (x.map qA))]
 ins _:=[]
 pre x:=x.length<1000000000
 r _:= .ref 0 0 0
 outs x:=[qBg (x,0,0)]
 inj:=by
  intro a b h _
  simp only[List.cons.injEq,V.t.injEq,T.sl.injEq,and_true,qP] at h
  subst h;exact⟨rfl,rfl⟩
theorem qSe {b:List UInt8} (h:b.length<1000000000):qCh.fs [.t (.sl (b.map qA))] []=some (.ref 0 0 0,[rdO (b,0,0)]):=qCh.eq b h
def qE1:Ct where
 α:=Rd×Nat
 as x:=[.ref 0 0 0,.t (.int .i64 x.2)]
 ins x:=[qBg x.1]
 pre x:=qGd x.1∧x.2≤1000000000
 r x:= .t (.sl ((kW x.1 x.2).1.map qA))
 outs x:=[qBg (kW x.1 x.2).2]
 inj:=by
  rintro⟨s,a⟩ ⟨t,c⟩ h1 h2
  simp only[List.cons.injEq,V.t.injEq,T.int.injEq,true_and,and_true,Int.natCast_inj] at h1
  simp only[List.cons.injEq,and_true] at h2
  subst h1
  cases qDq h2
  exact⟨rfl,rfl⟩
theorem zGw {s:Rd} {k:Nat} (h:qGd s∧k≤1000000000):qE1.fs [.ref 0 0 0,.t (.int .i64 k)] [rdO s]=some (.t (.sl ((kW s k).1.map qA)),[rdO (kW s k).2]):=qE1.eq (s,k) h
def qCg:Ct where
 α:=Rd
 as _:=[.ref 0 0 0]
 ins x:=[qBg x]
 pre x:=qGd x
 r x:= .t (.int .i64 (qAn x))
 outs x:=[qBg x]
 inj:=by
  intro s t _ h2
  simp only[List.cons.injEq,and_true] at h2
  cases qDq h2
  exact⟨rfl,rfl⟩
theorem qSd {s:Rd} (h:qGd s):qCg.fs [.ref 0 0 0] [rdO s]=some (.t (.int .i64 (qAn s)),[rdO s]):=qCg.eq s h
theorem zAg {s:Rd} {k:Nat} (h:qGd s):qGd (kW s k).2:=by
 unfold kW qGd at *
 split
 ·exact h
 ·split
  ·exact h
  ·exact⟨by simp only;omega,h.2⟩
theorem zAf {s:Rd} {k:Nat}:(kW s k).1.length≤k:=by
 unfold kW
 split
 ·simp
 ·split
  ·simp
  ·simp only[List.length_take];omega
end Go.Eng
end
section
set_option maxRecDepth 20000
set_option maxHeartbeats 64000000
namespace Go.Eng
theorem zBu (s:Int):(qBr s=[]∧qCw.fs [.t (.int .i64 s)] []=some (.agg [.nil,.t (.int .i64 0)],[])) ∨ ∃ b0 b1:jI,qBr s=[b0,b1]∧qTj b0∧qTj b1∧qCw.fs [.t (.int .i64 s)] []=some (.agg [.sl 0 0 2,.t (.int .i64 0)],[.live 1 [.sl 1 0 b0.length,.sl 2 0 b1.length] true false,.live 1 ((b0.map bsT).map V.t) true false,.live 1 ((b1.map bsT).map V.t) true false]):=by
 have h:=qCw.eq s trivial
 rcases (zKy (s:=s)).cases with e | ⟨b0,b1,e,h0,h1,_,_⟩
 ·refine .inl ⟨e,h.trans ?_⟩
  show some (twR (qBr s) 0,twO (qBr s))=_
  rw[e];rfl
 ·refine .inr ⟨b0,b1,e,h0,h1,h.trans ?_⟩
  show some (twR (qBr s) 0,twO (qBr s))=_
  rw[e];rfl
def zZd (s:Rd):Int:=(zOe s 1).1
def zZz (s:Rd):Prop:=(zOe s 1).2.2.2=0∧4≤zZd s
instance {s:Rd}:Decidable (zZz s):=inferInstanceAs (Decidable (_∧_))
def RZ (bk:List jI):Prop := ∀ a,a<2 → ∀ x∈bk.getD a [],x.length=szA a
theorem zHg {b:jI} {i z:Nat} {y:List UInt8} (h : ∀ x∈b,x.length=z) (hy:y.length=z) : ∀ x∈b.set i y,x.length=z:=by
 intro x hx
 rcases List.mem_or_eq_of_mem_set hx with h1 | rfl
 ·exact h x h1
 ·exact hy
theorem zSp {y:List UInt8} {b:jI} {z:Nat} (hy:y.length=z) (h : ∀ x∈b,x.length=z) : ∀ k,∀ x∈stN y b k,x.length=z
 | 0=>h
 | k+1=>zHg (zSp hy h k) hy
theorem RZ.two {b0 b1:jI} (h0 : ∀ x∈b0,x.length=20) (h1 : ∀ x∈b1,x.length=32):RZ [b0,b1]:=by
 intro a ha
 match a,ha with
 | 0,_=>exact h0
 | 1,_=>exact h1
theorem RZ.nil:RZ []:=by
 intro a ha x hx
 simp at hx
theorem RZ.ext {bk:List jI} {i:Nat} {ds:List (List UInt8)} (hv:RV bk) (h:RZ bk):RZ (qJc bk i ds):=by
 rcases hv.1.cases with rfl | ⟨b0,b1,rfl,g0,g1⟩
 ·exact RZ.nil
 ·rw[qUf]
  refine RZ.two ?_ ?_
  ·unfold xS;split
   ·exact zHg (h 0 (by omega)) (kY (a:=0))
   ·exact h 0 (by omega)
  ·unfold xS;split
   ·exact zHg (h 1 (by omega)) (kY (a:=1))
   ·exact h 1 (by omega)
theorem RZ.res {bk:List jI} (hv:RV bk) (h:RZ bk):RZ (zWm bk):=by
 rcases hv.1.cases with rfl | ⟨b0,b1,rfl,g0,g1⟩
 ·exact RZ.nil
 ·exact RZ.two (zSp List.length_replicate (h 0 (by omega)) 4) (zSp List.length_replicate (h 1 (by omega)) 4)
theorem qZ6 {a:Nat} : ∀ x∈qFp a,x.length=szA a:=by
 intro x hx
 unfold qFp at hx
 obtain⟨i,_,rfl⟩:=List.mem_map.1 hx
 exact List.length_replicate
theorem RZ.new {s:Int}:RZ (qBr s):=by
 unfold qBr
 split
 ·exact RZ.nil
 ·refine RZ.two ?_ ?_
  ·split
   ·exact qZ6 (a:=0)
   ·intro x hx;simp at hx
  ·split
   ·exact qZ6 (a:=1)
   ·intro x hx;simp at hx
theorem zAx {α:Type} {b p q t:List α} {k:Nat} (hb:b=p++q++t) (hq:q.length=k):List.take k (List.drop p.length b)=q:=by
 subst hb;subst hq
 rw[List.append_assoc,List.drop_left,List.take_left]
theorem zO1 {l:List UInt8} {x:UInt8}:beV (l++[x])=256*beV l+x.toNat:=by simp[beV]
theorem zDw {size:Nat} {n:Int} : ∀ k,k≤size→beV (beI size n k)=m64 n/2^(8*(size-k))%256^k
 | 0,_=>by simp[beI,beV,Nat.mod_one]
 | k+1,h=>by
  have ih:=zDw (size:=size) (n:=n) k (by omega)
  rw[qRk,zO1,ih]
  have e1:8*(size-k)=8*(size-1-k)+8:=by omega
  have e2:size-(k+1)=size-1-k:=by omega
  rw[e1,e2,Nat.pow_add,←Nat.div_div_eq_div_mul]
  generalize m64 n/2^(8*(size-1-k))=q
  have e3:(UInt8.ofNat q).toNat=q%256:=by rw[UInt8.toNat_ofNat']
  have e4:q/2^8=q/256:=rfl
  have e5:256^(k+1)=256*256^k:=by rw[Nat.pow_succ,Nat.mul_comm]
  rw[e3,e4,e5,Nat.mod_mul,Nat.add_comm]
theorem zO0 {size:Nat} {n:Int}:beV (beI size n size)=m64 n%256^size:=by
 rw[zDw size (Nat.le_refl _)];simp
theorem zVn {n:Int} (h:0≤n∧n<18446744073709551616):((m64 n:Nat):Int)=n:=by unfold m64;omega
theorem qV7 (tab:Tab) (gl:Gl) (x:yY.α) (hx:yY.pre x):yD.wp tab gl (qE 0 (yY.as x)) (qE 0 (yY.ins x)) (jK [(6,none),(7,none)] (yY.ins x).length (fun r o=>r=yY.r x∧o=yY.outs x)):=by
 obtain⟨⟨b,a,e⟩,p,n⟩:=x
 obtain⟨h1,h2,h3⟩:=hx
 simp only[qGd] at h1 h2 h3
 by_cases h:p+n≤b.length
 ·have hr:yY.r ((b,a,e),p,n) = .tup [.t (.sl (((b.drop p).take n).map qA)),.t (.int .i64 0)]:=if_pos h
  rw[hr]
  exact qY0 tab gl (b,a,e) h1 p n h
 ·have hr:yY.r ((b,a,e),p,n) = .tup [.t (.sl []),.t (.int .i64 2)]:=if_neg h
  rw[hr]
  show yD.wp tab gl (qE 0 [.ref 0 0 0,.t (.int .i64 p),.t (.int .i64 n)]) (qE 0 [qBg (b,a,e)]) (jK [(6,none),(7,none)] 1 (fun r o=>r = .tup [.t (.sl []),.t (.int .i64 2)]∧o=[qBg (b,a,e)]))
  simp (disch:=omega) only [go_sem,seval,yD,qBg,rdT]
theorem qV6 (tab:Tab) (gl:Gl) (x:vQ.α) (hx:vQ.pre x):yB.wp tab gl (qE 0 (vQ.as x)) (qE 0 (vQ.ins x)) (jK [(4,none)] (vQ.ins x).length (fun r o=>r=vQ.r x∧o=vQ.outs x)):=
 qPz tab gl x.1.1 x.1.2.1 x.1.2.2 x.2 hx.1 hx.2
end Go.Eng
end
section
namespace Go.Eng
def yQ (n_digest_Size:Nat):AC:=
 (.seq
 (rG 36864 [bT 49 .lss 48 47])
 (.seq
 (.cond (.tmp 49)
 .skip
 (.exit 1))
 (.seq
 (.block 2
 (.seq
 (rG 40960 [mv 50 48,oO 51 (.iaddr 1) [.tmp 46,.tmp 48],oO 52 (.load 1 false) [.tmp 51],mv 5 50,mv 6 52])
 (.seq
 (rG 45056 [mC 7 (.t (.int .i64 0))])
 (.seq
 (.seq
 (rG 49152 [oO 53 (.faddr 1) [.tmp 2],oO 54 (.load 1 false) [.tmp 53],bN 55 .neq 54 5,mv 56 55,mG 57 1 56,mG 58 5 56,oG 59 56 (.bin .shr) [.tmp 57,.tmp 58],oG 60 56 (.bin .and) [.tmp 59,.cst (.t (.int .i64 1))],oG 61 56 (.bin .eql) [.tmp 60,.cst (.t (.int .i64 1))],oO 62 .pick [.tmp 56,.tmp 61,.cst (.t (.bool false))]])
 (.cond (.tmp 62)
 (rG 53248 [mv 63 5,cL 64 n_digest_Size false [.tmp 63],mv 7 64])
 .skip))
 (.seq
 (rG 57344 [mv 65 6,oO 66 .len [.tmp 65],mv 67 7,bT 68 .neq 66 67])
 (.cond (.tmp 68)
 (.seq
 (rG 61440 [mC 4 (.t (.int .i64 27))])
 .ret)
 .skip))))))
 (rG 65536 [bN 69 .add 48 1,mv 48 69]))))
def zL (n_digest_Size:Nat):AC:=
 (.seq
 (rG 4096 [oO 2 .box [.tmp 0],mC 4 (.t (.int .i64 0))])
 (.seq
 (.block 0
 (.seq
 (rG 8192 [mv 9 1,bN 10 .lss 9 1,mv 11 10,mF 12 1 11,oF 13 11 (.bin .gtr) [.tmp 12,.cst (.t (.int .i64 3))],oO 14 .pick [.tmp 11,.cst (.t (.bool true)),.tmp 13],mv 15 14,oF 16 15 (.faddr 0) [.tmp 2],oF 17 15 (.load 1 false) [.tmp 16],oF 18 15 (.bin .lss) [.tmp 17,.cst (.t (.int .i64 0))],oO 19 .pick [.tmp 15,.cst (.t (.bool true)),.tmp 18],mv 20 19,oF 21 20 (.faddr 0) [.tmp 2],oF 22 20 (.load 1 false) [.tmp 21],oF 23 20 (.bin .gtr) [.tmp 22,.cst (.t (.int .i64 11))],oO 24 .pick [.tmp 20,.cst (.t (.bool true)),.tmp 23],mv 25 24,oF 26 25 (.faddr 1) [.tmp 2],oF 27 25 (.load 1 false) [.tmp 26],oF 28 25 (.bin .lss) [.tmp 27,.cst (.t (.int .i64 1))],oO 29 .pick [.tmp 25,.cst (.t (.bool true)),.tmp 28],mv 30 29,oF 31 30 (.faddr 1) [.tmp 2],oF 32 30 (.load 1 false) [.tmp 31],oF 33 30 (.bin .gtr) [.tmp 32,.cst (.t (.int .i64 5))],oO 34 .pick [.tmp 30,.cst (.t (.bool true)),.tmp 33],mv 8 34])
 (.cond (.tmp 8)
 (.seq
 (rG 12288 [mC 4 (.t (.int .i64 1))])
 .ret)
 (.seq
 (rG 16384 [oO 36 (.faddr 3) [.tmp 2],oO 37 (.load 1 false) [.tmp 36],oO 38 .len [.tmp 37],bN 39 .gtr 38 64,mv 35 39])
 (.cond (.tmp 35)
 (.seq
 (rG 20480 [mC 4 (.t (.int .i64 4))])
 .ret)
 (.seq
 (rG 24576 [oO 41 (.faddr 2) [.tmp 2],oO 42 (.load 1 false) [.tmp 41],oO 43 .len [.tmp 42],bN 44 .neq 43 2,mv 40 44])
 (.cond (.tmp 40)
 (.seq
 (rG 28672 [mC 4 (.t (.int .i64 27))])
 .ret)
 .skip)))))))
 (.seq
 (.seq
 (rG 32768 [oO 45 (.faddr 2) [.tmp 2],oO 46 (.load 1 false) [.tmp 45],oO 47 .len [.tmp 46],mC 48 (.t (.int .i64 0))])
 (.block 1
 (.loop (yQ n_digest_Size))))
 (.seq
 (rG 69632 [mC 4 (.t (.int .i64 0))])
 .ret))))
def yH (n_digest_Sum:Nat):AC:=
 (.seq
 (rG 16384 [bT 21 .lss 20 19])
 (.seq
 (.cond (.tmp 21)
 .skip
 (.exit 0))
 (.seq
 (.block 1
 (.seq
 (rG 20480 [mv 22 20,mv 10 22])
 (.seq
 (rG 24576 [mv 23 1,bN 24 .neq 23 5,mv 25 24,mG 26 2 25,mG 27 10 25,oG 28 25 (.bin .shr) [.tmp 26,.tmp 27],oG 29 25 (.bin .and) [.tmp 28,.cst (.t (.int .i64 1))],oG 30 25 (.bin .eql) [.tmp 29,.cst (.t (.int .i64 1))],oO 31 .pick [.tmp 25,.tmp 30,.cst (.t (.bool false))]])
 (.cond (.tmp 31)
 (.reg 28672 (some [0,1,0,0,0,24,63,127]) [oO 32 (.faddr 2) [.tmp 9],oO 33 (.load 1 false) [.tmp 32],mv 34 10,mv 35 10,mv 36 3,cL 37 n_digest_Sum false [.tmp 35,.tmp 36],oO 38 (.iaddr 1) [.tmp 33,.tmp 34],oS 1 38 37])
 .skip))))
 (rG 32768 [bN 39 .add 20 1,mv 20 39]))))
def qHo (n_bytes_Clone n_digest_Sum:Nat):AC:=
 (.seq
 (rG 4096 [oO 8 (.new 4 [(.agg [(.t (.int .i64 0)),(.t (.int .i64 0)),.nil,.nil])]) []])
 (.seq
 (.reg 8192 (some [0,0,0,0,8,31,0,127]) [mv 11 0,mv 12 1,oO 13 (.mkslice 1 24 .nil) [.cst (.t (.int .i64 2)),.cst (.t (.int .i64 2))],mv 14 3,cL 15 n_bytes_Clone true [.tmp 14],oO 16 (.build [(.t (.int .i64 0)),(.t (.int .i64 0)),.nil,.nil] [(0,1),(1,1),(2,1),(3,1)]) [.tmp 11,.tmp 12,.tmp 13,.tmp 15],oO 9 (.new 4 [(.agg [(.t (.int .i64 0)),(.t (.int .i64 0)),.nil,.nil])]) [],oS 4 9 16])
 (.seq
 (.seq
 (rG 12288 [oO 17 (.faddr 2) [.tmp 9],oO 18 (.load 1 false) [.tmp 17],oO 19 .len [.tmp 18],mC 20 (.t (.int .i64 0))])
 (.block 0
 (.loop (yH n_digest_Sum))))
 (.seq
 (rG 36864 [oO 40 (.load 4 true) [.tmp 9],oS 4 8 40])
 .ret))))
def qFw (n_draw_Mod:Nat):AC:=
 (.seq
 (rG 4096 [mC 2 (.t (.int .i64 0))])
 (.seq
 (rG 8192 [mv 3 0,cL 4 n_draw_Mod false [.tmp 3,.cst (.t (.int .i64 2))],oO 5 (.bin .add) [.cst (.t (.int .i64 2)),.tmp 4],mv 2 5])
 .ret))
def qGj:AC:=
 (.seq
 (rG 4096 [mC 4 .nil])
 (.seq
 (.seq
 (rG 8192 [mv 5 0,oO 6 .len [.tmp 5],mv 7 1,bT 8 .gtr 6 7])
 (.cond (.tmp 8)
 (.seq
 (rG 12288 [mv 9 0,mv 10 1,oO 11 (.slice 1 false true false) [.tmp 9,.tmp 10],mv 4 11])
 .ret)
 .skip))
 (.seq
 (rG 16384 [mv 12 0,mv 4 12])
 .ret)))
def qGk:AC:=
 (.seq
 (rG 4096 [mC 4 (.t .pnil)])
 (.seq
 (.seq
 (rG 8192 [mv 5 0,oO 6 .len [.tmp 5],mv 7 1,bT 8 .gtr 6 7])
 (.cond (.tmp 8)
 (rG 12288 [mv 9 0,mv 10 1,oO 11 (.slice 1 false true false) [.tmp 9,.tmp 10],mv 0 11])
 .skip))
 (.seq
 (rG 16384 [mv 12 0,oO 13 (.build [.nil,(.t (.int .i64 0))] [(0,1)]) [.tmp 12],oO 14 .box [.tmp 13],mv 4 14])
 .ret)))
def wX:AC:=
 (.seq
 (rG 4096 [mC 4 (.t (.int .i64 0))])
 (.seq
 (.seq
 (.reg 8192 (some [0,1,3,7,0,16,48,112,240,511]) [mv 5 0,oO 6 .nilchk [.tmp 5],oO 7 (.faddr 1) [.tmp 6],oO 8 (.load 1 false) [.tmp 7],mv 9 0,oO 10 .nilchk [.tmp 9],oO 11 (.faddr 0) [.tmp 10],oO 12 (.load 1 false) [.tmp 11],oO 13 .len [.tmp 12],bT 14 .geq 8 13])
 (.cond (.tmp 14)
 (.seq
 (rG 12288 [mC 4 (.t (.int .i64 0))])
 .ret)
 .skip))
 (.seq
 (rG 16384 [mv 15 0,oO 16 .nilchk [.tmp 15],oO 17 (.faddr 1) [.tmp 16],oO 18 (.load 1 false) [.tmp 17],bN 19 .add 18 1,oO 20 .nilchk [.tmp 15],oO 21 (.faddr 1) [.tmp 20],oS 1 21 19])
 (.seq
 (.reg 20480 (some [0,1,3,7,0,16,48,112,240,511,1023,2047,0,8191,16383]) [mv 22 0,oO 23 .nilchk [.tmp 22],oO 24 (.faddr 0) [.tmp 23],oO 25 (.load 1 false) [.tmp 24],mv 26 0,oO 27 .nilchk [.tmp 26],oO 28 (.faddr 1) [.tmp 27],oO 29 (.load 1 false) [.tmp 28],bN 30 .sub 29 1,oO 31 (.iaddr 1) [.tmp 25,.tmp 30],oO 32 (.load 1 false) [.tmp 31],oO 33 (.conv .i64) [.tmp 32],mv 34 1,bT 35 .rem 33 34,mv 4 35])
 .ret))))
def qBv (n_draw_Codes_Next:Nat):AC:=
 (.seq
 (rG 4096 [mC 2 .nil])
 (.seq
 (rG 8192 [oO 4 (.build [(.t (zN [])),(.t (zN [])),(.t (zN [])),(.t (zN [])),(.t (zN [])),(.t (zN []))] [(0,1),(1,1),(2,1),(3,1),(4,1),(5,1)]) [.cst (.t (zN [97,61,49])),.cst (.t (zN [99,111,117,110,116,61,53])),.cst (.t (zN [99,111,117,110,116,61,49,55])),.cst (.t (zN [104,111,115,116,61,120])),.cst (.t (zN [109,111,100,101,32,98])),.cst (.t (zN [126]))],oO 3 (.new 1 [(.t (zN [])),(.t (zN [])),(.t (zN [])),(.t (zN [])),(.t (zN [])),(.t (zN []))]) [],oS 6 3 4])
 (.seq
 (rG 12288 [mv 5 0,cL 6 n_draw_Codes_Next true [.tmp 5,.cst (.t (.int .i64 6))],oO 7 (.aaddr 6 1) [.tmp 3,.tmp 6],oO 8 (.load 1 false) [.tmp 7],oO 9 .s2b [.tmp 8],mv 2 9])
 .ret)))
def qCc:AC:=
 (.seq
 (rG 4096 [mC 2 .nil])
 (.seq
 (.seq
 (rG 8192 [mv 3 0,oO 4 (.nileq false) [.tmp 3,.cst .nil]])
 (.condb (.tmp 4)
 (.seq
 (rG 12288 [mC 2 .nil])
 .ret)
 .skip))
 (.seq
 (rG 16384 [oO 5 (.bslice 1 0 (.t (qA 0)) []) [],mv 6 0,oO 7 (.append 1 1) [.tmp 5,.tmp 6],mv 2 7])
 .ret)))
def qKh (n_wire_Uint:Nat):AC:=
 (.seq
 (rG 4096 [mC 4 .nil])
 (.seq
 (rG 8192 [mv 5 1,mv 6 1,oO 7 .len [.tmp 6],oO 8 .min [.tmp 7,.cst (.t (.int .i64 65535))],oO 9 (.slice 1 false true false) [.tmp 5,.tmp 8],mv 1 9])
 (.seq
 (rG 12288 [mv 10 0,mv 11 1,oO 12 .len [.tmp 11],cL 13 n_wire_Uint false [.tmp 10,.cst (.t (.int .i64 2)),.tmp 12],mv 14 1,oO 15 (.append 1 1) [.tmp 13,.tmp 14],mv 4 15])
 .ret)))
def jP (n_wire_Reader_take n_wire_Reader_fail:Nat):AC:=
 (.seq
 (rG 4096 [mC 4 .nil])
 (.seq
 (.seq
 (rG 8192 [mv 10 0,oO 11 .nilchk [.tmp 10],oO 12 (.faddr 2) [.tmp 11],oO 13 (.load 1 false) [.tmp 12],bN 14 .neq 13 0])
 (.cond (.tmp 14)
 (.seq
 (rG 12288 [mC 4 .nil])
 .ret)
 .skip))
 (.seq
 (rG 16384 [mv 15 0,oO 16 (.mkbd n_wire_Reader_take) [.tmp 15],mv 5 16])
 (.seq
 (rG 20480 [mv 18 5,mv 19 0,oO 20 .nilchk [.tmp 19],oO 21 (.faddr 1) [.tmp 20],oO 22 (.load 1 false) [.tmp 21],⟨some 23,(.callv true),[.tmp 18,.tmp 22,.cst (.t (.int .i64 2))],none⟩,mv 17 23,oO 24 (.extract 0) [.tmp 17],oO 25 (.extract 1) [.tmp 17],mv 6 24,mv 7 25])
 (.seq
 (.seq
 (rG 24576 [mv 26 7,bN 27 .neq 26 0])
 (.cond (.tmp 27)
 (.seq
 (rG 28672 [mv 28 0,mv 29 7,cL 30 n_wire_Reader_fail true [.tmp 28,.tmp 29]])
 (.seq
 (rG 32768 [mC 4 .nil])
 .ret))
 .skip))
 (.seq
 (.reg 36864 (some [0,1,3,7,15,0,32,96,224,511,1023]) [mv 31 6,oO 32 (.iaddr 1) [.tmp 31,.cst (.t (.int .i64 0))],oO 33 (.load 1 false) [.tmp 32],oO 34 (.conv .i64) [.tmp 33],oO 35 (.bin .shl) [.tmp 34,.cst (.t (.int .u64 8))],mv 36 6,oO 37 (.iaddr 1) [.tmp 36,.cst (.t (.int .i64 1))],oO 38 (.load 1 false) [.tmp 37],oO 39 (.conv .i64) [.tmp 38],bT 40 .or 35 39,mv 8 40])
 (.seq
 (.seq
 (rG 40960 [mv 41 8,mv 42 1,bT 43 .gtr 41 42])
 (.cond (.tmp 43)
 (.seq
 (rG 45056 [mv 44 0,cL 45 n_wire_Reader_fail true [.tmp 44,.cst (.t (.int .i64 4))]])
 (.seq
 (rG 49152 [mC 4 .nil])
 .ret))
 .skip))
 (.seq
 (rG 53248 [mv 47 5,mv 48 0,oO 49 .nilchk [.tmp 48],oO 50 (.faddr 1) [.tmp 49],oO 51 (.load 1 false) [.tmp 50],bN 52 .add 51 2,mv 53 8,⟨some 54,(.callv true),[.tmp 47,.tmp 52,.tmp 53],none⟩,mv 46 54,oO 55 (.extract 0) [.tmp 46],oO 56 (.extract 1) [.tmp 46],mv 9 55,mv 7 56])
 (.seq
 (.seq
 (rG 57344 [mv 57 7,bN 58 .neq 57 0])
 (.cond (.tmp 58)
 (.seq
 (rG 61440 [mv 59 0,mv 60 7,cL 61 n_wire_Reader_fail true [.tmp 59,.tmp 60]])
 (.seq
 (rG 65536 [mC 4 .nil])
 .ret))
 .skip))
 (.seq
 (rG 69632 [mv 62 0,oO 63 .nilchk [.tmp 62],oO 64 (.faddr 1) [.tmp 63],oO 65 (.load 1 false) [.tmp 64],mv 66 8,oO 67 (.bin .add) [.cst (.t (.int .i64 2)),.tmp 66],bT 68 .add 65 67,oO 69 .nilchk [.tmp 62],oO 70 (.faddr 1) [.tmp 69],oS 1 70 68])
 (.seq
 (rG 73728 [mv 71 9,oO 72 (.append 1 1) [.cst .nil,.tmp 71],mv 4 72])
 .ret)))))))))))
def qKc (n_ref3_Uint:Nat):AC:=
 (.seq
 (rG 4096 [mC 4 .nil])
 (.seq
 (.seq
 (rG 8192 [mv 5 1,oO 6 .len [.tmp 5],bN 7 .gtr 6 65535])
 (.cond (.tmp 7)
 (rG 12288 [mv 8 1,oO 9 (.slice 1 false true false) [.tmp 8,.cst (.t (.int .i64 65535))],mv 1 9])
 .skip))
 (.seq
 (rG 16384 [mv 10 0,mv 11 1,oO 12 .len [.tmp 11],cL 13 n_ref3_Uint false [.tmp 10,.cst (.t (.int .i64 2)),.tmp 12],mv 14 1,oO 15 (.append 1 1) [.tmp 13,.tmp 14],mv 4 15])
 .ret)))
def jO (n_ref3_Reader_need:Nat):AC:=
 (.seq
 (rG 4096 [mC 4 .nil])
 (.seq
 (.seq
 (rG 8192 [mv 6 0,oO 7 .nilchk [.tmp 6],oO 8 (.faddr 2) [.tmp 7],oO 9 (.load 1 false) [.tmp 8],bN 10 .neq 9 0,mv 11 10,mF 12 0 11,cF 13 11 n_ref3_Reader_need true [.tmp 12,.cst (.t (.int .i64 2))],oF 14 11 (.un .not) [.tmp 13],oO 15 .pick [.tmp 11,.cst (.t (.bool true)),.tmp 14]])
 (.cond (.tmp 15)
 (.seq
 (rG 12288 [mC 4 .nil])
 .ret)
 .skip))
 (.seq
 (.reg 16384 (some [0,1,3,7,0,16,48,112,255,511,1023,2047,0,4096,12288,28672,0,65536,196608,458752,983040,2093056,4190208,8384512,16777215,33554431]) [mv 16 0,oO 17 .nilchk [.tmp 16],oO 18 (.faddr 0) [.tmp 17],oO 19 (.load 1 false) [.tmp 18],mv 20 0,oO 21 .nilchk [.tmp 20],oO 22 (.faddr 1) [.tmp 21],oO 23 (.load 1 false) [.tmp 22],oO 24 (.iaddr 1) [.tmp 19,.tmp 23],oO 25 (.load 1 false) [.tmp 24],oO 26 (.conv .i64) [.tmp 25],oO 27 (.bin .shl) [.tmp 26,.cst (.t (.int .u64 8))],mv 28 0,oO 29 .nilchk [.tmp 28],oO 30 (.faddr 0) [.tmp 29],oO 31 (.load 1 false) [.tmp 30],mv 32 0,oO 33 .nilchk [.tmp 32],oO 34 (.faddr 1) [.tmp 33],oO 35 (.load 1 false) [.tmp 34],bN 36 .add 35 1,oO 37 (.iaddr 1) [.tmp 31,.tmp 36],oO 38 (.load 1 false) [.tmp 37],oO 39 (.conv .i64) [.tmp 38],bT 40 .or 27 39,mv 5 40])
 (.seq
 (.seq
 (rG 20480 [mv 41 5,mv 42 1,bT 43 .gtr 41 42])
 (.cond (.tmp 43)
 (.seq
 (rG 24576 [mv 44 0,oO 45 .nilchk [.tmp 44],oO 46 (.faddr 2) [.tmp 45],⟨none,(.op (.store 1)),[.tmp 46,.cst (.t (.int .i64 4))],none⟩])
 (.seq
 (rG 28672 [mC 4 .nil])
 .ret))
 .skip))
 (.seq
 (.seq
 (rG 32768 [mv 47 0,mv 48 5,oO 49 (.bin .add) [.cst (.t (.int .i64 2)),.tmp 48],cL 50 n_ref3_Reader_need true [.tmp 47,.tmp 49],oO 51 (.un .not) [.tmp 50]])
 (.cond (.tmp 51)
 (.seq
 (rG 36864 [mC 4 .nil])
 .ret)
 .skip))
 (.seq
 (rG 40960 [mv 52 0,oO 53 .nilchk [.tmp 52],oO 54 (.faddr 1) [.tmp 53],oO 55 (.load 1 false) [.tmp 54],mv 56 5,oO 57 (.bin .add) [.cst (.t (.int .i64 2)),.tmp 56],bT 58 .add 55 57,oO 59 .nilchk [.tmp 52],oO 60 (.faddr 1) [.tmp 59],oS 1 60 58])
 (.seq
 (.reg 45056 (some [0,0,2,6,14,0,32,96,224,0,992,0,2048,6144,14336,32766,65535,131071]) [oO 61 (.bslice 1 0 (.t (qA 0)) []) [],mv 62 0,oO 63 .nilchk [.tmp 62],oO 64 (.faddr 0) [.tmp 63],oO 65 (.load 1 false) [.tmp 64],mv 66 0,oO 67 .nilchk [.tmp 66],oO 68 (.faddr 1) [.tmp 67],oO 69 (.load 1 false) [.tmp 68],mv 70 5,bT 71 .sub 69 70,mv 72 0,oO 73 .nilchk [.tmp 72],oO 74 (.faddr 1) [.tmp 73],oO 75 (.load 1 false) [.tmp 74],oO 76 (.slice 1 true true false) [.tmp 65,.tmp 71,.tmp 75],oO 77 (.append 1 1) [.tmp 61,.tmp 76],mv 4 77])
 .ret)))))))
end Go.Eng
end
section
set_option maxRecDepth 20000
set_option maxHeartbeats 64000000
namespace Go.Eng
abbrev Ev:=Int×Int×List (List UInt8)×List UInt8
def evT (e:Ev):T:= .agg [.int .i64 e.1,.int .i64 e.2.1,.sl (e.2.2.1.map bsT),.sl (e.2.2.2.map qA)]
theorem yT {a b:Int} {c:List (List UInt8)} {d:List UInt8}:evT (a,b,c,d) = .agg [.int .i64 a,.int .i64 b,.sl (c.map bsT),.sl (d.map qA)]:=Eq.trans (Eq.refl _) rfl
theorem zEs {e f:Ev} (h:evT e=evT f):e=f:=by
 obtain⟨a,b,c,d⟩:=e
 obtain⟨a',b',c',d'⟩:=f
 simp only[yT,T.agg.injEq,List.cons.injEq,T.int.injEq,T.sl.injEq,true_and,and_true,qCz,qP] at h
 obtain⟨rfl,rfl,rfl,rfl⟩:=h
 rfl
def evM (e:Ev):Prop:=zTs e.2.2.1∧e.2.2.2.length<1000000000
def qCn (kind act:Int) (a:Nat):Nat:=if kind≠5∧act/2^a%2=1 then szA a else 0
def zI4 (r k act:Int):Prop:=act<1∨3<act∨r<0∨11<r∨k<1∨5<k
instance {r k act:Int}:Decidable (zI4 r k act):=by unfold zI4;infer_instance
def zNv (k act:Int) (ds:List (List UInt8)):Bool:=decide (ds.length=2)&&decide ((ds.getD 0 []).length=qCn k act 0)&&decide ((ds.getD 1 []).length=qCn k act 1)
def qEc (e:Ev) (act:Int):Int:=if zI4 e.1 e.2.1 act then 1 else if 64<e.2.2.2.length then 4 else if zNv e.2.1 act e.2.2.1 then 0 else 27
theorem zC9 {act:Int} {a:Nat}:qCn 5 act a=0:=if_neg (by simp)
theorem jDt {α:Type} {l:List α} (h:l.length=2) : ∃ a b,l=[a,b]:=by
 match l,h with
 | [a,b],_=>exact⟨a,b,rfl⟩
theorem qRs {k act:Int} {d0 d1:List UInt8}:zNv k act [d0,d1]=(decide (d0.length=qCn k act 0)&&decide (d1.length=qCn k act 1)):=by simp[zNv]
theorem zUv {r k act:Int} (hb : ¬ zI4 r k act):(¬ act<1 ∧ ¬ 3<act)∧(¬ r<0 ∧ ¬ 11<r)∧(¬ k<1 ∧ ¬ 5<k):=by
 unfold zI4 at hb;omega
theorem zYh {k s:Int}:qCn k s 0=if k≠5∧s%2=1 then 20 else 0:=by unfold qCn;simp[szA]
theorem zYi {k s:Int}:qCn k s 1=if k≠5∧s/2%2=1 then 32 else 0:=by unfold qCn;simp[szA]
def qH1:Ct where
 α:=List UInt8
 as x:=[.t (.sl (x.map qA))]
 ins _:=[]
 pre x:=x.length<1000000000
 r x:= .t (.sl (x.map qA))
 outs _:=[]
 inj:=by
  intro a b h _
  simp only[List.cons.injEq,V.t.injEq,T.sl.injEq,and_true,qP] at h
  subst h;exact⟨rfl,rfl⟩
theorem zJg {x:List UInt8} (h:x.length<1000000000):qH1.fs [.t (.sl (x.map qA))] []=some (.t (.sl (x.map qA)),[]):=qH1.eq x h
theorem qSs (tab:Tab) (gl:Gl) (x:List UInt8) (hx:x.length<1000000000):qCc.wp tab gl (qE 0 [.t (.sl (x.map qA))]) (qE 0 []) (jK [(2,none)] 0 (fun r o=>r = .t (.sl (x.map qA))∧o=[])):=by
 match x,hx with
 | [],hx=>simp (disch:=omega) only [go_sem,seval,qCc,List.map_nil]
 | a::r,hx=>
  simp only[List.length_cons] at hx
  simp (disch:=omega) only [go_sem,seval,qCc,List.map_cons,List.take_length]
def mkD (k act:Int) (d:List UInt8) (a:Nat):List UInt8:=if k≠5∧act/2^a%2=1 then zCn a d else []
def mkE (r k act:Int) (d:List UInt8):Ev:=(r,k,[mkD k act d 0,mkD k act d 1],d)
def qJa:Ct where
 α:=Int×Int×Int×List UInt8
 as x:=[.t (.int .i64 x.1),.t (.int .i64 x.2.1),.t (.int .i64 x.2.2.1),.t (.sl (x.2.2.2.map qA))]
 ins _:=[]
 pre x:=(0≤x.2.2.1∧x.2.2.1<4)∧x.2.2.2.length<1000000000
 r x:= .t (evT (mkE x.1 x.2.1 x.2.2.1 x.2.2.2))
 outs _:=[]
 inj:=by
  rintro⟨a,b,c,d⟩ ⟨a',b',c',d'⟩ h _
  simp only[List.cons.injEq,V.t.injEq,T.int.injEq,T.sl.injEq,true_and,and_true,qP] at h
  obtain⟨rfl,rfl,rfl,rfl⟩:=h
  exact⟨rfl,rfl⟩
def mkA (k act:Int) (d:List UInt8) (i a:Nat):List UInt8:=if a<i then mkD k act d a else []
theorem zQj {k act:Int} {d:List UInt8} {a:Nat}:mkA k act d 0 a=[]:=if_neg (by omega)
theorem qUv {k act:Int} {d:List UInt8}:mkA k act d 1 0=mkD k act d 0:=if_pos (by omega)
theorem qUw {k act:Int} {d:List UInt8}:mkA k act d 1 1=[]:=if_neg (by omega)
theorem zKv {k act:Int} {d:List UInt8} {a:Nat} (h:a<2):mkA k act d 2 a=mkD k act d a:=if_pos h
theorem jD0 {k act:Int} {d:List UInt8}:mkD k act d 0=if k≠5∧act%2=1 then qTd d else []:=by unfold mkD;simp[zCn]
theorem jD1 {k act:Int} {d:List UInt8}:mkD k act d 1=if k≠5∧act/2%2=1 then zS d else []:=by unfold mkD;simp[zCn]
theorem qVw (tab:Tab) (gl:Gl) (n1 n2:Nat) (h1:tab.look n1=some qH1.fs) (h2:tab.look n2=some qAe.fs) (r k act:Int) (d:List UInt8) (ha:0≤act∧act<4) (hd:d.length<1000000000) :
  (qHo n1 n2).wp tab gl (qE 0 [.t (.int .i64 r),.t (.int .i64 k),.t (.int .i64 act),.t (.sl (d.map qA))]) (qE 0 []) (jK [(8,some (4,true))] 0 (fun r' o=>r' = .t (evT (mkE r k act d))∧o=[])):=by
 have hc:=zJg hd
 have s0:=zU hd
 have s1:=zO hd
 have e0:=jD0 (k:=k) (act:=act) (d:=d)
 have e1:=jD1 (k:=k) (act:=act) (d:=d)
 have l0:(qTd d).length=20:=vA
 have l1:(zS d).length=32:=qH
 have t0:List.take 20 (qTd d)=qTd d:=qC4
 have t1:List.take 32 (zS d)=zS d:=kZ
 generalize qTd d=S0 at *
 generalize zS d=S1 at *
 simp (disch:=omega) only [go_sem,seval,qHo,h1,hc]
 repeat refine And.intro rfl ?_
 refine qD 2 (fun i=>[(1,.t (.int .i64 k)),(2,.t (.int .i64 act)),(3,.t (.sl (d.map qA))),(8,.ref 4096 0 0),(9,.ref 8288 0 0),(19,.t (.int .i64 2)),(20,.t (.int .i64 (i:Nat)))])
  (fun i=>[(8288,.live 4 [.agg [.t (.int .i64 r),.t (.int .i64 k),.sl 8224 0 2,.t (.sl (d.map qA))]] true true),(8224,.live 1 [.t (.sl ((mkA k act d i 0).map qA)),.t (.sl ((mkA k act d i 1).map qA))] true false),(4096,.live 4 [.agg [.t (.int .i64 0),.t (.int .i64 0),.nil,.nil]] true true)]) ?_ (fun i hi=>?_)
 ·refine qQ.rd id ?_ ?_ rfl
  all_goals simp (disch:=omega) only [go_sem,seval,id,zQj,List.map_nil]
 ·rcases (show i=0∨i=1∨i=2 by omega) with rfl | rfl | rfl
  ·rcases (show k=5∨k≠5 by omega) with rfl | hk
   ·rw[if_neg (by simp)] at e0
    simp (disch:=omega) only [go_sem,seval,yH,zQj]
    refine qQ.rd id ?_ ?_ rfl
    all_goals simp (disch:=omega) only [go_sem,seval,id,qUv,qUw,e0,List.map_nil]
   ·have k5:(k==5)=false:=by simpa using hk
    have b5:(k != 5)=true:=by simpa using hk
    rcases (show act=0∨act=1∨act=2∨act=3 by omega) with rfl | rfl | rfl | rfl
    all_goals simp only[hk,ne_eq,not_false_eq_true,true_and,Int.reduceMod,Int.reduceEq,if_true,if_false] at e0
    all_goals simp (disch:=omega) only [go_sem,seval,yH,zQj,k5,b5,h2,s0,Int.reduceFDiv]
    all_goals first
     | (refine⟨rfl,qQ.cv (hv:=[]) [28752] id ?_ rfl⟩;simp (disch:=omega) only [go_sem,seval,id,qUv,qUw,e0,l0,t0,List.map_nil];rfl)
     | (refine qQ.rd id ?_ ?_ rfl;all_goals simp (disch:=omega) only [go_sem,seval,id,qUv,qUw,e0,List.map_nil])
  ·rcases (show k=5∨k≠5 by omega) with rfl | hk
   ·rw[if_neg (by simp)] at e1
    simp (disch:=omega) only [go_sem,seval,yH,qUv,qUw]
    refine qQ.rd id ?_ ?_ rfl
    all_goals simp (disch:=omega) only [go_sem,seval,id,zKv,e1,List.map_nil]
   ·have k5:(k==5)=false:=by simpa using hk
    have b5:(k != 5)=true:=by simpa using hk
    rcases (show act=0∨act=1∨act=2∨act=3 by omega) with rfl | rfl | rfl | rfl
    all_goals simp only[hk,ne_eq,not_false_eq_true,true_and,Int.reduceDiv,Int.reduceMod,Int.reduceEq,if_true,if_false] at e1
    all_goals simp (disch:=omega) only [go_sem,seval,yH,qUv,qUw,k5,b5,h2,s1,Int.reduceFDiv]
    all_goals first
     | (refine⟨rfl,qQ.cv (hv:=[]) [28752] id ?_ rfl⟩;simp (disch:=omega) only [go_sem,seval,id,zKv,e1,l1,t1,List.map_nil];rfl)
     | (refine qQ.rd id ?_ ?_ rfl;all_goals simp (disch:=omega) only [go_sem,seval,id,zKv,e1,List.map_nil])
  ·simp (disch:=omega) only [go_sem,seval,yH,zKv,mkE,yT,List.map_cons,List.map_nil]
def qVh:List UInt8:=[0,0,0,0]
def okC (c:UInt8):Bool := !decide (c.toNat<32) && !decide (c.toNat>126)
def blL (b x:List UInt8):List UInt8:=b++beI 2 (x.length:Int) 2++x
theorem yJ {b x:List UInt8}:(blL b x).length=b.length+2+x.length:=by unfold blL;rw[List.length_append,List.length_append,jB]
def qA9:Ct where
 α:=List UInt8×List UInt8
 as x:=[.t (.sl (x.1.map qA)),.t (.sl (x.2.map qA))]
 ins _:=[]
 pre x:=x.1.length<100000000∧x.2.length≤65535
 r x:= .sl 0 0 (x.1.length+2+x.2.length)
 outs x:=[.live 1 (((blL x.1 x.2).map qA).map V.t) true false]
 inj:=by
  rintro⟨a,b⟩ ⟨c,d⟩ h _
  simp only[List.cons.injEq,V.t.injEq,T.sl.injEq,and_true,qP] at h
  obtain⟨rfl,rfl⟩:=h
  exact⟨rfl,rfl⟩
theorem qA5 {b x:List UInt8} (h:b.length<100000000∧x.length≤65535):qA9.fs [.t (.sl (b.map qA)),.t (.sl (x.map qA))] []=some (.sl 0 0 (b.length+2+x.length),[.live 1 (((blL b x).map qA).map V.t) true false]):=qA9.eq (b,x) h
theorem qYx (tab:Tab) (gl:Gl) (n1:Nat) (h1:tab.look n1=some wF.fs) (b x:List UInt8) (hb:b.length<100000000) (hx:x.length≤65535) :
  (qKh n1).wp tab gl (qE 0 [.t (.sl (b.map qA)),.t (.sl (x.map qA))]) (qE 0 []) (qAg [] [(4,none)] 0 (fun r o=>r = .sl 0 0 (b.length+2+x.length)∧o=[.live 1 (((blL b x).map qA).map V.t) true false])):=by
 have hu:=qVl (b:=b) (n:=(x.length:Int)) (by omega)
 have hl:(b++beI 2 (x.length:Int) 2).length=b.length+2:=by rw[List.length_append,jB]
 have hbl:blL b x=b++beI 2 (x.length:Int) 2++x:=rfl
 have hno : ¬ 65535<(x.length:Int):=by omega
 rw[hbl]
 generalize b++beI 2 (x.length:Int) 2=B at *
 simp (disch:=omega) only [go_sem,seval,qKh,h1,hu,hl,hno,List.take_length]
theorem qYr (tab:Tab) (gl:Gl) (n1:Nat) (h1:tab.look n1=some wF.fs) (b x:List UInt8) (hb:b.length<100000000) (hx:x.length≤65535) :
  (qKc n1).wp tab gl (qE 0 [.t (.sl (b.map qA)),.t (.sl (x.map qA))]) (qE 0 []) (qAg [] [(4,none)] 0 (fun r o=>r = .sl 0 0 (b.length+2+x.length)∧o=[.live 1 (((blL b x).map qA).map V.t) true false])):=by
 have hu:=qVl (b:=b) (n:=(x.length:Int)) (by omega)
 have hl:(b++beI 2 (x.length:Int) 2).length=b.length+2:=by rw[List.length_append,jB]
 have hbl:blL b x=b++beI 2 (x.length:Int) 2++x:=rfl
 have hno : ¬ 65535<(x.length:Int):=by omega
 rw[hbl]
 generalize b++beI 2 (x.length:Int) 2=B at *
 simp (disch:=omega) only [go_sem,seval,qKc,h1,hu,hl,hno,List.take_length]
def zYl (r k:Int) (n m:Nat):Prop:=r<0∨11<r∨k<1∨5<k∨n≠2∨64<m
instance {r k:Int} {n m:Nat}:Decidable (zYl r k n m):=by unfold zYl;infer_instance
theorem zMo {a:Nat} {k':IntKind} (h:a<1000000):qO7 .shl .i64 (a:Int) k' 8=some (.int .i64 ((256*a:Nat):Int)):=by
 change (if (8:Int)<0 then none else some (T.int .i64 (IntKind.i64.wrap ((a:Int)*2^min (8:Int).toNat 64))))=_
 rw[if_neg (by omega),show (a:Int)*2^min (8:Int).toNat 64=((256*a:Nat):Int) by
  rw[show min (8:Int).toNat 64=8 from rfl];omega,xB (by omega)]
theorem zQy {a:Nat} {x:UInt8} (h:a<1000000):qO7 .or .i64 ((256*a:Nat):Int) .i64 (x.toNat:Int)=some (.int .i64 ((256*a+x.toNat:Nat):Int)):=by
 have hx:=x.toNat_lt
 change some (T.int .i64 (IntKind.i64.wrap ((BitVec.ofInt 64 ((256*a:Nat):Int) ||| BitVec.ofInt 64 (x.toNat:Int)).toNat:Int)))=_
 have e:(BitVec.ofInt 64 ((256*a:Nat):Int) ||| BitVec.ofInt 64 (x.toNat:Int)).toNat=256*a+x.toNat:=by
  rw[BitVec.toNat_or,BitVec.toNat_ofInt,BitVec.toNat_ofInt,Int.emod_eq_of_lt (by omega) (by omega),Int.emod_eq_of_lt (by omega) (by omega),Int.toNat_natCast,Int.toNat_natCast,or8 (by omega)]
 rw[e,xB (by omega)]
attribute [go_sem ↓] zMo zQy
def qV (s:Rd) (most:Nat):List UInt8×Rd:=
 if s.2.2≠0 then ([],s) else if s.1.length<s.2.1+2 then ([],(s.1,s.2.1,2))
 else if most<beV ((s.1.drop s.2.1).take 2) then ([],(s.1,s.2.1,4))
 else if s.1.length<s.2.1+2+beV ((s.1.drop s.2.1).take 2) then ([],(s.1,s.2.1,2))
 else ((s.1.drop (s.2.1+2)).take (beV ((s.1.drop s.2.1).take 2)),(s.1,s.2.1+2+beV ((s.1.drop s.2.1).take 2),0))
def xF:Ct where
 α:=Rd×Nat
 as x:=[.ref 0 0 0,.t (.int .i64 x.2)]
 ins x:=[qBg x.1]
 pre x:=qGd x.1∧x.2≤65535
 r x:= .t (.sl ((qV x.1 x.2).1.map qA))
 outs x:=[qBg (qV x.1 x.2).2]
 inj:=by
  rintro⟨s,a⟩ ⟨t,c⟩ h1 h2
  simp only[List.cons.injEq,V.t.injEq,T.int.injEq,true_and,and_true,Int.natCast_inj] at h1
  simp only[List.cons.injEq,and_true] at h2
  subst h1
  cases qDq h2
  exact⟨rfl,rfl⟩
theorem xG {s:Rd} {k:Nat} (h:qGd s∧k≤65535):xF.fs [.ref 0 0 0,.t (.int .i64 k)] [rdO s]=some (.t (.sl ((qV s k).1.map qA)),[rdO (qV s k).2]):=xF.eq (s,k) h
theorem zW7 {b:List UInt8} {a:Nat} (h:a+2≤b.length):List.take 2 (List.drop a b)=[b.getD a 0,b.getD (a+1) 0]:=by
 have e:List.drop a b=b[a]'(by omega)::b[a+1]'(by omega)::List.drop (a+2) b:=by
  rw[List.drop_eq_getElem_cons (by omega),List.drop_eq_getElem_cons (by omega)]
 have g0:b.getD a 0=b[a]'(by omega):=by simp[List.getD,show a<b.length by omega]
 have g1:b.getD (a+1) 0=b[a+1]'(by omega):=by simp[List.getD,show a+1<b.length by omega]
 rw[e,g0,g1];rfl
theorem jCy {x y:UInt8}:beV [x,y]=256*x.toNat+y.toNat:=by simp[beV]
theorem vS {s:Rd} {k:Nat}:(qV s k).1.length≤k:=by
 unfold qV
 split
 ·simp
 ·split
  ·simp
  ·split
   ·simp
   ·split
    ·simp
    ·simp only[List.length_take];omega
theorem wI {s:Rd} {k:Nat} (h:qGd s):qGd (qV s k).2:=by
 unfold qV
 unfold qGd at *
 split
 ·exact h
 ·split
  ·exact h
  ·split
   ·exact h
   ·split
    ·exact h
    ·exact⟨by simp only;omega,h.2⟩
theorem qI3 (tab:Tab) (gl:Gl) (n1 n2:Nat) (h1:tab.look n1=some yY.fs) (h2:tab.look n2=some qI9.fs) (s:Rd) (hs:qGd s) (k:Nat) (hk:k≤65535) :
  (jP n1 n2).wp tab gl (qE 0 [.ref 0 0 0,.t (.int .i64 k)]) (qE 0 [qBg s]) (jK [(4,none)] 1 (fun r o=>r = .t (.sl ((qV s k).1.map qA))∧o=[qBg (qV s k).2])):=by
 obtain⟨b,a,e⟩:=s
 have ha:a≤b.length∧b.length<1000000000:=hs
 by_cases he:e=0
 ·subst he
  by_cases hl:b.length<a+2
  ·have hr:qV (b,a,0) k=([],(b,a,2)):=by unfold qV;simp[hl]
   rw[hr]
   have ht:=qYa (b:=b) (a:=a) (p:=a) (n:=2) (e:=0) ⟨ha.1,ha.2,ha.1,by omega,by omega⟩
   have k2:((2:Nat):Int)=2:=rfl
   rw[k2] at ht
   simp (disch:=omega) only [go_sem,seval,jP,zZ,h1,h2,ht,qNr,List.map_nil]
  ·have t2:=zW7 (b:=b) (a:=a) (by omega)
   have ht:=qYb (b:=b) (a:=a) (p:=a) (n:=2) (e:=0) ⟨ha.1,ha.2,by omega⟩
   have k2:((2:Nat):Int)=2:=rfl
   rw[k2,t2] at ht
   have hb:=jCy (x:=b.getD a 0) (y:=b.getD (a+1) 0)
   have hx:=(b.getD a 0).toNat_lt
   have hy:=(b.getD (a+1) 0).toNat_lt
   have hr:qV (b,a,0) k=if k<256*(b.getD a 0).toNat+(b.getD (a+1) 0).toNat then ([],(b,a,4)) else if b.length<a+2+(256*(b.getD a 0).toNat+(b.getD (a+1) 0).toNat) then ([],(b,a,2)) else ((b.drop (a+2)).take (256*(b.getD a 0).toNat+(b.getD (a+1) 0).toNat),(b,a+2+(256*(b.getD a 0).toNat+(b.getD (a+1) 0).toNat),0)):=by
    unfold qV
    simp only[t2,hb]
    rw[if_neg (by simp),if_neg hl]
   rw[hr]
   simp only[List.map_cons,List.map_nil] at ht
   by_cases c1:k<256*(b.getD a 0).toNat+(b.getD (a+1) 0).toNat
   ·rw[if_pos c1]
    simp (disch:=omega) only [go_sem,seval,jP,zZ,h1,h2,ht,qNr,c1,List.map_nil]
    rfl
   ·rw[if_neg c1]
    have hn:((b.getD a 0).toNat<256)∧(b.getD (a+1) 0).toNat<256:=⟨hx,hy⟩
    generalize hN:256*(b.getD a 0).toNat+(b.getD (a+1) 0).toNat=N at *
    have hN2:N≤65535:=by omega
    by_cases c2:b.length<a+2+N
    ·rw[if_pos c2]
     have ht2:=qYa (b:=b) (a:=a) (p:=a+2) (n:=N) (e:=0) ⟨ha.1,ha.2,by omega,by omega,c2⟩
     simp (disch:=omega) only [go_sem,seval,jP,zZ,h1,h2,ht,hN,ht2,qNr,c1,List.map_nil]
     rfl
    ·rw[if_neg c2]
     have ht2:=qYb (b:=b) (a:=a) (p:=a+2) (n:=N) (e:=0) ⟨ha.1,ha.2,by omega⟩
     have hc:(List.take N (List.drop (a+2) b)).length=N:=by simp only[List.length_take,List.length_drop];omega
     have tt:List.take N (List.take N (List.drop (a+2) b))=List.take N (List.drop (a+2) b):=List.take_of_length_le (by omega)
     simp (disch:=omega) only [go_sem,seval,jP,zZ,h1,h2,ht,hN,ht2,qNr,c1,hc,tt]
     exact⟨rfl,by omega⟩
 ·have hr:qV (b,a,e) k=([],(b,a,e)):=by unfold qV;rw[if_pos he]
  rw[hr]
  simp (disch:=omega) only [go_sem,seval,jP,zZ,ne_eq,he,List.map_nil]
theorem qIy (tab:Tab) (gl:Gl) (n1:Nat) (h1:tab.look n1=some vQ.fs) (s:Rd) (hs:qGd s) (k:Nat) (hk:k≤65535) :
  (jO n1).wp tab gl (qE 0 [.ref 0 0 0,.t (.int .i64 k)]) (qE 0 [qBg s]) (jK [(4,none)] 1 (fun r o=>r = .t (.sl ((qV s k).1.map qA))∧o=[qBg (qV s k).2])):=by
 obtain⟨b,a,e⟩:=s
 have ha:a≤b.length∧b.length<1000000000:=hs
 by_cases he:e=0
 ·subst he
  by_cases hl:b.length<a+2
  ·have hr:qV (b,a,0) k=([],(b,a,2)):=by unfold qV;simp[hl]
   rw[hr]
   have ht:=qXk (b:=b) (a:=a) (k:=2) ⟨ha.1,ha.2,by omega,by omega⟩
   have k2:((2:Nat):Int)=2:=rfl
   rw[k2] at ht
   simp (disch:=omega) only [go_sem,seval,jO,zZ,h1,ht,List.map_nil]
  ·have t2:=zW7 (b:=b) (a:=a) (by omega)
   have ht:=qXl (b:=b) (a:=a) (k:=2) ⟨ha.1,ha.2,by omega⟩
   have k2:((2:Nat):Int)=2:=rfl
   rw[k2] at ht
   have hb:=jCy (x:=b.getD a 0) (y:=b.getD (a+1) 0)
   have hx:=(b.getD a 0).toNat_lt
   have hy:=(b.getD (a+1) 0).toNat_lt
   have hr:qV (b,a,0) k=if k<256*(b.getD a 0).toNat+(b.getD (a+1) 0).toNat then ([],(b,a,4)) else if b.length<a+2+(256*(b.getD a 0).toNat+(b.getD (a+1) 0).toNat) then ([],(b,a,2)) else ((b.drop (a+2)).take (256*(b.getD a 0).toNat+(b.getD (a+1) 0).toNat),(b,a+2+(256*(b.getD a 0).toNat+(b.getD (a+1) 0).toNat),0)):=by
    unfold qV
    simp only[t2,hb]
    rw[if_neg (by simp),if_neg hl]
   rw[hr]
   have hn:((b.getD a 0).toNat<256)∧(b.getD (a+1) 0).toNat<256:=⟨hx,hy⟩
   generalize hN:256*(b.getD a 0).toNat+(b.getD (a+1) 0).toNat=N at *
   have hN2:N≤65535:=by omega
   by_cases c1:k<N
   ·rw[if_pos c1]
    simp (disch:=omega) only [go_sem,seval,jO,zZ,h1,ht,hN,c1,List.map_nil]
    rfl
   ·rw[if_neg c1]
    by_cases c2:b.length<a+2+N
    ·rw[if_pos c2]
     have ht2:=qXk (b:=b) (a:=a) (k:=2+N) ⟨ha.1,ha.2,by omega,by omega⟩
     simp (disch:=omega) only [go_sem,seval,jO,zZ,h1,ht,hN,ht2,c1,List.map_nil]
     rfl
    ·rw[if_neg c2]
     have ht2:=qXl (b:=b) (a:=a) (k:=2+N) ⟨ha.1,ha.2,by omega⟩
     have hc:(List.take N (List.drop (a+2) b)).length=N:=by simp only[List.length_take,List.length_drop];omega
     have tt:List.take N (List.take N (List.drop (a+2) b))=List.take N (List.drop (a+2) b):=List.take_of_length_le (by omega)
     have e1:a+(2+N)-N=a+2:=by omega
     have e2:a+(2+N)-(a+2)=N:=by omega
     have e3:a+2+N=a+(2+N):=by omega
     rw[e3]
     simp (disch:=omega) only [go_sem,seval,jO,zZ,h1,ht,hN,ht2,c1,e1,e2,hc,tt]
     exact⟨rfl,rfl⟩
 ·have hr:qV (b,a,e) k=([],(b,a,e)):=by unfold qV;rw[if_pos he]
  rw[hr]
  simp (disch:=omega) only [go_sem,seval,jO,zZ,ne_eq,he,List.map_nil]
end Go.Eng
end
section
namespace Go.Eng
def qBt:AC:=
 (.seq
 (rG 4096 [mC 2 (.t (.int .i64 0))])
 (.seq
 (.seq
 (rG 8192 [mv 3 0,bN 4 .eql 3 2])
 (.cond (.tmp 4)
 (.seq
 (rG 12288 [mC 2 (.t (.int .i64 17))])
 .ret)
 .skip))
 (.seq
 (rG 16384 [mC 2 (.t (.int .i64 32))])
 .ret)))
def qHj (n_area_uniqueSize:Nat):AC:=
 (.seq
 (rG 4096 [oO 1 .box [.tmp 0],mC 2 (.t (.int .i64 0))])
 (.seq
 (rG 8192 [oO 4 (.faddr 0) [.tmp 1],oO 5 (.load 1 false) [.tmp 4],bN 6 .eql 5 2,mv 3 6])
 (.seq
 (.block 0
 (.seq
 (rG 12288 [oO 8 (.faddr 0) [.tmp 1],oO 9 (.load 1 false) [.tmp 8],bN 10 .lss 9 1,mv 11 10,oF 12 11 (.faddr 0) [.tmp 1],oF 13 11 (.load 1 false) [.tmp 12],oF 14 11 (.bin .gtr) [.tmp 13,.cst (.t (.int .i64 3))],oO 15 .pick [.tmp 11,.cst (.t (.bool true)),.tmp 14],mv 7 15])
 (.cond (.tmp 7)
 (.seq
 (rG 16384 [mC 2 (.t (.int .i64 19))])
 .ret)
 (.seq
 (.seq
 (rG 20480 [oO 17 (.faddr 1) [.tmp 1],oO 18 (.load 1 false) [.tmp 17],bN 19 .lss 18 0,mv 20 19,oF 21 20 (.faddr 1) [.tmp 1],oF 22 20 (.load 1 false) [.tmp 21],oF 23 20 (.bin .gtr) [.tmp 22,.cst (.t (.int .i64 7))],oO 24 .pick [.tmp 20,.cst (.t (.bool true)),.tmp 23],mv 16 24])
 (.cond (.tmp 16)
 .skip
 (.seq
 (rG 24576 [oO 25 (.faddr 1) [.tmp 1],oO 26 (.load 1 false) [.tmp 25],bN 27 .and 26 4,bN 28 .neq 27 0,mv 29 28,mG 30 3 29,oG 31 29 (.un .not) [.tmp 30],oO 32 .pick [.tmp 29,.tmp 31,.cst (.t (.bool false))],mv 16 32])
 (.cond (.tmp 16)
 .skip
 (rG 28672 [oO 33 (.faddr 1) [.tmp 1],oO 34 (.load 1 false) [.tmp 33],bN 35 .and 34 1,bN 36 .eql 35 0,mv 37 36,oG 38 37 (.faddr 3) [.tmp 1],oG 39 37 (.load 1 false) [.tmp 38],oG 40 37 .len [.tmp 39],oG 41 37 (.bin .eql) [.tmp 40,.cst (.t (.int .i64 0))],oO 42 .pick [.tmp 37,.tmp 41,.cst (.t (.bool false))],mv 16 42])))))
 (.cond (.tmp 16)
 (.seq
 (rG 32768 [mC 2 (.t (.int .i64 20))])
 .ret)
 (.seq
 (.seq
 (rG 36864 [oO 44 (.faddr 2) [.tmp 1],oO 45 (.load 1 false) [.tmp 44],bN 46 .lss 45 0,mv 47 46,oF 48 47 (.faddr 2) [.tmp 1],oF 49 47 (.load 1 false) [.tmp 48],oF 50 47 (.bin .gtr) [.tmp 49,.cst (.t (.int .i64 3))],oO 51 .pick [.tmp 47,.cst (.t (.bool true)),.tmp 50],mv 43 51])
 (.cond (.tmp 43)
 .skip
 (.seq
 (rG 40960 [oO 52 (.faddr 2) [.tmp 1],oO 53 (.load 1 false) [.tmp 52],bN 54 .neq 53 0,mv 55 54,mG 56 3 55,oG 57 55 (.un .not) [.tmp 56],oO 58 .pick [.tmp 55,.tmp 57,.cst (.t (.bool false))],mv 43 58])
 (.cond (.tmp 43)
 .skip
 (.seq
 (rG 45056 [oO 59 (.faddr 3) [.tmp 1],oO 60 (.load 1 false) [.tmp 59],oO 61 .len [.tmp 60],bN 62 .neq 61 0,mv 63 62,oG 64 63 (.faddr 3) [.tmp 1],oG 65 63 (.load 1 false) [.tmp 64],oG 66 63 .len [.tmp 65],oG 67 63 (.bin .neq) [.tmp 66,.cst (.t (.int .i64 32))],oO 68 .pick [.tmp 63,.tmp 67,.cst (.t (.bool false))],mv 43 68])
 (.cond (.tmp 43)
 .skip
 (.reg 49152 (some [0,1,3,0,8,24,63,127]) [oO 69 (.faddr 4) [.tmp 1],oO 70 (.load 1 false) [.tmp 69],oO 71 .len [.tmp 70],oO 72 (.faddr 0) [.tmp 1],oO 73 (.load 1 false) [.tmp 72],cL 74 n_area_uniqueSize false [.tmp 73],bT 75 .neq 71 74,mv 43 75])))))))
 (.cond (.tmp 43)
 (.seq
 (rG 53248 [mC 2 (.t (.int .i64 1))])
 .ret)
 .skip)))))))
 (.seq
 (rG 57344 [mC 2 (.t (.int .i64 0))])
 .ret))))
def qFt (n_wire_Blob:Nat):AC:=
 (.seq
 (rG 4096 [oO 1 .box [.tmp 0],mC 2 .nil])
 (.seq
 (.reg 8192 (some [0,1,3,0,8,24,0,64,192,511,0,1024,4095,0,8192,32767,65535]) [oO 3 (.faddr 0) [.tmp 1],oO 4 (.load 1 false) [.tmp 3],oO 5 (.conv .u8) [.tmp 4],oO 6 (.faddr 1) [.tmp 1],oO 7 (.load 1 false) [.tmp 6],oO 8 (.conv .u8) [.tmp 7],oO 9 (.faddr 2) [.tmp 1],oO 10 (.load 1 false) [.tmp 9],oO 11 (.conv .u8) [.tmp 10],oO 12 (.bslice 1 3 (.t (qA 0)) [0,1,2]) [.tmp 5,.tmp 8,.tmp 11],oO 13 (.faddr 3) [.tmp 1],oO 14 (.load 1 false) [.tmp 13],cL 15 n_wire_Blob false [.tmp 12,.tmp 14],oO 16 (.faddr 4) [.tmp 1],oO 17 (.load 1 false) [.tmp 16],cL 18 n_wire_Blob false [.tmp 15,.tmp 17],mv 2 18])
 .ret))
def qJ3 (n_area_Encode n_digest_Hash:Nat):AC:=
 (.seq
 (rG 4096 [oO 1 .box [.tmp 0],mC 2 .nil])
 (.seq
 (rG 8192 [oO 3 (.load 5 true) [.tmp 1],cL 4 n_area_Encode false [.tmp 3],oO 5 (.bslice 1 1 .nil [0]) [.tmp 4],cL 6 n_digest_Hash false [.cst (.t (.int .i64 6)),.tmp 5],mv 2 6])
 .ret))
def qEk (n_ref3_Blob:Nat):AC:=
 (.seq
 (rG 4096 [oO 1 .box [.tmp 0],mC 2 .nil])
 (.seq
 (.reg 8192 (some [0,1,3,0,8,24,0,64,192,511,0,1024,4095,0,8192,32767,65535]) [oO 3 (.faddr 0) [.tmp 1],oO 4 (.load 1 false) [.tmp 3],oO 5 (.conv .u8) [.tmp 4],oO 6 (.faddr 1) [.tmp 1],oO 7 (.load 1 false) [.tmp 6],oO 8 (.conv .u8) [.tmp 7],oO 9 (.faddr 2) [.tmp 1],oO 10 (.load 1 false) [.tmp 9],oO 11 (.conv .u8) [.tmp 10],oO 12 (.bslice 1 3 (.t (qA 0)) [0,1,2]) [.tmp 5,.tmp 8,.tmp 11],oO 13 (.faddr 3) [.tmp 1],oO 14 (.load 1 false) [.tmp 13],cL 15 n_ref3_Blob false [.tmp 12,.tmp 14],oO 16 (.faddr 4) [.tmp 1],oO 17 (.load 1 false) [.tmp 16],cL 18 n_ref3_Blob false [.tmp 15,.tmp 17],mv 2 18])
 .ret))
def qHq (n_ref10_Encode n_ref1_Hash:Nat):AC:=
 (.seq
 (rG 4096 [oO 1 .box [.tmp 0],mC 2 .nil])
 (.seq
 (rG 8192 [oO 3 (.load 5 true) [.tmp 1],cL 4 n_ref10_Encode false [.tmp 3],oO 5 (.bslice 1 1 .nil [0]) [.tmp 4],cL 6 n_ref1_Hash false [.cst (.t (.int .i64 6)),.tmp 5],mv 2 6])
 .ret))
def qHk:AC:=
 (.seq
 (rG 4096 [mC 4 (.t (qA 0))])
 (.seq
 (.reg 8192 (some [0,0,3,7,0,0,48,112,255,511]) [oO 5 (.load 1 false) [.tmp 1],mv 6 0,oO 7 (.iaddr 1) [.tmp 5,.tmp 6],oO 8 (.load 1 false) [.tmp 7],oO 9 (.load 1 false) [.tmp 2],mv 10 0,oO 11 (.iaddr 1) [.tmp 9,.tmp 10],oO 12 (.load 1 false) [.tmp 11],bT 13 .xor 8 12,mv 4 13])
 .ret))
def qCb:AC:=
 (.seq
 (rG 24576 [bT 23 .lss 22 21])
 (.seq
 (.cond (.tmp 23)
 .skip
 (.exit 0))
 (.seq
 (.block 1
 (.seq
 (rG 28672 [mv 24 22,mv 10 24])
 (rG 32768 [mv 25 9,mv 26 10,mv 27 8,mv 28 10,⟨some 29,(.callv true),[.tmp 27,.tmp 28],none⟩,oO 30 (.iaddr 1) [.tmp 25,.tmp 26],oS 1 30 29])))
 (rG 36864 [bN 31 .add 22 1,mv 22 31]))))
def qL8 (n_mac_Derive n_box_mask_1:Nat):AC:=
 (.seq
 (rG 4096 [oO 5 .box [.tmp 2],mC 6 .nil])
 (.seq
 (rG 8192 [mv 11 0,mv 12 1,oO 13 (.load 1 false) [.tmp 5],oO 14 .len [.tmp 13],cL 15 n_mac_Derive true [.tmp 11,.cst (.t (zN [101,110,99,114,121,112,116])),.tmp 12,.tmp 14],oO 7 (.new 1 [.nil]) [],oS 1 7 15])
 (.seq
 (rG 12288 [oO 16 (.mkfn n_box_mask_1) [.tmp 5,.tmp 7],mv 8 16])
 (.seq
 (rG 16384 [oO 17 (.load 1 false) [.tmp 5],oO 18 .len [.tmp 17],oO 19 (.mkslice 1 1 (.t (qA 0))) [.tmp 18,.tmp 18],mv 9 19])
 (.seq
 (.seq
 (rG 20480 [mv 20 9,oO 21 .len [.tmp 20],mC 22 (.t (.int .i64 0))])
 (.block 0
 (.loop qCb)))
 (.seq
 (rG 40960 [mv 32 9,mv 6 32])
 .ret))))))
def qP7 (n_mac_Derive n_digest_Frame n_mac_Mac:Nat):AC:=
 (.seq
 (rG 4096 [mC 8 .nil])
 (.seq
 (rG 8192 [mv 10 0,mv 11 1,cL 12 n_mac_Derive true [.tmp 10,.cst (.t (zN [97,117,116,104,101,110,116,105,99,97,116,101])),.tmp 11,.cst (.t (.int .i64 32))],mv 9 12])
 (.seq
 (rG 12288 [mv 13 9,mv 14 2,mv 15 1,mv 16 3,oO 17 (.bslice 1 3 .nil [0,1,2]) [.tmp 14,.tmp 15,.tmp 16],cL 18 n_digest_Frame false [.cst (.t (.int .i64 0)),.tmp 17],cL 19 n_mac_Mac false [.tmp 13,.tmp 18],mv 8 19])
 .ret)))
def qL7 (n_box_mask n_wire_Blob n_box_tag:Nat):AC:=
 (.seq
 (rG 4096 [mC 8 .nil])
 (.seq
 (.seq
 (rG 8192 [mv 11 1,oO 12 .len [.tmp 11],bN 13 .gtr 12 64,mv 14 13,mF 15 3 14,oF 16 14 .len [.tmp 15],oF 17 14 (.bin .gtr) [.tmp 16,.cst (.t (.int .i64 1024))],oO 18 .pick [.tmp 14,.cst (.t (.bool true)),.tmp 17]])
 (.cond (.tmp 18)
 (.seq
 (rG 12288 [mC 8 .nil])
 .ret)
 .skip))
 (.seq
 (rG 16384 [mv 19 0,mv 20 1,mv 21 3,cL 22 n_box_mask false [.tmp 19,.tmp 20,.tmp 21],mv 9 22])
 (.seq
 (rG 20480 [mv 23 1,cL 24 n_wire_Blob false [.cst .nil,.tmp 23],mv 25 9,cL 26 n_wire_Blob false [.tmp 24,.tmp 25],mv 10 26])
 (.seq
 (rG 24576 [mv 27 10,mv 28 0,mv 29 1,mv 30 2,mv 31 9,cL 32 n_box_tag false [.tmp 28,.tmp 29,.tmp 30,.tmp 31],oO 33 (.append 1 1) [.tmp 27,.tmp 32],mv 8 33])
 .ret)))))
def qC8 (n_wire_New n_wire_Reader_Blob n_wire_Reader_Raw n_wire_Reader_End n_box_tag n_mac_Equal n_box_mask:Nat):AC:=
 (.seq
 (rG 4096 [mC 6 .nil,mC 7 (.t (.int .i64 0))])
 (.seq
 (rG 8192 [mv 13 2,cL 14 n_wire_New true [.tmp 13],mv 8 14])
 (.seq
 (rG 12288 [mv 15 8,cL 16 n_wire_Reader_Blob true [.tmp 15,.cst (.t (.int .i64 64))],mv 9 16])
 (.seq
 (rG 16384 [mv 17 8,cL 18 n_wire_Reader_Blob true [.tmp 17,.cst (.t (.int .i64 1024))],mv 10 18])
 (.seq
 (rG 20480 [mv 19 8,cL 20 n_wire_Reader_Raw true [.tmp 19,.cst (.t (.int .i64 32))],mv 11 20])
 (.seq
 (.seq
 (rG 24576 [mv 21 8,cL 22 n_wire_Reader_End true [.tmp 21],mv 12 22])
 (.seq
 (rG 28672 [mv 23 12,bN 24 .neq 23 0])
 (.cond (.tmp 24)
 (.seq
 (rG 32768 [mv 25 12,mC 6 .nil,mv 7 25])
 .ret)
 .skip)))
 (.seq
 (.seq
 (rG 36864 [mv 26 11,mv 27 0,mv 28 9,mv 29 1,mv 30 10,cL 31 n_box_tag false [.tmp 27,.tmp 28,.tmp 29,.tmp 30],cL 32 n_mac_Equal false [.tmp 26,.tmp 31],oO 33 (.un .not) [.tmp 32]])
 (.cond (.tmp 33)
 (.seq
 (rG 40960 [mC 6 .nil,mC 7 (.t (.int .i64 18))])
 .ret)
 .skip))
 (.seq
 (rG 45056 [mv 34 0,mv 35 9,mv 36 10,cL 37 n_box_mask false [.tmp 34,.tmp 35,.tmp 36],mv 6 37,mC 7 (.t (.int .i64 0))])
 .ret))))))))
def kO:AC:=
 (.seq
 (.seq
 (rG 20480 [mv 18 9,mv 19 2,oO 20 .len [.tmp 19],bT 21 .lss 18 20])
 (.cond (.tmp 21)
 .skip
 (.exit 0)))
 (.seq
 (.block 1
 (.reg 28672 (some [0,0,0,0,12,28,0,0,192,448,1020,2047,4095]) [mv 24 8,mv 25 9,mv 26 2,mv 27 9,oO 28 (.iaddr 1) [.tmp 26,.tmp 27],oO 29 (.load 1 false) [.tmp 28],mv 30 7,mv 31 9,oO 32 (.iaddr 1) [.tmp 30,.tmp 31],oO 33 (.load 1 false) [.tmp 32],bT 34 .xor 29 33,oO 35 (.iaddr 1) [.tmp 24,.tmp 25],oS 1 35 34]))
 (rG 24576 [mv 22 9,bN 23 .add 22 1,mv 9 23])))
def qF1 (n_ref2_Derive:Nat):AC:=
 (.seq
 (rG 4096 [mC 6 .nil])
 (.seq
 (rG 8192 [mv 10 0,mv 11 1,mv 12 2,oO 13 .len [.tmp 12],cL 14 n_ref2_Derive true [.tmp 10,.cst (.t (zN [101,110,99,114,121,112,116])),.tmp 11,.tmp 13],mv 7 14])
 (.seq
 (rG 12288 [mv 15 2,oO 16 .len [.tmp 15],oO 17 (.mkslice 1 1 (.t (qA 0))) [.tmp 16,.tmp 16],mv 8 17])
 (.seq
 (.seq
 (rG 16384 [mC 9 (.t (.int .i64 0))])
 (.block 0
 (.loop kO)))
 (.seq
 (rG 32768 [mv 36 8,mv 6 36])
 .ret)))))
def qMd (n_ref2_Derive n_ref1_Frame n_ref2_Mac:Nat):AC:=
 (.seq
 (rG 4096 [mC 8 .nil])
 (.seq
 (rG 8192 [mv 10 0,mv 11 1,cL 12 n_ref2_Derive true [.tmp 10,.cst (.t (zN [97,117,116,104,101,110,116,105,99,97,116,101])),.tmp 11,.cst (.t (.int .i64 32))],mv 9 12])
 (.seq
 (rG 12288 [mv 13 9,mv 14 2,mv 15 1,mv 16 3,oO 17 (.bslice 1 3 .nil [0,1,2]) [.tmp 14,.tmp 15,.tmp 16],cL 18 n_ref1_Frame false [.cst (.t (.int .i64 0)),.tmp 17],cL 19 n_ref2_Mac false [.tmp 13,.tmp 18],mv 8 19])
 .ret)))
def qBy (n_ref3_New n_ref3_Reader_Blob n_ref3_Reader_Raw n_ref3_Reader_End n_ref4_Tag n_ref1_Same n_ref4_stream:Nat):AC:=
 (.seq
 (rG 4096 [mC 6 .nil,mC 7 (.t (.int .i64 0))])
 (.seq
 (rG 8192 [mv 13 2,cL 14 n_ref3_New true [.tmp 13],mv 8 14])
 (.seq
 (rG 12288 [mv 15 8,cL 16 n_ref3_Reader_Blob true [.tmp 15,.cst (.t (.int .i64 64))],mv 9 16])
 (.seq
 (rG 16384 [mv 17 8,cL 18 n_ref3_Reader_Blob true [.tmp 17,.cst (.t (.int .i64 1024))],mv 10 18])
 (.seq
 (rG 20480 [mv 19 8,cL 20 n_ref3_Reader_Raw true [.tmp 19,.cst (.t (.int .i64 32))],mv 11 20])
 (.seq
 (.seq
 (rG 24576 [mv 21 8,cL 22 n_ref3_Reader_End true [.tmp 21],mv 12 22])
 (.seq
 (rG 28672 [mv 23 12,bN 24 .neq 23 0])
 (.cond (.tmp 24)
 (.seq
 (rG 32768 [mv 25 12,mC 6 .nil,mv 7 25])
 .ret)
 .skip)))
 (.seq
 (.seq
 (rG 36864 [mv 26 11,mv 27 0,mv 28 9,mv 29 1,mv 30 10,cL 31 n_ref4_Tag false [.tmp 27,.tmp 28,.tmp 29,.tmp 30],cL 32 n_ref1_Same false [.tmp 26,.tmp 31],oO 33 (.un .not) [.tmp 32]])
 (.cond (.tmp 33)
 (.seq
 (rG 40960 [mC 6 .nil,mC 7 (.t (.int .i64 18))])
 .ret)
 .skip))
 (.seq
 (rG 45056 [mv 34 0,mv 35 9,mv 36 10,cL 37 n_ref4_stream false [.tmp 34,.tmp 35,.tmp 36],mv 6 37,mC 7 (.t (.int .i64 0))])
 .ret))))))))
def qAs:AC:=
 (.seq
 (rG 24576 [bT 15 .lss 14 13])
 (.seq
 (.cond (.tmp 15)
 .skip
 (.exit 0))
 (.seq
 (.block 1
 (.seq
 (rG 28672 [mv 16 14,mv 6 16])
 (.reg 32768 (some [0,0,0,6,14,0,0,96,224,510,1023,2047]) [mv 17 5,mv 18 0,mv 19 6,oO 20 (.iaddr 1) [.tmp 18,.tmp 19],oO 21 (.load 1 false) [.tmp 20],mv 22 1,mv 23 6,oO 24 (.iaddr 1) [.tmp 22,.tmp 23],oO 25 (.load 1 false) [.tmp 24],bT 26 .xor 21 25,bT 27 .or 17 26,mv 5 27])))
 (rG 36864 [bN 28 .add 14 1,mv 14 28]))))
def qEi:AC:=
 (.seq
 (rG 4096 [mC 4 (.t (.bool false))])
 (.seq
 (.seq
 (rG 8192 [mv 7 0,oO 8 .len [.tmp 7],mv 9 1,oO 10 .len [.tmp 9],bT 11 .neq 8 10])
 (.cond (.tmp 11)
 (.seq
 (rG 12288 [mC 4 (.t (.bool false))])
 .ret)
 .skip))
 (.seq
 (rG 16384 [mC 5 (.t (qA 0))])
 (.seq
 (.seq
 (rG 20480 [mv 12 0,oO 13 .len [.tmp 12],mC 14 (.t (.int .i64 0))])
 (.block 0
 (.loop qAs)))
 (.seq
 (rG 40960 [mv 29 5,oO 30 (.bin .eql) [.tmp 29,.cst (.t (qA 0))],mv 4 30])
 .ret)))))
def qF6 (n_signer_Public n_digest_Hash:Nat):AC:=
 (.seq
 (rG 4096 [oO 5 .box [.tmp 2],mC 6 .nil])
 (.seq
 (.seq
 (rG 8192 [mv 7 0,bN 8 .eql 7 2])
 (.cond (.tmp 8)
 (.seq
 (rG 12288 [oO 9 (.faddr 1) [.tmp 5],oO 10 (.load 1 false) [.tmp 9],mv 11 1,cL 12 n_signer_Public false [.tmp 10,.tmp 11],mv 6 12])
 .ret)
 .skip))
 (.seq
 (rG 16384 [oO 13 (.faddr 1) [.tmp 5],oO 14 (.load 1 false) [.tmp 13],oO 15 (.faddr 2) [.tmp 5],oO 16 (.load 1 false) [.tmp 15],oO 17 (.bslice 1 2 .nil [0,1]) [.tmp 14,.tmp 16],cL 18 n_digest_Hash false [.cst (.t (.int .i64 13)),.tmp 17],mv 6 18])
 .ret)))
def qF5:AC:=
 (.seq
 (rG 4096 [oO 2 (.new 5 [(.agg [(.t (.int .i64 0)),(.t (.int .i64 0)),(.t (.int .i64 0)),.nil,.nil])]) [],oO 3 (.new 3 [(.agg [.nil,.nil,.nil])]) [],mC 4 (.t (.int .i64 0))])
 (.seq
 (rG 8192 [oO 5 (.build [(.t (.int .i64 0)),(.t (.int .i64 0)),(.t (.int .i64 0)),.nil,.nil] []) [],oO 6 (.build [.nil,.nil,.nil] []) [],mv 7 0,oS 5 2 5,oS 3 3 6,mv 4 7])
 .ret))
def qB0 (n_wrap_Make_1 n_area_Check n_mac_Derive n_wrap_unique:Nat):AC:=
 (.seq
 (rG 4096 [oO 5 .box [.tmp 1],oO 8 (.new 5 [(.agg [(.t (.int .i64 0)),(.t (.int .i64 0)),(.t (.int .i64 0)),.nil,.nil])]) [],oO 9 (.new 3 [(.agg [.nil,.nil,.nil])]) [],mC 10 (.t (.int .i64 0))])
 (.seq
 (rG 8192 [mC 11 (.fn n_wrap_Make_1 [])])
 (.seq
 (rG 12288 [oO 15 (.load 5 true) [.tmp 5],oO 12 (.new 5 [(.agg [(.t (.int .i64 0)),(.t (.int .i64 0)),(.t (.int .i64 0)),.nil,.nil])]) [],oS 5 12 15])
 (.seq
 (rG 16384 [oO 16 (.mkslice 1 1 (.t (qA 0))) [.cst (.t (.int .i64 32)),.cst (.t (.int .i64 32))],oO 17 (.faddr 4) [.tmp 12],oS 1 17 16])
 (.seq
 (.seq
 (rG 20480 [oO 18 (.faddr 0) [.tmp 12],oO 19 (.load 1 false) [.tmp 18],bN 20 .eql 19 2])
 (.cond (.tmp 20)
 (rG 24576 [oO 21 (.mkslice 1 1 (.t (qA 0))) [.cst (.t (.int .i64 17)),.cst (.t (.int .i64 17))],oO 22 (.faddr 4) [.tmp 12],oS 1 22 21])
 .skip))
 (.seq
 (.seq
 (rG 28672 [oO 23 (.load 5 true) [.tmp 12],cL 24 n_area_Check false [.tmp 23],mv 13 24])
 (.seq
 (rG 32768 [mv 25 13,bN 26 .neq 25 0])
 (.cond (.tmp 26)
 (.seq
 (rG 36864 [mv 27 11,mv 28 13,⟨some 29,(.callv true),[.tmp 27,.tmp 28],none⟩,oO 30 (.extract 0) [.tmp 29],oO 31 (.extract 1) [.tmp 29],oO 32 (.extract 2) [.tmp 29],oS 5 8 30,oS 3 9 31,mv 10 32])
 .ret)
 .skip)))
 (.seq
 (.seq
 (rG 40960 [mv 33 2,oO 34 .len [.tmp 33],bN 35 .gtr 34 32,mv 36 35,mF 37 3 36,oF 38 36 .len [.tmp 37],oF 39 36 (.bin .gtr) [.tmp 38,.cst (.t (.int .i64 128))],oO 40 .pick [.tmp 36,.cst (.t (.bool true)),.tmp 39]])
 (.cond (.tmp 40)
 (.seq
 (rG 45056 [mv 41 11,⟨some 42,(.callv true),[.tmp 41,.cst (.t (.int .i64 4))],none⟩,oO 43 (.extract 0) [.tmp 42],oO 44 (.extract 1) [.tmp 42],oO 45 (.extract 2) [.tmp 42],oS 5 8 43,oS 3 9 44,mv 10 45])
 .ret)
 .skip))
 (.seq
 (.seq
 (rG 49152 [mv 46 3,oO 47 .len [.tmp 46],bN 48 .gtr 47 0,mv 49 48,oG 50 49 (.faddr 0) [.tmp 12],oG 51 49 (.load 1 false) [.tmp 50],oG 52 49 (.bin .neq) [.tmp 51,.cst (.t (.int .i64 3))],oO 53 .pick [.tmp 49,.tmp 52,.cst (.t (.bool false))]])
 (.cond (.tmp 53)
 (.seq
 (rG 53248 [mv 54 11,⟨some 55,(.callv true),[.tmp 54,.cst (.t (.int .i64 1))],none⟩,oO 56 (.extract 0) [.tmp 55],oO 57 (.extract 1) [.tmp 55],oO 58 (.extract 2) [.tmp 55],oS 5 8 56,oS 3 9 57,mv 10 58])
 .ret)
 .skip))
 (.seq
 (rG 57344 [mv 59 2,mv 60 0,cL 61 n_mac_Derive true [.tmp 60,.cst (.t (zN [115,101,101,100])),.cst .nil,.cst (.t (.int .i64 32))],mv 62 3,oO 63 (.build [.nil,.nil,.nil] [(0,1),(1,1),(2,1)]) [.tmp 59,.tmp 61,.tmp 62],oO 14 (.new 3 [(.agg [.nil,.nil,.nil])]) [],oS 3 14 63])
 (.seq
 (rG 61440 [oO 64 (.faddr 0) [.tmp 12],oO 65 (.load 1 false) [.tmp 64],oO 66 (.faddr 2) [.tmp 12],oO 67 (.load 1 false) [.tmp 66],oO 68 (.load 3 true) [.tmp 14],cL 69 n_wrap_unique false [.tmp 65,.tmp 67,.tmp 68],oO 70 (.faddr 4) [.tmp 12],oS 1 70 69])
 (.seq
 (.reg 65536 (some [0,0,1,7,15]) [oO 71 (.load 5 true) [.tmp 12],oO 72 (.load 3 true) [.tmp 14],oS 5 8 71,oS 3 9 72,mC 10 (.t (.int .i64 0))])
 .ret)))))))))))
def qMf (n_area_Name n_mac_Derive:Nat):AC:=
 (.seq
 (rG 4096 [oO 2 .box [.tmp 0],oO 3 .box [.tmp 1],mC 4 .nil,mC 5 .nil])
 (.seq
 (rG 8192 [oO 7 (.load 5 true) [.tmp 3],cL 8 n_area_Name true [.tmp 7],mv 6 8])
 (.seq
 (.reg 12288 (some [0,1,0,7,0,16,15,127]) [oO 9 (.faddr 1) [.tmp 2],oO 10 (.load 1 false) [.tmp 9],mv 11 6,cL 12 n_mac_Derive true [.tmp 10,.cst (.t (zN [112,114,105,118,97,116,101])),.tmp 11,.cst (.t (.int .i64 32))],mv 13 6,oO 14 (.slice 1 false true true) [.tmp 13,.cst (.t (.int .i64 16)),.cst (.t (.int .i64 16))],mv 4 12,mv 5 14])
 .ret)))
def qEp (n_wrap_key n_wire_Blob n_area_Encode n_box_Seal:Nat):AC:=
 (.seq
 (rG 4096 [oO 3 .box [.tmp 0],oO 4 .box [.tmp 1],oO 5 .box [.tmp 2],mC 6 .nil])
 (.seq
 (rG 8192 [oO 11 (.load 3 true) [.tmp 3],oO 12 (.load 5 true) [.tmp 4],cL 13 n_wrap_key true [.tmp 11,.tmp 12],mv 10 13,oO 14 (.extract 0) [.tmp 10],oO 15 (.extract 1) [.tmp 10],mv 7 14,mv 8 15])
 (.seq
 (.reg 12288 (some [0,1,3,0,8,31,0,64,255,511]) [oO 16 (.faddr 0) [.tmp 5],oO 17 (.load 1 false) [.tmp 16],cL 18 n_wire_Blob false [.cst .nil,.tmp 17],oO 19 (.faddr 1) [.tmp 5],oO 20 (.load 1 false) [.tmp 19],cL 21 n_wire_Blob false [.tmp 18,.tmp 20],oO 22 (.faddr 2) [.tmp 5],oO 23 (.load 1 false) [.tmp 22],cL 24 n_wire_Blob false [.tmp 21,.tmp 23],mv 9 24])
 (.seq
 (rG 16384 [mv 25 7,mv 26 8,oO 27 (.load 5 true) [.tmp 4],cL 28 n_area_Encode false [.tmp 27],mv 29 9,cL 30 n_box_Seal true [.tmp 25,.tmp 26,.tmp 28,.tmp 29],mv 6 30])
 .ret))))
def xK (n_wrap_key n_area_Encode n_box_Open n_wire_New n_wire_Reader_Blob n_wire_Reader_End n_wrap_unique n_mac_Equal:Nat):AC:=
 (.seq
 (rG 4096 [oO 3 .box [.tmp 0],oO 4 .box [.tmp 1],oO 6 (.new 3 [(.agg [.nil,.nil,.nil])]) [],mC 7 (.t (.int .i64 0))])
 (.seq
 (rG 8192 [oO 16 (.load 3 true) [.tmp 3],oO 17 (.load 5 true) [.tmp 4],cL 18 n_wrap_key true [.tmp 16,.tmp 17],mv 15 18,oO 19 (.extract 0) [.tmp 15],oO 20 (.extract 1) [.tmp 15],mv 8 19,mv 9 20])
 (.seq
 (rG 12288 [mv 22 8,oO 23 (.load 5 true) [.tmp 4],cL 24 n_area_Encode false [.tmp 23],mv 25 2,cL 26 n_box_Open true [.tmp 22,.tmp 24,.tmp 25],mv 21 26,oO 27 (.extract 0) [.tmp 21],oO 28 (.extract 1) [.tmp 21],mv 10 27,mv 11 28])
 (.seq
 (.seq
 (rG 16384 [mv 29 11,bN 30 .neq 29 0])
 (.cond (.tmp 30)
 (.seq
 (rG 20480 [oO 31 (.build [.nil,.nil,.nil] []) [],mv 32 11,oS 3 6 31,mv 7 32])
 .ret)
 .skip))
 (.seq
 (rG 24576 [mv 33 10,cL 34 n_wire_New true [.tmp 33],mv 12 34])
 (.seq
 (rG 28672 [oO 13 (.new 3 [(.agg [.nil,.nil,.nil])]) []])
 (.seq
 (rG 32768 [mv 35 12,cL 36 n_wire_Reader_Blob true [.tmp 35,.cst (.t (.int .i64 32))],oO 37 (.faddr 0) [.tmp 13],oS 1 37 36])
 (.seq
 (rG 36864 [mv 38 12,cL 39 n_wire_Reader_Blob true [.tmp 38,.cst (.t (.int .i64 32))],oO 40 (.faddr 1) [.tmp 13],oS 1 40 39])
 (.seq
 (rG 40960 [mv 41 12,cL 42 n_wire_Reader_Blob true [.tmp 41,.cst (.t (.int .i64 128))],oO 43 (.faddr 2) [.tmp 13],oS 1 43 42])
 (.seq
 (.seq
 (rG 45056 [mv 44 12,cL 45 n_wire_Reader_End true [.tmp 44],mv 14 45])
 (.seq
 (rG 49152 [mv 46 14,bN 47 .neq 46 0])
 (.cond (.tmp 47)
 (.seq
 (rG 53248 [oO 48 (.build [.nil,.nil,.nil] []) [],mv 49 14,oS 3 6 48,mv 7 49])
 .ret)
 .skip)))
 (.seq
 (.seq
 (.reg 57344 (some [0,1,0,4,0,16,0,124,255,511]) [oO 50 (.faddr 4) [.tmp 4],oO 51 (.load 1 false) [.tmp 50],oO 52 (.faddr 0) [.tmp 4],oO 53 (.load 1 false) [.tmp 52],oO 54 (.faddr 2) [.tmp 4],oO 55 (.load 1 false) [.tmp 54],oO 56 (.load 3 true) [.tmp 13],cL 57 n_wrap_unique false [.tmp 53,.tmp 55,.tmp 56],cL 58 n_mac_Equal false [.tmp 51,.tmp 57],oO 59 (.un .not) [.tmp 58]])
 (.cond (.tmp 59)
 (.seq
 (rG 61440 [oO 60 (.build [.nil,.nil,.nil] []) [],oS 3 6 60,mC 7 (.t (.int .i64 18))])
 .ret)
 .skip))
 (.seq
 (rG 65536 [oO 61 (.load 3 true) [.tmp 13],oS 3 6 61,mC 7 (.t (.int .i64 0))])
 .ret))))))))))))
def qEl (n_ref7_Public n_ref1_Hash:Nat):AC:=
 (.seq
 (rG 4096 [oO 3 .box [.tmp 0],mC 6 .nil])
 (.seq
 (.seq
 (rG 8192 [mv 7 1,bN 8 .eql 7 2])
 (.cond (.tmp 8)
 (.seq
 (rG 12288 [oO 9 (.faddr 1) [.tmp 3],oO 10 (.load 1 false) [.tmp 9],mv 11 2,cL 12 n_ref7_Public true [.tmp 10,.tmp 11],mv 6 12])
 .ret)
 .skip))
 (.seq
 (rG 16384 [oO 13 (.faddr 1) [.tmp 3],oO 14 (.load 1 false) [.tmp 13],oO 15 (.faddr 2) [.tmp 3],oO 16 (.load 1 false) [.tmp 15],oO 17 (.bslice 1 2 .nil [0,1]) [.tmp 14,.tmp 16],cL 18 n_ref1_Hash false [.cst (.t (.int .i64 13)),.tmp 17],mv 6 18])
 .ret)))
def qJ6 (n_ref2_Derive:Nat):AC:=
 (.seq
 (rG 4096 [oO 2 .box [.tmp 0],mC 4 .nil])
 (.seq
 (rG 8192 [oO 5 (.faddr 1) [.tmp 2],oO 6 (.load 1 false) [.tmp 5],mv 7 1,cL 8 n_ref2_Derive true [.tmp 6,.cst (.t (zN [112,114,105,118,97,116,101])),.tmp 7,.cst (.t (.int .i64 32))],mv 4 8])
 .ret))
def wZ (n_ref10_Name n_ref11_key n_ref10_Encode n_ref4_Open n_ref3_New n_ref3_Reader_Blob n_ref3_Reader_End n_ref11_Unique n_ref1_Same:Nat):AC:=
 (.seq
 (rG 4096 [oO 3 .box [.tmp 0],oO 4 .box [.tmp 1],oO 6 (.new 3 [(.agg [.nil,.nil,.nil])]) [],mC 7 (.t (.int .i64 0))])
 (.seq
 (.reg 8192 (some [0,0,2,7,0,31,0,127,255,511,511,1023,4095]) [oO 14 (.load 3 true) [.tmp 3],oO 15 (.load 5 true) [.tmp 4],cL 16 n_ref10_Name true [.tmp 15],cL 17 n_ref11_key true [.tmp 14,.tmp 16],oO 18 (.load 5 true) [.tmp 4],cL 19 n_ref10_Encode false [.tmp 18],mv 20 2,cL 21 n_ref4_Open true [.tmp 17,.tmp 19,.tmp 20],mv 13 21,oO 22 (.extract 0) [.tmp 13],oO 23 (.extract 1) [.tmp 13],mv 8 22,mv 9 23])
 (.seq
 (.seq
 (rG 12288 [mv 24 9,bN 25 .neq 24 0])
 (.cond (.tmp 25)
 (.seq
 (rG 16384 [oO 26 (.build [.nil,.nil,.nil] []) [],mv 27 9,oS 3 6 26,mv 7 27])
 .ret)
 .skip))
 (.seq
 (rG 20480 [mv 28 8,cL 29 n_ref3_New true [.tmp 28],mv 10 29])
 (.seq
 (rG 24576 [oO 30 (.build [.nil,.nil,.nil] []) [],oO 11 (.new 3 [(.agg [.nil,.nil,.nil])]) [],oS 3 11 30])
 (.seq
 (rG 28672 [mv 31 10,cL 32 n_ref3_Reader_Blob true [.tmp 31,.cst (.t (.int .i64 32))],oO 33 (.faddr 0) [.tmp 11],oS 1 33 32])
 (.seq
 (rG 32768 [mv 34 10,cL 35 n_ref3_Reader_Blob true [.tmp 34,.cst (.t (.int .i64 32))],oO 36 (.faddr 1) [.tmp 11],oS 1 36 35])
 (.seq
 (rG 36864 [mv 37 10,cL 38 n_ref3_Reader_Blob true [.tmp 37,.cst (.t (.int .i64 128))],oO 39 (.faddr 2) [.tmp 11],oS 1 39 38])
 (.seq
 (.seq
 (rG 40960 [mv 40 10,cL 41 n_ref3_Reader_End true [.tmp 40],mv 12 41])
 (.seq
 (rG 45056 [mv 42 12,bN 43 .neq 42 0])
 (.cond (.tmp 43)
 (.seq
 (rG 49152 [oO 44 (.build [.nil,.nil,.nil] []) [],mv 45 12,oS 3 6 44,mv 7 45])
 .ret)
 .skip)))
 (.seq
 (.seq
 (.reg 53248 (some [0,0,2,0,8,31,0,64,255,511]) [oO 46 (.load 3 true) [.tmp 11],oO 47 (.faddr 0) [.tmp 4],oO 48 (.load 1 false) [.tmp 47],oO 49 (.faddr 2) [.tmp 4],oO 50 (.load 1 false) [.tmp 49],cL 51 n_ref11_Unique false [.tmp 46,.tmp 48,.tmp 50],oO 52 (.faddr 4) [.tmp 4],oO 53 (.load 1 false) [.tmp 52],cL 54 n_ref1_Same false [.tmp 51,.tmp 53],oO 55 (.un .not) [.tmp 54]])
 (.cond (.tmp 55)
 (.seq
 (rG 57344 [oO 56 (.build [.nil,.nil,.nil] []) [],oS 3 6 56,mC 7 (.t (.int .i64 18))])
 .ret)
 .skip))
 (.seq
 (rG 61440 [oO 57 (.load 3 true) [.tmp 11],oS 3 6 57,mC 7 (.t (.int .i64 0))])
 .ret)))))))))))
end Go.Eng
end
section
set_option maxRecDepth 20000
set_option maxHeartbeats 64000000
namespace Go.Eng
def puT (p u:List UInt8):T:= .agg [.int .i64 3,.int .i64 0,.int .i64 0,.sl (p.map qA),.sl (u.map qA)]
theorem qJk {p u q v:List UInt8} (h:puT p u=puT q v):p=q∧u=v:=by
 simp only[puT,T.agg.injEq,List.cons.injEq,T.sl.injEq,true_and,and_true,qP] at h
 exact h
def qFj (p u:List UInt8):List UInt8:=blL (blL [3,0,0] p) u
def qQq (p u:List UInt8):List UInt8:=qBo 6 [qFj p u]
abbrev L32 (p u:List UInt8):Prop:=p.length=32∧u.length=32
theorem kR {p u:List UInt8} (h:L32 p u):(qFj p u).length=71:=by
 simp[qFj,yJ,h.1,h.2]
theorem wQ {p u:List UInt8}:(qQq p u).length=32:=qH
def qUb:Ct where
 α:=Unit
 as _:=[.t (.int .i64 3)]
 ins _:=[]
 pre _:=True
 r _:= .t (.int .i64 32)
 outs _:=[]
 inj:=fun _ _ _ _=>⟨rfl,rfl⟩
theorem zXi:qUb.fs [.t (.int .i64 3)] []=some (.t (.int .i64 32),[]):=qUb.eq () trivial
theorem qJp (tab:Tab) (gl:Gl):qBt.wp tab gl (qE 0 [.t (.int .i64 3)]) (qE 0 []) (jK [(2,none)] 0 (fun r o=>r = .t (.int .i64 32)∧o=[])):=by
 simp (disch:=omega) only [go_sem,seval,qBt]
theorem jDa:qO7 .and .i64 0 .i64 4=some (.int .i64 0):=rfl
theorem jC9:qO7 .and .i64 0 .i64 1=some (.int .i64 0):=rfl
def qNe:Ct where
 α:=List UInt8×List UInt8
 as x:=[.t (puT x.1 x.2)]
 ins _:=[]
 pre x:=L32 x.1 x.2
 r _:= .t (.int .i64 0)
 outs _:=[]
 inj:=fun _ _ _ _=>⟨rfl,rfl⟩
theorem zQ9 {p u:List UInt8} (h:L32 p u):qNe.fs [.t (.agg [.int .i64 3,.int .i64 0,.int .i64 0,.sl (p.map qA),.sl (u.map qA)])] []=some (.t (.int .i64 0),[]):=qNe.eq (p,u) h
theorem qVo (tab:Tab) (gl:Gl) (n1:Nat) (h1:tab.look n1=some qUb.fs) (p u:List UInt8) (h:L32 p u) :
  (qHj n1).wp tab gl (qE 0 [.t (puT p u)]) (qE 0 []) (jK [(2,none)] 0 (fun r o=>r = .t (.int .i64 0)∧o=[])):=by
 obtain⟨hp,hu⟩:=h
 simp (disch:=omega) only [go_sem,seval,qHj,puT,h1,zXi,hp,hu,↓jDa,↓jC9]
 all_goals rfl
def qBa:Ct where
 α:=List UInt8×List UInt8
 as x:=[.t (puT x.1 x.2)]
 ins _:=[]
 pre x:=L32 x.1 x.2
 r _:= .sl 0 0 71
 outs x:=[.live 1 (((qFj x.1 x.2).map qA).map V.t) true false]
 inj:=by
  rintro⟨a,b⟩ ⟨c,d⟩ h _
  simp only[List.cons.injEq,V.t.injEq,and_true] at h
  obtain⟨rfl,rfl⟩:=qJk h
  exact⟨rfl,rfl⟩
theorem qN8 {p u:List UInt8} (h:L32 p u):qBa.fs [.t (.agg [.int .i64 3,.int .i64 0,.int .i64 0,.sl (p.map qA),.sl (u.map qA)])] []=some (.sl 0 0 71,[.live 1 (((qFj p u).map qA).map V.t) true false]):=qBa.eq (p,u) h
theorem qSr (tab:Tab) (gl:Gl) (n1:Nat) (h1:tab.look n1=some qA9.fs) (p u:List UInt8) (h:L32 p u) :
  (qFt n1).wp tab gl (qE 0 [.t (puT p u)]) (qE 0 []) (qAg [] [(2,none)] 0 (fun r o=>r = .sl 0 0 71∧o=[.live 1 (((qFj p u).map qA).map V.t) true false])):=by
 obtain⟨hp,hu⟩:=h
 have b1:=qA5 (b:=[3,0,0]) (x:=p) ⟨by decide,by omega⟩
 have b2:=qA5 (b:=blL [3,0,0] p) (x:=u) ⟨by simp[yJ];omega,by omega⟩
 simp only[List.map_cons,List.map_nil] at b1
 have l1:(blL [3,0,0] p).length=37:=by simp[yJ,hp]
 have t1:List.take 37 (blL [3,0,0] p)=blL [3,0,0] p:=List.take_of_length_le (by omega)
 have k3:T.int .u8 (IntKind.u8.wrap 3)=qA 3:=rfl
 have k0:T.int .u8 (IntKind.u8.wrap 0)=qA 0:=rfl
 simp (disch:=omega) only [go_sem,seval,qFt,puT,h1,k3,k0,b1,b2,hp,hu,l1,t1,qFj]
 rfl
theorem qPx (tab:Tab) (gl:Gl) (n1:Nat) (h1:tab.look n1=some qA9.fs) (p u:List UInt8) (h:L32 p u) :
  (qEk n1).wp tab gl (qE 0 [.t (puT p u)]) (qE 0 []) (qAg [] [(2,none)] 0 (fun r o=>r = .sl 0 0 71∧o=[.live 1 (((qFj p u).map qA).map V.t) true false])):=by
 obtain⟨hp,hu⟩:=h
 have b1:=qA5 (b:=[3,0,0]) (x:=p) ⟨by decide,by omega⟩
 have b2:=qA5 (b:=blL [3,0,0] p) (x:=u) ⟨by simp[yJ];omega,by omega⟩
 simp only[List.map_cons,List.map_nil] at b1
 have l1:(blL [3,0,0] p).length=37:=by simp[yJ,hp]
 have t1:List.take 37 (blL [3,0,0] p)=blL [3,0,0] p:=List.take_of_length_le (by omega)
 have k3:T.int .u8 (IntKind.u8.wrap 3)=qA 3:=rfl
 have k0:T.int .u8 (IntKind.u8.wrap 0)=qA 0:=rfl
 simp (disch:=omega) only [go_sem,seval,qEk,puT,h1,k3,k0,b1,b2,hp,hu,l1,t1,qFj]
 all_goals rfl
def qEz:Ct where
 α:=List UInt8×List UInt8
 as x:=[.t (puT x.1 x.2)]
 ins _:=[]
 pre x:=L32 x.1 x.2
 r x:= .t (.sl ((qQq x.1 x.2).map qA))
 outs _:=[]
 inj:=by
  rintro⟨a,b⟩ ⟨c,d⟩ h _
  simp only[List.cons.injEq,V.t.injEq,and_true] at h
  obtain⟨rfl,rfl⟩:=qJk h
  exact⟨rfl,rfl⟩
theorem zGj {p u:List UInt8} (h:L32 p u):qEz.fs [.t (.agg [.int .i64 3,.int .i64 0,.int .i64 0,.sl (p.map qA),.sl (u.map qA)])] []=some (.t (.sl ((qQq p u).map qA)),[]):=qEz.eq (p,u) h
theorem zFe {t:Nat} {x:List UInt8} (h:x.length≤1000000):(zK t [x]).length<1000000000:=by
 simp only[zK,List.flatMap_cons,List.flatMap_nil,List.length_cons,List.length_append,List.length_nil,qHy];omega
theorem qZw {p u:List UInt8} (h:L32 p u):jQ.fs [.t (.int .i64 6),.t (.sl [.sl ((qFj p u).map qA)])] []=some (.sl 0 0 32,[.live 1 (((qQq p u).map qA).map V.t) true false]):=jQ.eq (6,[qFj p u]) ⟨by show 6<256;omega,zFe (by rw[kR h];omega)⟩
theorem qYe (tab:Tab) (gl:Gl) (n1 n2:Nat) (h1:tab.look n1=some qBa.fs) (h2:tab.look n2=some jQ.fs) (p u:List UInt8) (h:L32 p u) :
  (qJ3 n1 n2).wp tab gl (qE 0 [.t (puT p u)]) (qE 0 []) (jK [(2,none)] 0 (fun r o=>r = .t (.sl ((qQq p u).map qA))∧o=[])):=by
 have l:=kR h
 have t1:List.take 71 (qFj p u)=qFj p u:=List.take_of_length_le (by omega)
 have t2:List.take 32 (qQq p u)=qQq p u:=List.take_of_length_le (by rw[wQ];omega)
 simp (disch:=omega) only [go_sem,seval,qJ3,puT,h1,qN8 h,h2,l,t1,qZw h,t2,wQ]
theorem qVy (tab:Tab) (gl:Gl) (n1 n2:Nat) (h1:tab.look n1=some qBa.fs) (h2:tab.look n2=some jQ.fs) (p u:List UInt8) (h:L32 p u) :
  (qHq n1 n2).wp tab gl (qE 0 [.t (puT p u)]) (qE 0 []) (jK [(2,none)] 0 (fun r o=>r = .t (.sl ((qQq p u).map qA))∧o=[])):=by
 have l:=kR h
 have t1:List.take 71 (qFj p u)=qFj p u:=List.take_of_length_le (by omega)
 have t2:List.take 32 (qQq p u)=qQq p u:=List.take_of_length_le (by rw[wQ];omega)
 simp (disch:=omega) only [go_sem,seval,qHq,puT,h1,qN8 h,h2,l,t1,qZw h,t2,wQ]
theorem zJb {a b:UInt8}:qEq .or (qA a) (qA b)=some (qA (a ||| b)):=by
 change some (T.int .u8 (IntKind.u8.wrap ((BitVec.ofInt 8 (a.toNat:Int) ||| BitVec.ofInt 8 (b.toNat:Int)).toNat:Int)))=_
 have e : ∀ x:UInt8,BitVec.ofInt 8 (x.toNat:Int)=x.toBitVec:=fun x=>BitVec.eq_of_toNat_eq (by simp)
 rw[e,e,←UInt8.toBitVec_or,qO3]
 have:=(a ||| b).toNat_lt
 unfold qA
 rw[UInt8.toNat_toBitVec]
 congr 2;omega
def dfx (a b:List UInt8):Nat→UInt8
 | 0=>0
 | k+1=>dfx a b k ||| (a.getD k 0 ^^^ b.getD k 0)
theorem zK8 {x y:UInt8}:x ||| y=0↔x=0∧y=0:=by
 constructor
 ·intro h
  have h':x.toBitVec ||| y.toBitVec=0#8:=by
   have:=congrArg UInt8.toBitVec h
   simpa using this
  have hx:x.toBitVec=0#8:=by
   apply BitVec.eq_of_getLsbD_eq
   intro i hi
   have:=congrArg (fun v=>v.getLsbD i) h'
   simp at this ⊢
   exact this.1
  have hy:y.toBitVec=0#8:=by
   apply BitVec.eq_of_getLsbD_eq
   intro i hi
   have:=congrArg (fun v=>v.getLsbD i) h'
   simp at this ⊢
   exact this.2
  exact⟨UInt8.toBitVec_inj.1 (by simpa using hx),UInt8.toBitVec_inj.1 (by simpa using hy)⟩
 ·rintro⟨rfl,rfl⟩;rfl
theorem zIf {x y:UInt8}:x ^^^ y=0↔x=y:=by
 constructor
 ·intro h
  have:(x ^^^ y) ^^^ y=0 ^^^ y:=by rw[h]
  rwa [UInt8.xor_assoc,UInt8.xor_self,UInt8.xor_zero,UInt8.zero_xor] at this
 ·rintro rfl;exact UInt8.xor_self
theorem qZm {a b:List UInt8} : ∀ {n:Nat},dfx a b n=0 ↔ ∀ k,k<n→a.getD k 0=b.getD k 0
 | 0=>by simp[dfx]
 | n+1=>by
  rw[dfx,zK8,zIf,qZm (n:=n)]
  constructor
  ·rintro⟨h1,h2⟩ k hk
   rcases Nat.lt_or_ge k n with h | h
   ·exact h1 k h
   ·rw[show k=n by omega];exact h2
  ·intro h
   exact⟨fun k hk=>h k (by omega),h n (by omega)⟩
theorem zUk {a b:List UInt8} (hl:a.length=b.length):dfx a b a.length=0↔a=b:=by
 rw[qZm]
 constructor
 ·intro h
  apply List.ext_getElem hl
  intro k h1 h2
  have:=h k h1
  rwa [List.getD_eq_getElem?_getD,List.getD_eq_getElem?_getD,List.getElem?_eq_getElem h1,List.getElem?_eq_getElem h2] at this
 ·rintro rfl k _;rfl
theorem qYi (tab:Tab) (gl:Gl) (a b:List UInt8) (h:a.length<1000000000∧b.length<1000000000) :
  qEi.wp tab gl (qE 0 [.t (.sl (a.map qA)),.t (.sl (b.map qA))]) (qE 0 []) (jK [(4,none)] 0 (fun r o=>r = .t (.bool (decide (a=b)))∧o=[])):=by
 by_cases hl:a.length=b.length
 ·simp (disch:=omega) only [go_sem,seval,qEi,hl]
  refine qD b.length (fun k=>[(0,.t (.sl (a.map qA))),(1,.t (.sl (b.map qA))),(5,.t (qA (dfx a b k))),(13,.t (.int .i64 b.length)),(14,.t (.int .i64 k))]) (fun _=>[]) ?_ (fun k hk=>?_)
  ·refine qQ.rd id ?_ ?_ rfl
   all_goals simp (disch:=omega) only [go_sem,seval,id]
   all_goals rfl
  ·by_cases hlt:k<b.length
   ·simp (disch:=omega) only [go_sem,seval,qAs,hlt,hl,zJb]
    refine⟨rfl,qQ.rd id ?_ ?_ rfl⟩
    all_goals simp (disch:=omega) only [go_sem,seval,id]
    all_goals rfl
   ·have e:k=b.length:=by omega
    subst e
    have hd:=zUk hl
    rw[hl] at hd
    simp (disch:=omega) only [go_sem,seval,qAs]
    simp only[hd]
 ·have e:decide (a=b)=false:=decide_eq_false (fun h=>hl (by rw[h]))
  rw[e]
  simp (disch:=omega) only [go_sem,seval,qEi,hl]
def zJq:List UInt8:=[101,110,99,114,121,112,116]
def zOz:List UInt8:=[97,117,116,104,101,110,116,105,99,97,116,101]
def qFm (k no b:List UInt8):List UInt8:=List.zipWith (· ^^^ ·) b (drv k zJq no b.length)
theorem yK {k no b:List UInt8}:(qFm k no b).length=b.length:=by simp[qFm,jT]
theorem qZ4 {k no b:List UInt8} {i:Nat} (h:i<b.length):(qFm k no b).getD i 0=b.getD i 0 ^^^ (drv k zJq no b.length).getD i 0:=by
 have h2:i<(drv k zJq no b.length).length:=by rw[jT];exact h
 rw[qFm]
 simp only[List.getD_eq_getElem?_getD,List.getElem?_zipWith,List.getElem?_eq_getElem h,List.getElem?_eq_getElem h2]
 rfl
def qJo (k no ad c:List UInt8):List UInt8:=qXd (drv k zOz no 32) (zK 0 [ad,no,c])
theorem qBl {k no ad c:List UInt8}:(qJo k no ad c).length=32:=qDj
def upN (n:Nat) (p:List UInt8) (k:Nat):List UInt8:=p.take k++List.replicate (n-k) 0
theorem zXf {n:Nat} {p:List UInt8}:upN n p 0=List.replicate n 0:=by simp[upN]
theorem zXg {n:Nat} {p:List UInt8} (h:p.length=n):upN n p n=p:=by
 simp[upN];exact List.take_of_length_le (by omega)
theorem qQ1 {n:Nat} {p:List UInt8} {k:Nat} (h:p.length=n) (hk:k≤n):(upN n p k).length=n:=by simp[upN];omega
theorem zHt {n:Nat} {p:List UInt8} {k:Nat} {x:UInt8} (h:p.length=n) (hk:k<n) (hx:p.getD k 0=x):(upN n p k).set k x=upN n p (k+1):=by
 rw[upN,zAu (by simp;omega) hk,upN,qGh (d:=0) (by omega),hx]
def qM9:Ct where
 α:=Nat×List UInt8×List UInt8
 as x:=[.t (.int .i64 x.1),.ref 0 0 0,.ref 1 0 0]
 ins x:=[.live 1 [.t (.sl (x.2.1.map qA))] true true,.live 1 [.t (.sl (x.2.2.map qA))] true true]
 pre x:=x.1<x.2.1.length∧x.1<x.2.2.length
 r x:= .t (qA (x.2.1.getD x.1 0 ^^^ x.2.2.getD x.1 0))
 outs x:=[.live 1 [.t (.sl (x.2.1.map qA))] true true,.live 1 [.t (.sl (x.2.2.map qA))] true true]
 inj:=by
  rintro⟨a,b,c⟩ ⟨d,e,f⟩ h h2
  simp only[List.cons.injEq,V.t.injEq,T.int.injEq,T.sl.injEq,Ob.live.injEq,true_and,and_true,qP,Int.natCast_inj] at h h2
  obtain⟨rfl,rfl⟩:=h2
  subst h
  exact⟨rfl,rfl⟩
theorem zQk {i:Nat} {b s:List UInt8} (h:i<b.length) (h2:i<s.length):qM9.fs [.t (.int .i64 i),.ref 0 0 0,.ref 1 0 0] [.live 1 [.t (.sl (b.map qA))] true true,.live 1 [.t (.sl (s.map qA))] true true]=some (.t (qA (b.getD i 0 ^^^ s.getD i 0)),[.live 1 [.t (.sl (b.map qA))] true true,.live 1 [.t (.sl (s.map qA))] true true]):=qM9.eq (i,b,s) ⟨h,h2⟩
theorem qVq (tab:Tab) (gl:Gl) (i:Nat) (b s:List UInt8) (h:i<b.length) (h2:i<s.length) :
  qHk.wp tab gl (qE 0 [.t (.int .i64 i),.ref 0 0 0,.ref 1 0 0]) (qE 0 [.live 1 [.t (.sl (b.map qA))] true true,.live 1 [.t (.sl (s.map qA))] true true]) (qAg [] [(4,none)] 2 (fun r o=>r = .t (qA (b.getD i 0 ^^^ s.getD i 0))∧o=[.live 1 [.t (.sl (b.map qA))] true true,.live 1 [.t (.sl (s.map qA))] true true])):=by
 simp (disch:=omega) only [go_sem,seval,qHk,h,h2]
 all_goals rfl
def qH3:Ct where
 α:=List UInt8×List UInt8×List UInt8
 as x:=[.t (.sl (x.1.map qA)),.t (.sl (x.2.1.map qA)),.t (.sl (x.2.2.map qA))]
 ins _:=[]
 pre x:=x.1.length≤64∧x.2.1.length≤64∧1≤x.2.2.length∧x.2.2.length≤1024
 r x:= .sl 0 0 x.2.2.length
 outs x:=[.live 1 (((qFm x.1 x.2.1 x.2.2).map qA).map V.t) true false]
 inj:=by
  rintro⟨a,b,c⟩ ⟨d,e,f⟩ h _
  simp only[List.cons.injEq,V.t.injEq,T.sl.injEq,true_and,and_true,qP] at h
  obtain⟨rfl,rfl,rfl⟩:=h
  exact⟨rfl,rfl⟩
abbrev zYx (k no b:List UInt8):Prop:=k.length≤64∧no.length≤64∧1≤b.length∧b.length≤1024
theorem zF5 {k no b:List UInt8} (h:zYx k no b):qH3.fs [.t (.sl (k.map qA)),.t (.sl (no.map qA)),.t (.sl (b.map qA))] []=some (.sl 0 0 b.length,[.live 1 (((qFm k no b).map qA).map V.t) true false]):=qH3.eq (k,no,b) h
theorem zEn {k no:List UInt8} {n:Nat} (h:k.length≤64∧no.length≤64∧1≤n∧n≤1024):wG.fs [.t (.sl (k.map qA)),.t (zN [101,110,99,114,121,112,116]),.t (.sl (no.map qA)),.t (.int .i64 n)] []=some (.t (.sl ((drv k zJq no n).map qA)),[]):=qQi (l:=zJq) ⟨h.1,by decide,by omega,h.2.2⟩
theorem zEm {k no:List UInt8} (h:k.length≤64∧no.length≤64):wG.fs [.t (.sl (k.map qA)),.t (zN [97,117,116,104,101,110,116,105,99,97,116,101]),.t (.sl (no.map qA)),.t (.int .i64 32)] []=some (.t (.sl ((drv k zOz no 32).map qA)),[]):=qQi (l:=zOz) (n:=32) ⟨h.1,by decide,by omega,by omega,by omega⟩
theorem zCy (tab:Tab) (gl:Gl) (n1 n2:Nat) (h1:tab.look n1=some wG.fs) (h2:tab.look n2=some qM9.fs) (k no b:List UInt8) (h:zYx k no b) :
  (qL8 n1 n2).wp tab gl (qE 0 [.t (.sl (k.map qA)),.t (.sl (no.map qA)),.t (.sl (b.map qA))]) (qE 0 []) (qAg [] [(6,none)] 0 (fun r o=>r = .sl 0 0 b.length∧o=[.live 1 (((qFm k no b).map qA).map V.t) true false])):=by
 obtain⟨hk,hn,hb,hb'⟩:=h
 have hD:=zEn (k:=k) (no:=no) (n:=b.length) ⟨hk,hn,hb,hb'⟩
 have lD:=jT (key:=k) (label:=zJq) (ctx:=no) (n:=b.length)
 have lM:=yK (k:=k) (no:=no) (b:=b)
 have gM:=fun i=>qZ4 (k:=k) (no:=no) (b:=b) (i:=i)
 generalize drv k zJq no b.length=s at *
 generalize qFm k no b=z at *
 simp (disch:=omega) only [go_sem,seval,qL8,h1,hD]
 refine qD b.length (fun i=>[(8,.fn n2 [.ref 4096 0 0,.ref 8272 0 0]),(9,.sl 16416 0 b.length),(21,.t (.int .i64 b.length)),(22,.t (.int .i64 i))]) (fun i=>[(16416,.live 1 (((upN b.length z i).map qA).map V.t) true false),(8272,.live 1 [.t (.sl (s.map qA))] true true),(4096,.live 1 [.t (.sl (b.map qA))] true true)]) ?_ (fun i hi=>?_)
 ·refine qQ.rd id ?_ ?_ rfl
  all_goals simp (disch:=omega) only [go_sem,seval,id,zXf]
 ·have u1:=qQ1 lM hi
  by_cases hlt:i<b.length
  ·have s1:=zHt lM hlt (gM i hlt)
   have hc:=zQk (b:=b) (s:=s) hlt (by omega)
   simp (disch:=omega) only [go_sem,seval,qCb,hlt,h2,hc,u1,s1]
   refine qQ.rd id ?_ ?_ rfl
   all_goals simp (disch:=omega) only [go_sem,seval,id]
  ·have e:i=b.length:=by omega
   subst e
   simp (disch:=omega) only [go_sem,seval,qCb,zXg lM]
theorem qS1 (tab:Tab) (gl:Gl) (n1:Nat) (h1:tab.look n1=some wG.fs) (k no b:List UInt8) (h:zYx k no b) :
  (qF1 n1).wp tab gl (qE 0 [.t (.sl (k.map qA)),.t (.sl (no.map qA)),.t (.sl (b.map qA))]) (qE 0 []) (qAg [] [(6,none)] 0 (fun r o=>r = .sl 0 0 b.length∧o=[.live 1 (((qFm k no b).map qA).map V.t) true false])):=by
 obtain⟨hk,hn,hb,hb'⟩:=h
 have hD:=zEn (k:=k) (no:=no) (n:=b.length) ⟨hk,hn,hb,hb'⟩
 have lD:=jT (key:=k) (label:=zJq) (ctx:=no) (n:=b.length)
 have lM:=yK (k:=k) (no:=no) (b:=b)
 have gM:=fun i=>qZ4 (k:=k) (no:=no) (b:=b) (i:=i)
 generalize drv k zJq no b.length=s at *
 generalize qFm k no b=z at *
 simp (disch:=omega) only [go_sem,seval,qF1,h1,hD]
 refine qD b.length (fun i=>[(2,.t (.sl (b.map qA))),(7,.t (.sl (s.map qA))),(8,.sl 12320 0 b.length),(9,.t (.int .i64 i))]) (fun i=>[(12320,.live 1 (((upN b.length z i).map qA).map V.t) true false)]) ?_ (fun i hi=>?_)
 ·refine qQ.rd id ?_ ?_ rfl
  all_goals simp (disch:=omega) only [go_sem,seval,id,zXf]
 ·have u1:=qQ1 lM hi
  by_cases hlt:i<b.length
  ·have s1:=zHt lM hlt (gM i hlt)
   have hs:i<s.length:=by omega
   simp (disch:=omega) only [go_sem,seval,kO,hlt,hs,u1,s1]
   refine⟨rfl,qQ.rd id ?_ ?_ rfl⟩
   all_goals simp (disch:=omega) only [go_sem,seval,id]
  ·have e:i=b.length:=by omega
   subst e
   simp (disch:=omega) only [go_sem,seval,kO,zXg lM]
abbrev Cd:=List UInt8×Nat
def qO9 (c:Cd):Ob:= .live 2 [.t (.agg [.sl (c.1.map qA),.int .i64 (c.2:Int)])] true true
abbrev cdO (c:Cd):Ob:= .live 2 [.t (.agg [.sl (c.1.map qA),.int .i64 (c.2:Int)])] true true
theorem kC {b:List UInt8} {a:Nat}:qO9 (b,a) = .live 2 [.t (.agg [.sl (b.map qA),.int .i64 (a:Int)])] true true:=rfl
theorem qLo {s t:Cd} (h:qO9 s=qO9 t):s=t:=by
 obtain⟨b,a⟩:=s
 obtain⟨b',a'⟩:=t
 simp only[kC,Ob.live.injEq,List.cons.injEq,V.t.injEq,T.agg.injEq,T.sl.injEq,T.int.injEq,qP,Int.natCast_inj] at h
 simp only[Prod.mk.injEq]
 exact⟨h.2.1.1.1,h.2.1.1.2.1.2⟩
def qB1 (c:Cd):Prop:=c.2≤c.1.length∧c.1.length<1000000000
def nx (c:Cd) (n:Nat):Nat×Cd:=if c.1.length≤c.2 then (0,c) else ((c.1.getD c.2 0).toNat%n,(c.1,c.2+1))
theorem qEa {c:Cd} {n:Nat} (h:qB1 c):qB1 (nx c n).2:=by
 unfold nx qB1 at *
 split
 ·exact h
 ·exact⟨by simp only;omega,h.2⟩
theorem qR2 {c:Cd} {n:Nat} (h:1≤n):(nx c n).1<n:=by
 unfold nx
 split
 ·exact h
 ·exact Nat.mod_lt _ (by omega)
def qCf:Ct where
 α:=Cd×Nat
 as x:=[.ref 0 0 0,.t (.int .i64 x.2)]
 ins x:=[qO9 x.1]
 pre x:=qB1 x.1∧1≤x.2∧x.2≤1000000000
 r x:= .t (.int .i64 (nx x.1 x.2).1)
 outs x:=[qO9 (nx x.1 x.2).2]
 inj:=by
  rintro⟨s,a⟩ ⟨t,c⟩ h1 h2
  simp only[List.cons.injEq,V.t.injEq,T.int.injEq,true_and,and_true,Int.natCast_inj] at h1
  simp only[List.cons.injEq,and_true] at h2
  subst h1
  cases qLo h2
  exact⟨rfl,rfl⟩
theorem qXm {c:Cd} {n:Nat} (h:qB1 c∧1≤n∧n≤1000000000):qCf.fs [.ref 0 0 0,.t (.int .i64 n)] [cdO c]=some (.t (.int .i64 (nx c n).1),[cdO (nx c n).2]):=qCf.eq (c,n) h
theorem qYg (tab:Tab) (gl:Gl) (c:Cd) (n:Nat) (hc:qB1 c) (h1:1≤n) (h2:n≤1000000000) :
  wX.wp tab gl (qE 0 [.ref 0 0 0,.t (.int .i64 n)]) (qE 0 [qO9 c]) (jK [(4,none)] 1 (fun r o=>r = .t (.int .i64 (nx c n).1)∧o=[qO9 (nx c n).2])):=by
 obtain⟨b,a⟩:=c
 obtain⟨q1,q2⟩:=hc
 simp only at q1 q2
 by_cases h:b.length≤a
 ·have e:nx (b,a) n=(0,(b,a)):=if_pos h
  rw[e]
  simp (disch:=omega) only [go_sem,seval,wX,kC,h]
  rfl
 ·have e:nx (b,a) n=((b.getD a 0).toNat%n,(b,a+1)):=if_neg h
  rw[e]
  simp (disch:=omega) only [go_sem,seval,wX,kC,h]
  exact⟨rfl,rfl,by rw[Int.tmod_eq_emod_of_nonneg (Int.natCast_nonneg _)];norm_cast⟩
def qGp:Ct where
 α:=List UInt8×Nat
 as x:=[.t (.sl (x.1.map qA)),.t (.int .i64 x.2)]
 ins _:=[]
 pre x:=x.1.length≤9223372036854775807∧x.2≤1000000
 r _:= .ref 0 0 0
 outs x:=[qO9 (x.1.take x.2,0)]
 inj:=by
  rintro⟨a,b⟩ ⟨c,d⟩ h _
  simp only[List.cons.injEq,V.t.injEq,T.sl.injEq,T.int.injEq,true_and,and_true,qP,Int.natCast_inj] at h
  obtain⟨rfl,rfl⟩:=h
  exact⟨rfl,rfl⟩
theorem zEk {b:List UInt8} {n:Nat} (h:b.length≤9223372036854775807∧n≤1000000):qGp.fs [.t (.sl (b.map qA)),.t (.int .i64 n)] []=some (.ref 0 0 0,[cdO (b.take n,0)]):=qGp.eq (b,n) h
theorem zC1 (tab:Tab) (gl:Gl) (b:List UInt8) (n:Nat) (h1:b.length≤9223372036854775807) (h2:n≤1000000) :
  qGk.wp tab gl (qE 0 [.t (.sl (b.map qA)),.t (.int .i64 n)]) (qE 0 []) (qAg [] [(4,none)] 0 (fun r o=>r = .ref 0 0 0∧o=[qO9 (b.take n,0)])):=by
 by_cases h:n<b.length
 ·simp (disch:=omega) only [go_sem,seval,qGk,kC,h]
 ·have e:b.take n=b:=List.take_of_length_le (by omega)
  simp (disch:=omega) only [go_sem,seval,qGk,kC,h,e]
def qKn:Ct where
 α:=List UInt8×Nat
 as x:=[.t (.sl (x.1.map qA)),.t (.int .i64 x.2)]
 ins _:=[]
 pre x:=x.1.length≤9223372036854775807∧x.2≤1000000
 r x:= .t (.sl ((x.1.take x.2).map qA))
 outs _:=[]
 inj:=by
  rintro⟨a,b⟩ ⟨c,d⟩ h _
  simp only[List.cons.injEq,V.t.injEq,T.sl.injEq,T.int.injEq,true_and,and_true,qP,Int.natCast_inj] at h
  obtain⟨rfl,rfl⟩:=h
  exact⟨rfl,rfl⟩
theorem zNr {b:List UInt8} {n:Nat} (h:b.length≤9223372036854775807∧n≤1000000):qKn.fs [.t (.sl (b.map qA)),.t (.int .i64 n)] []=some (.t (.sl ((b.take n).map qA)),[]):=qKn.eq (b,n) h
theorem zCz (tab:Tab) (gl:Gl) (b:List UInt8) (n:Nat) (h1:b.length≤9223372036854775807) (h2:n≤1000000) :
  qGj.wp tab gl (qE 0 [.t (.sl (b.map qA)),.t (.int .i64 n)]) (qE 0 []) (jK [(4,none)] 0 (fun r o=>r = .t (.sl ((b.take n).map qA))∧o=[])):=by
 by_cases h:n<b.length
 ·simp (disch:=omega) only [go_sem,seval,qGj,h]
 ·have e:b.take n=b:=List.take_of_length_le (by omega)
  simp (disch:=omega) only [go_sem,seval,qGj,h,e]
theorem qFc {b p x t:List UInt8} {most:Nat} (hb:b=p++beI 2 (x.length:Int) 2++x++t) (hx:x.length≤most) (hm:most≤65535):qV (b,p.length,0) most=(x,(b,p.length+2+x.length,0)):=by
 have hlen:b.length=p.length+2+x.length+t.length:=by rw[hb];simp only[List.length_append,jB]
 have h1:List.take 2 (List.drop p.length b)=beI 2 (x.length:Int) 2:=zAx (t:=x++t) (by rw[hb];simp only[List.append_assoc]) jB
 have h2:beV (beI 2 (x.length:Int) 2)=x.length:=by
  rw[zO0]
  have e:(256:Nat)^2=65536:=by decide
  have:=zVn (n:=(x.length:Int)) (by omega)
  rw[e];omega
 have h3:List.take x.length (List.drop (p.length+2) b)=x:=by
  have:=zAx (b:=b) (p:=p++beI 2 (x.length:Int) 2) (q:=x) (t:=t) (k:=x.length) hb rfl
  rw[List.length_append,jB] at this
  exact this
 unfold qV
 simp only[h1,h2]
 rw[if_neg (by simp),if_neg (by omega),if_neg (by omega),if_neg (by omega),h3]
def qDd:Ct where
 α:=List UInt8×List UInt8×List UInt8×List UInt8
 as x:=[.t (.sl (x.1.map qA)),.t (.sl (x.2.1.map qA)),.t (.sl (x.2.2.1.map qA)),.t (.sl (x.2.2.2.map qA))]
 ins _:=[]
 pre x:=x.1.length≤64∧x.2.1.length≤64∧x.2.2.1.length≤1000000∧x.2.2.2.length≤1000000
 r _:= .sl 0 0 32
 outs x:=[.live 1 (((qJo x.1 x.2.1 x.2.2.1 x.2.2.2).map qA).map V.t) true false]
 inj:=by
  rintro⟨a,b,c,d⟩ ⟨e,f,g,i⟩ h _
  simp only[List.cons.injEq,V.t.injEq,T.sl.injEq,true_and,and_true,qP] at h
  obtain⟨rfl,rfl,rfl,rfl⟩:=h
  exact⟨rfl,rfl⟩
theorem qWs {k no ad c:List UInt8} (h:k.length≤64∧no.length≤64∧ad.length≤1000000∧c.length≤1000000):qDd.fs [.t (.sl (k.map qA)),.t (.sl (no.map qA)),.t (.sl (ad.map qA)),.t (.sl (c.map qA))] []=some (.sl 0 0 32,[.live 1 (((qJo k no ad c).map qA).map V.t) true false]):=qDd.eq (k,no,ad,c) h
theorem qUj {t:Nat} {x y z:List UInt8} (hx:x.length≤1000000) (hy:y.length≤1000000) (hz:z.length≤1000000):(zK t [x,y,z]).length<100000000:=by
 simp only[zK,List.flatMap_cons,List.flatMap_nil,List.length_cons,List.length_append,List.length_nil,qHy];omega
theorem zH3 (tab:Tab) (gl:Gl) (n1 n2 n3:Nat) (h1:tab.look n1=some wG.fs) (h2:tab.look n2=some xE.fs) (h3:tab.look n3=some qF9.fs) (k no ad c:List UInt8) (h:k.length≤64∧no.length≤64∧ad.length≤1000000∧c.length≤1000000) :
  (qP7 n1 n2 n3).wp tab gl (qE 0 [.t (.sl (k.map qA)),.t (.sl (no.map qA)),.t (.sl (ad.map qA)),.t (.sl (c.map qA))]) (qE 0 []) (qAg [] [(8,none)] 0 (fun r o=>r = .sl 0 0 32∧o=[.live 1 (((qJo k no ad c).map qA).map V.t) true false])):=by
 obtain⟨hk,hn,ha,hc⟩:=h
 have hD:=zEm (k:=k) (no:=no) ⟨hk,hn⟩
 have hl:=qUj (t:=0) (x:=ad) (y:=no) (z:=c) ha (by omega) hc
 have hF:=qLq (t:=0) (fs:=[ad,no,c]) ⟨by omega,by omega⟩
 have hM:=qZ2 (k:=drv k zOz no 32) (b:=zK 0 [ad,no,c]) ⟨by rw[jT];omega,by omega⟩
 have hT:qXd (drv k zOz no 32) (zK 0 [ad,no,c])=qJo k no ad c:=rfl
 rw[hT] at hM
 generalize zK 0 [ad,no,c]=f at *
 have tf:List.take f.length f=f:=List.take_length
 simp only[List.map_cons,List.map_nil,qEr] at hF
 rw[show ((0:Nat):Int)=0 from rfl] at hF
 generalize qJo k no ad c=t at *
 simp (disch:=omega) only [go_sem,seval,qP7,h1,h2,h3,hD,hF,hM,tf]
 all_goals rfl
theorem zC6 (tab:Tab) (gl:Gl) (n1 n2 n3:Nat) (h1:tab.look n1=some wG.fs) (h2:tab.look n2=some xE.fs) (h3:tab.look n3=some qF9.fs) (k no ad c:List UInt8) (h:k.length≤64∧no.length≤64∧ad.length≤1000000∧c.length≤1000000) :
  (qMd n1 n2 n3).wp tab gl (qE 0 [.t (.sl (k.map qA)),.t (.sl (no.map qA)),.t (.sl (ad.map qA)),.t (.sl (c.map qA))]) (qE 0 []) (qAg [] [(8,none)] 0 (fun r o=>r = .sl 0 0 32∧o=[.live 1 (((qJo k no ad c).map qA).map V.t) true false])):=by
 obtain⟨hk,hn,ha,hc⟩:=h
 have hD:=zEm (k:=k) (no:=no) ⟨hk,hn⟩
 have hl:=qUj (t:=0) (x:=ad) (y:=no) (z:=c) ha (by omega) hc
 have hF:=qLq (t:=0) (fs:=[ad,no,c]) ⟨by omega,by omega⟩
 have hM:=qZ2 (k:=drv k zOz no 32) (b:=zK 0 [ad,no,c]) ⟨by rw[jT];omega,by omega⟩
 have hT:qXd (drv k zOz no 32) (zK 0 [ad,no,c])=qJo k no ad c:=rfl
 rw[hT] at hM
 generalize zK 0 [ad,no,c]=f at *
 have tf:List.take f.length f=f:=List.take_length
 simp only[List.map_cons,List.map_nil,qEr] at hF
 rw[show ((0:Nat):Int)=0 from rfl] at hF
 generalize qJo k no ad c=t at *
 simp (disch:=omega) only [go_sem,seval,qMd,h1,h2,h3,hD,hF,hM,tf]
 all_goals rfl
def zIq (k no ad p:List UInt8):List UInt8:=blL (blL [] no) (qFm k no p)++qJo k no ad (qFm k no p)
theorem qOi {k no ad p:List UInt8}:(zIq k no ad p).length=4+no.length+p.length+32:=by
 simp[zIq,yJ,yK,qBl];omega
abbrev zZ5 (k no ad p:List UInt8):Prop:=zYx k no p∧ad.length≤1000000
def qNk:Ct where
 α:=List UInt8×List UInt8×List UInt8×List UInt8
 as x:=[.t (.sl (x.1.map qA)),.t (.sl (x.2.1.map qA)),.t (.sl (x.2.2.1.map qA)),.t (.sl (x.2.2.2.map qA))]
 ins _:=[]
 pre x:=zZ5 x.1 x.2.1 x.2.2.1 x.2.2.2
 r x:= .t (.sl ((zIq x.1 x.2.1 x.2.2.1 x.2.2.2).map qA))
 outs _:=[]
 inj:=by
  rintro⟨a,b,c,d⟩ ⟨e,f,g,i⟩ h _
  simp only[List.cons.injEq,V.t.injEq,T.sl.injEq,true_and,and_true,qP] at h
  obtain⟨rfl,rfl,rfl,rfl⟩:=h
  exact⟨rfl,rfl⟩
theorem zSb {k no ad p:List UInt8} (h:zZ5 k no ad p):qNk.fs [.t (.sl (k.map qA)),.t (.sl (no.map qA)),.t (.sl (ad.map qA)),.t (.sl (p.map qA))] []=some (.t (.sl ((zIq k no ad p).map qA)),[]):=qNk.eq (k,no,ad,p) h
theorem zCx (tab:Tab) (gl:Gl) (n1 n2 n3:Nat) (h1:tab.look n1=some qH3.fs) (h2:tab.look n2=some qA9.fs) (h3:tab.look n3=some qDd.fs) (k no ad p:List UInt8) (h:zZ5 k no ad p) :
  (qL7 n1 n2 n3).wp tab gl (qE 0 [.t (.sl (k.map qA)),.t (.sl (no.map qA)),.t (.sl (ad.map qA)),.t (.sl (p.map qA))]) (qE 0 []) (jK [(8,none)] 0 (fun r o=>r = .t (.sl ((zIq k no ad p).map qA))∧o=[])):=by
 obtain⟨hm,ha⟩:=h
 have hM:=zF5 hm
 obtain⟨hk,hn,hp,hp'⟩:=hm
 have lM:=yK (k:=k) (no:=no) (b:=p)
 have hX:zIq k no ad p=blL (blL [] no) (qFm k no p)++qJo k no ad (qFm k no p):=rfl
 rw[hX]
 generalize qFm k no p=c at *
 have hT:=qWs (k:=k) (no:=no) (ad:=ad) (c:=c) ⟨hk,hn,ha,by omega⟩
 have lT:=qBl (k:=k) (no:=no) (ad:=ad) (c:=c)
 generalize qJo k no ad c=t at *
 have b1:=qA5 (b:=[]) (x:=no) ⟨by decide,by omega⟩
 have l1:(blL [] no).length=2+no.length:=by simp[yJ]
 simp only[List.map_nil,List.length_nil] at b1
 generalize blL [] no=q at *
 have b2:=qA5 (b:=q) (x:=c) ⟨by omega,by omega⟩
 have l2:(blL q c).length=q.length+2+c.length:=yJ
 generalize blL q c=q2 at *
 have tc:List.take p.length c=c:=List.take_of_length_le (by omega)
 have tq : ∀ n,q.length≤n→List.take n q=q:=fun n h=>List.take_of_length_le h
 have tt:List.take 32 t=t:=List.take_of_length_le (by omega)
 have ty : ∀ n,q2.length+32≤n→List.take n (q2++t)=q2++t:=fun n h=>List.take_of_length_le (by rw[List.length_append];omega)
 simp (disch:=omega) only [go_sem,seval,qL7,h1,h2,h3,hn,hp',hM,b1,tc,tq,b2,hT,lM,lT,l1,l2,tt,ty]
def zN9 (b:List UInt8):List UInt8×List UInt8×List UInt8×Int:=
 let x:=qV (b,0,0) 64
 let y:=qV x.2 1024
 let z:=kW y.2 32
 (x.1,y.1,z.1,qAn z.2)
def qUz (k ad b:List UInt8):List UInt8×Int:=
 let q:=zN9 b
 if q.2.2.2≠0 then ([],q.2.2.2) else if q.2.2.1=qJo k q.1 ad q.2.1 then (qFm k q.1 q.2.1,0) else ([],18)
abbrev zYz (k ad b:List UInt8):Prop:=k.length≤64∧ad.length≤1000000∧b.length<1000000000∧1≤(zN9 b).2.1.length
def qEy:Ct where
 α:=List UInt8×List UInt8×List UInt8
 as x:=[.t (.sl (x.1.map qA)),.t (.sl (x.2.1.map qA)),.t (.sl (x.2.2.map qA))]
 ins _:=[]
 pre x:=zYz x.1 x.2.1 x.2.2
 r x:= .tup [.t (.sl ((qUz x.1 x.2.1 x.2.2).1.map qA)),.t (.int .i64 (qUz x.1 x.2.1 x.2.2).2)]
 outs _:=[]
 inj:=by
  rintro⟨a,b,c⟩ ⟨d,e,f⟩ h _
  simp only[List.cons.injEq,V.t.injEq,T.sl.injEq,true_and,and_true,qP] at h
  obtain⟨rfl,rfl,rfl⟩:=h
  exact⟨rfl,rfl⟩
theorem zGc {k ad b:List UInt8} (h:zYz k ad b):qEy.fs [.t (.sl (k.map qA)),.t (.sl (ad.map qA)),.t (.sl (b.map qA))] []=some (.tup [.t (.sl ((qUz k ad b).1.map qA)),.t (.int .i64 (qUz k ad b).2)],[]):=qEy.eq (k,ad,b) h
theorem zVg:((1024:Nat):Int)=1024:=rfl
theorem jC1:((64:Nat):Int)=64:=rfl
theorem zYw:((32:Nat):Int)=32:=rfl
theorem zCw (tab:Tab) (gl:Gl) (n1 n2 n3 n4 n5 n6 n7:Nat) (h1:tab.look n1=some qCh.fs) (h2:tab.look n2=some xF.fs) (h3:tab.look n3=some qE1.fs) (h4:tab.look n4=some qCg.fs) (h5:tab.look n5=some qDd.fs) (h6:tab.look n6=some kQ.fs) (h7:tab.look n7=some qH3.fs) (k ad b:List UInt8) (h:zYz k ad b) :
  (qC8 n1 n2 n3 n4 n5 n6 n7).wp tab gl (qE 0 [.t (.sl (k.map qA)),.t (.sl (ad.map qA)),.t (.sl (b.map qA))]) (qE 0 []) (jK [(6,none),(7,none)] 0 (fun r o=>r = .tup [.t (.sl ((qUz k ad b).1.map qA)),.t (.int .i64 (qUz k ad b).2)]∧o=[])):=by
 obtain⟨hk,ha,hb,h1c⟩:=h
 have r0:qGd (b,0,0):=⟨Nat.zero_le _,hb⟩
 have e1:=qSe hb
 have e2:=xG (s:=(b,0,0)) (k:=64) ⟨r0,by omega⟩
 have ok2:=wI (k:=64) r0
 have le2:=vS (s:=(b,0,0)) (k:=64)
 have hE:zN9 b=((qV (b,0,0) 64).1,(qV (qV (b,0,0) 64).2 1024).1,(kW (qV (qV (b,0,0) 64).2 1024).2 32).1,qAn (kW (qV (qV (b,0,0) 64).2 1024).2 32).2):=rfl
 rw[qUz]
 generalize hx:qV (b,0,0) 64=x at *
 obtain⟨no,s1⟩:=x
 have e3:=xG (s:=s1) (k:=1024) ⟨ok2,by omega⟩
 have ok3:=wI (k:=1024) ok2
 have le3:=vS (s:=s1) (k:=1024)
 simp only at *
 generalize hy:qV s1 1024=y at *
 obtain⟨c,s2⟩:=y
 have e4:=zGw (s:=s2) (k:=32) ⟨ok3,by omega⟩
 have ok4:=zAg (k:=32) ok3
 have le4:=zAf (s:=s2) (k:=32)
 simp only at *
 generalize hz:kW s2 32=z at *
 obtain⟨t,s3⟩:=z
 have e5:=qSd ok4
 simp only at *
 generalize qAn s3=e at *
 rw[hE] at h1c ⊢
 obtain⟨b1,a1,f1⟩:=s1
 obtain⟨b2,a2,f2⟩:=s2
 obtain⟨b3,a3,f3⟩:=s3
 simp only[rdO,Int.natCast_zero,Int.natCast_one,zVg,jC1,zYw] at e1 e2 e3 e4 e5
 simp only at *
 by_cases he:e=0
 ·subst he
  have lT:=qBl (k:=k) (no:=no) (ad:=ad) (c:=c)
  have hT:=qWs (k:=k) (no:=no) (ad:=ad) (c:=c) ⟨hk,by omega,ha,by omega⟩
  have hS:=qFd (a:=t) (b:=qJo k no ad c) ⟨by omega,by omega⟩
  have hM:=zF5 (k:=k) (no:=no) (b:=c) ⟨hk,by omega,by omega,by omega⟩
  have lM:=yK (k:=k) (no:=no) (b:=c)
  have tt:List.take 32 (qJo k no ad c)=qJo k no ad c:=List.take_of_length_le (by omega)
  have tm:List.take c.length (qFm k no c)=qFm k no c:=List.take_of_length_le (by omega)
  rw[if_neg (fun h=>h rfl)]
  by_cases hq:t=qJo k no ad c
  ·rw[if_pos hq]
   rw[decide_eq_true hq] at hS
   generalize qJo k no ad c=g at *
   generalize qFm k no c=m at *
   simp (disch:=omega) only [go_sem,seval,qC8,h1,e1,h2,e2,e3,h3,e4,h4,e5,h5,hT,tt,lT,h6,hS,h7,hM,lM,tm]
  ·rw[if_neg hq]
   rw[decide_eq_false hq] at hS
   generalize qJo k no ad c=g at *
   simp (disch:=omega) only [go_sem,seval,qC8,h1,e1,h2,e2,e3,h3,e4,h4,e5,h5,hT,tt,lT,h6,hS]
   all_goals rfl
 ·rw[if_pos he]
  have hb:(e != 0)=true:=by simpa using he
  simp (disch:=omega) only [go_sem,seval,qC8,h1,e1,h2,e2,e3,h3,e4,h4,e5,hb]
  all_goals rfl
theorem qYt (tab:Tab) (gl:Gl) (n1 n2 n3 n4 n5 n6 n7:Nat) (h1:tab.look n1=some qCh.fs) (h2:tab.look n2=some xF.fs) (h3:tab.look n3=some qE1.fs) (h4:tab.look n4=some qCg.fs) (h5:tab.look n5=some qDd.fs) (h6:tab.look n6=some kQ.fs) (h7:tab.look n7=some qH3.fs) (k ad b:List UInt8) (h:zYz k ad b) :
  (qBy n1 n2 n3 n4 n5 n6 n7).wp tab gl (qE 0 [.t (.sl (k.map qA)),.t (.sl (ad.map qA)),.t (.sl (b.map qA))]) (qE 0 []) (jK [(6,none),(7,none)] 0 (fun r o=>r = .tup [.t (.sl ((qUz k ad b).1.map qA)),.t (.int .i64 (qUz k ad b).2)]∧o=[])):=by
 obtain⟨hk,ha,hb,h1c⟩:=h
 have r0:qGd (b,0,0):=⟨Nat.zero_le _,hb⟩
 have e1:=qSe hb
 have e2:=xG (s:=(b,0,0)) (k:=64) ⟨r0,by omega⟩
 have ok2:=wI (k:=64) r0
 have le2:=vS (s:=(b,0,0)) (k:=64)
 have hE:zN9 b=((qV (b,0,0) 64).1,(qV (qV (b,0,0) 64).2 1024).1,(kW (qV (qV (b,0,0) 64).2 1024).2 32).1,qAn (kW (qV (qV (b,0,0) 64).2 1024).2 32).2):=rfl
 rw[qUz]
 generalize hx:qV (b,0,0) 64=x at *
 obtain⟨no,s1⟩:=x
 have e3:=xG (s:=s1) (k:=1024) ⟨ok2,by omega⟩
 have ok3:=wI (k:=1024) ok2
 have le3:=vS (s:=s1) (k:=1024)
 simp only at *
 generalize hy:qV s1 1024=y at *
 obtain⟨c,s2⟩:=y
 have e4:=zGw (s:=s2) (k:=32) ⟨ok3,by omega⟩
 have ok4:=zAg (k:=32) ok3
 have le4:=zAf (s:=s2) (k:=32)
 simp only at *
 generalize hz:kW s2 32=z at *
 obtain⟨t,s3⟩:=z
 have e5:=qSd ok4
 simp only at *
 generalize qAn s3=e at *
 rw[hE] at h1c ⊢
 obtain⟨b1,a1,f1⟩:=s1
 obtain⟨b2,a2,f2⟩:=s2
 obtain⟨b3,a3,f3⟩:=s3
 simp only[rdO,Int.natCast_zero,Int.natCast_one,zVg,jC1,zYw] at e1 e2 e3 e4 e5
 simp only at *
 by_cases he:e=0
 ·subst he
  have lT:=qBl (k:=k) (no:=no) (ad:=ad) (c:=c)
  have hT:=qWs (k:=k) (no:=no) (ad:=ad) (c:=c) ⟨hk,by omega,ha,by omega⟩
  have hS:=qFd (a:=t) (b:=qJo k no ad c) ⟨by omega,by omega⟩
  have hM:=zF5 (k:=k) (no:=no) (b:=c) ⟨hk,by omega,by omega,by omega⟩
  have lM:=yK (k:=k) (no:=no) (b:=c)
  have tt:List.take 32 (qJo k no ad c)=qJo k no ad c:=List.take_of_length_le (by omega)
  have tm:List.take c.length (qFm k no c)=qFm k no c:=List.take_of_length_le (by omega)
  rw[if_neg (fun h=>h rfl)]
  by_cases hq:t=qJo k no ad c
  ·rw[if_pos hq]
   rw[decide_eq_true hq] at hS
   generalize qJo k no ad c=g at *
   generalize qFm k no c=m at *
   simp (disch:=omega) only [go_sem,seval,qBy,h1,e1,h2,e2,e3,h3,e4,h4,e5,h5,hT,tt,lT,h6,hS,h7,hM,lM,tm]
  ·rw[if_neg hq]
   rw[decide_eq_false hq] at hS
   generalize qJo k no ad c=g at *
   simp (disch:=omega) only [go_sem,seval,qBy,h1,e1,h2,e2,e3,h3,e4,h4,e5,h5,hT,tt,lT,h6,hS]
   all_goals rfl
 ·rw[if_pos he]
  have hb:(e != 0)=true:=by simpa using he
  simp (disch:=omega) only [go_sem,seval,qBy,h1,e1,h2,e2,e3,h3,e4,h4,e5,hb]
  all_goals rfl
def snT (a s d:List UInt8):T:= .agg [.sl (a.map qA),.sl (s.map qA),.sl (d.map qA)]
theorem qG4 {a s d b t e:List UInt8} (h:snT a s d=snT b t e):a=b∧s=t∧d=e:=by
 simp only[snT,T.agg.injEq,List.cons.injEq,T.sl.injEq,true_and,and_true,qP] at h
 exact h
def jC2:List UInt8:=[112,114,105,118,97,116,101]
def jC4:List UInt8:=[115,101,101,100]
def qAk (s d:List UInt8):List UInt8:=qBo 13 [s,d]
theorem xA {s d:List UInt8}:(qAk s d).length=32:=qH
theorem zFf {t:Nat} {x y:List UInt8} (hx:x.length≤1000000) (hy:y.length≤1000000):(zK t [x,y]).length<1000000000:=by
 simp only[zK,List.flatMap_cons,List.flatMap_nil,List.length_cons,List.length_append,List.length_nil,qHy];omega
theorem qZy {s d:List UInt8} (hs:s.length≤1000000) (hd:d.length≤1000000):jQ.fs [.t (.int .i64 13),.t (.sl [.sl (s.map qA),.sl (d.map qA)])] []=some (.sl 0 0 32,[.live 1 (((qAk s d).map qA).map V.t) true false]):=jQ.eq (13,[s,d]) ⟨by show 13<256;omega,zFf hs hd⟩
def qQg:Ct where
 α:=List UInt8×List UInt8×List UInt8
 as x:=[.t (.int .i64 3),.t (.int .i64 0),.t (snT x.1 x.2.1 x.2.2)]
 ins _:=[]
 pre x:=x.2.1.length≤1000000∧x.2.2.length≤1000000
 r _:= .sl 0 0 32
 outs x:=[.live 1 (((qAk x.2.1 x.2.2).map qA).map V.t) true false]
 inj:=by
  rintro⟨a,b,c⟩ ⟨d,e,f⟩ h _
  simp only[List.cons.injEq,V.t.injEq,true_and,and_true] at h
  obtain⟨rfl,rfl,rfl⟩:=qG4 h
  exact⟨rfl,rfl⟩
theorem zOq {a s d:List UInt8} (h:s.length≤1000000∧d.length≤1000000):qQg.fs [.t (.int .i64 3),.t (.int .i64 0),.t (.agg [.sl (a.map qA),.sl (s.map qA),.sl (d.map qA)])] []=some (.sl 0 0 32,[.live 1 (((qAk s d).map qA).map V.t) true false]):=qQg.eq (a,s,d) h
theorem qS6 (tab:Tab) (gl:Gl) (n1 n2:Nat) (h2:tab.look n2=some jQ.fs) (a s d:List UInt8) (h:s.length≤1000000∧d.length≤1000000) :
  (qF6 n1 n2).wp tab gl (qE 0 [.t (.int .i64 3),.t (.int .i64 0),.t (snT a s d)]) (qE 0 []) (qAg [] [(6,none)] 0 (fun r o=>r = .sl 0 0 32∧o=[.live 1 (((qAk s d).map qA).map V.t) true false])):=by
 simp (disch:=omega) only [go_sem,seval,qF6,snT,h2,qZy h.1 h.2]
def qNm:Ct where
 α:=List UInt8×List UInt8×List UInt8
 as x:=[.t (snT x.1 x.2.1 x.2.2),.t (.int .i64 3),.t (.int .i64 0)]
 ins _:=[]
 pre x:=x.2.1.length≤1000000∧x.2.2.length≤1000000
 r _:= .sl 0 0 32
 outs x:=[.live 1 (((qAk x.2.1 x.2.2).map qA).map V.t) true false]
 inj:=by
  rintro⟨a,b,c⟩ ⟨d,e,f⟩ h _
  simp only[List.cons.injEq,V.t.injEq,true_and,and_true] at h
  obtain⟨rfl,rfl,rfl⟩:=qG4 h
  exact⟨rfl,rfl⟩
theorem zSx {a s d:List UInt8} (h:s.length≤1000000∧d.length≤1000000):qNm.fs [.t (.agg [.sl (a.map qA),.sl (s.map qA),.sl (d.map qA)]),.t (.int .i64 3),.t (.int .i64 0)] []=some (.sl 0 0 32,[.live 1 (((qAk s d).map qA).map V.t) true false]):=qNm.eq (a,s,d) h
theorem qPy (tab:Tab) (gl:Gl) (n1 n2:Nat) (h2:tab.look n2=some jQ.fs) (a s d:List UInt8) (h:s.length≤1000000∧d.length≤1000000) :
  (qEl n1 n2).wp tab gl (qE 0 [.t (snT a s d),.t (.int .i64 3),.t (.int .i64 0)]) (qE 0 []) (qAg [] [(6,none)] 0 (fun r o=>r = .sl 0 0 32∧o=[.live 1 (((qAk s d).map qA).map V.t) true false])):=by
 simp (disch:=omega) only [go_sem,seval,qEl,snT,h2,qZy h.1 h.2]
def qTx:Ct where
 α:=Int
 as x:=[.t (.int .i64 x)]
 ins _:=[]
 pre _:=True
 r x:= .tup [.t (.agg [.int .i64 0,.int .i64 0,.int .i64 0,.sl [],.sl []]),.t (.agg [.sl [],.sl [],.sl []]),.t (.int .i64 x)]
 outs _:=[]
 inj:=by
  intro a b h _
  simp only[List.cons.injEq,V.t.injEq,T.int.injEq,true_and,and_true] at h
  subst h
  exact⟨rfl,rfl⟩
theorem zVs {e:Int}:qTx.fs [.t (.int .i64 e)] []=some (.tup [.t (.agg [.int .i64 0,.int .i64 0,.int .i64 0,.sl [],.sl []]),.t (.agg [.sl [],.sl [],.sl []]),.t (.int .i64 e)],[]):=qTx.eq e trivial
theorem qS5 (tab:Tab) (gl:Gl) (e:Int):qF5.wp tab gl (qE 0 [.t (.int .i64 e)]) (qE 0 []) (jK [(2,some (5,true)),(3,some (3,true)),(4,none)] 0 (fun r o=>r = .tup [.t (.agg [.int .i64 0,.int .i64 0,.int .i64 0,.sl [],.sl []]),.t (.agg [.sl [],.sl [],.sl []]),.t (.int .i64 e)]∧o=[])):=by
 simp (disch:=omega) only [go_sem,seval,qF5]
def qAp (sec:List UInt8):List UInt8:=drv sec jC4 [] 32
def zTr (sec p d:List UInt8):V:=if d.length≤128 then .tup [.t (puT p (qAk (qAp sec) d)),.t (snT [] (qAp sec) d),.t (.int .i64 0)]
 else .tup [.t (.agg [.int .i64 0,.int .i64 0,.int .i64 0,.sl [],.sl []]),.t (.agg [.sl [],.sl [],.sl []]),.t (.int .i64 4)]
abbrev zZr (sec p d:List UInt8):Prop:=sec.length≤64∧p.length=32∧d.length≤1000
def qTy:Ct where
 α:=List UInt8×List UInt8×List UInt8
 as x:=[.t (.sl (x.1.map qA)),.t (puT x.2.1 []),.t (.sl []),.t (.sl (x.2.2.map qA))]
 ins _:=[]
 pre x:=zZr x.1 x.2.1 x.2.2
 r x:=zTr x.1 x.2.1 x.2.2
 outs _:=[]
 inj:=by
  rintro⟨a,b,c⟩ ⟨d,e,f⟩ h _
  simp only[List.cons.injEq,V.t.injEq,T.sl.injEq,true_and,and_true,qP] at h
  obtain⟨rfl,h,rfl⟩:=h
  obtain⟨rfl,_⟩:=qJk h
  exact⟨rfl,rfl⟩
theorem zVt {sec p d:List UInt8} (h:zZr sec p d):qTy.fs [.t (.sl (sec.map qA)),.t (puT p []),.t (.sl []),.t (.sl (d.map qA))] []=some (zTr sec p d,[]):=qTy.eq (sec,p,d) h
theorem zPl {k:List UInt8} (h:k.length≤64):wG.fs [.t (.sl (k.map qA)),.t (zN [115,101,101,100]),.t (.sl []),.t (.int .i64 32)] []=some (.t (.sl ((qAp k).map qA)),[]):=qQi (l:=jC4) (c:=[]) (n:=32) ⟨h,by decide,by decide,by omega,by omega⟩
theorem qY1 (tab:Tab) (gl:Gl) (n1 n2 n3 n4:Nat) (h1:tab.look n1=some qTx.fs) (h2:tab.look n2=some qNe.fs) (h3:tab.look n3=some wG.fs) (h4:tab.look n4=some qQg.fs) (sec p d:List UInt8) (h:zZr sec p d) :
  (qB0 n1 n2 n3 n4).wp tab gl (qE 0 [.t (.sl (sec.map qA)),.t (puT p []),.t (.sl []),.t (.sl (d.map qA))]) (qE 0 []) (jK [(8,some (5,true)),(9,some (3,true)),(10,none)] 0 (fun r o=>r=zTr sec p d∧o=[])):=by
 obtain⟨hs,hp,hd⟩:=h
 have hC:=zQ9 (p:=p) (u:=List.replicate 32 0) ⟨hp,by simp⟩
 have t32:List.take 32 (List.replicate 32 (0:UInt8))=List.replicate 32 0:=rfl
 by_cases h1d:128<d.length
 ·rw[zTr,if_neg (by omega)]
  simp (config := { maxSteps:=2000000 }) (disch:=(first | omega | (simp only[qBq,qBp];omega))) only [go_sem,↓reduceIte,Nat.reduceAdd,Nat.reduceEqDiff,Nat.reduceSub,Nat.reduceMul,Nat.reduceLT,Nat.reduceLeDiff,Nat.reduceBEq,Int.reduceEq,Int.reduceLT,Int.reduceLE,Int.reduceToNat,Int.reduceNeg,Int.reduceAdd,Int.reduceSub,Int.reduceMul,Int.reduceMod,Int.reduceDiv,reduceCtorEq,Nat.reducePow,Int.reducePow,qB0,puT,h1,h2,hC,t32,h1d,zVs,List.map_nil]
 ·rw[zTr,if_pos (by omega)]
  have hD:=zPl hs
  have lS:(qAp sec).length=32:=jT
  have hU:=zOq (a:=[]) (s:=qAp sec) (d:=d) ⟨by omega,by omega⟩
  have lU:=xA (s:=qAp sec) (d:=d)
  have tU:List.take 32 (qAk (qAp sec) d)=qAk (qAp sec) d:=List.take_of_length_le (by omega)
  generalize qAk (qAp sec) d=u at *
  generalize qAp sec=s at *
  simp only[List.map_nil] at hU
  by_cases h0:0<d.length
  ·simp (config := { maxSteps:=2000000 }) (disch:=(first | omega | (simp only[qBq,qBp];omega))) only [go_sem,↓reduceIte,Nat.reduceAdd,Nat.reduceEqDiff,Nat.reduceSub,Nat.reduceMul,Nat.reduceLT,Nat.reduceLeDiff,Nat.reduceBEq,Int.reduceEq,Int.reduceLT,Int.reduceLE,Int.reduceToNat,Int.reduceNeg,Int.reduceAdd,Int.reduceSub,Int.reduceMul,Int.reduceMod,Int.reduceDiv,reduceCtorEq,Nat.reducePow,Int.reducePow,qB0,puT,snT,h1,h2,hC,t32,h1d,h0,h3,hD,h4,hU,tU,lU,List.map_nil]
   all_goals rfl
  ·simp (config := { maxSteps:=2000000 }) (disch:=(first | omega | (simp only[qBq,qBp];omega))) only [go_sem,↓reduceIte,Nat.reduceAdd,Nat.reduceEqDiff,Nat.reduceSub,Nat.reduceMul,Nat.reduceLT,Nat.reduceLeDiff,Nat.reduceBEq,Int.reduceEq,Int.reduceLT,Int.reduceLE,Int.reduceToNat,Int.reduceNeg,Int.reduceAdd,Int.reduceSub,Int.reduceMul,Int.reduceMod,Int.reduceDiv,reduceCtorEq,Nat.reducePow,Int.reducePow,qB0,puT,snT,h1,h2,hC,t32,h1d,h0,h3,hD,h4,hU,tU,lU,List.map_nil]
   all_goals rfl
def qKt (ps p u:List UInt8):List UInt8:=drv ps jC2 (qQq p u) 32
theorem qGy {ps p u:List UInt8}:(qKt ps p u).length=32:=jT
def zDi (p u:List UInt8):List UInt8:=(qQq p u).take 16
theorem qDm {p u:List UInt8}:(zDi p u).length=16:=by simp[zDi,wQ]
theorem zEo {ps p u:List UInt8} (h:ps.length≤64):wG.fs [.t (.sl (ps.map qA)),.t (zN [112,114,105,118,97,116,101]),.t (.sl ((qQq p u).map qA)),.t (.int .i64 32)] []=some (.t (.sl ((qKt ps p u).map qA)),[]):=qQi (l:=jC2) (c:=qQq p u) (n:=32) ⟨h,by decide,by rw[wQ];omega,by omega,by omega⟩
def qJb:Ct where
 α:=(List UInt8×List UInt8×List UInt8)×List UInt8×List UInt8
 as x:=[.t (snT x.1.1 x.1.2.1 x.1.2.2),.t (puT x.2.1 x.2.2)]
 ins _:=[]
 pre x:=x.1.2.1.length≤64∧L32 x.2.1 x.2.2
 r x:= .tup [.t (.sl ((qKt x.1.2.1 x.2.1 x.2.2).map qA)),.t (.sl ((zDi x.2.1 x.2.2).map qA))]
 outs _:=[]
 inj:=by
  rintro⟨⟨a,b,c⟩,d,e⟩ ⟨⟨f,g,i⟩,j,k⟩ h _
  simp only[List.cons.injEq,V.t.injEq,and_true] at h
  obtain⟨h1,h2⟩:=h
  obtain⟨rfl,rfl,rfl⟩:=qG4 h1
  obtain⟨rfl,rfl⟩:=qJk h2
  exact⟨rfl,rfl⟩
theorem zH7 {a s d p u:List UInt8} (h:s.length≤64∧L32 p u):qJb.fs [.t (.agg [.sl (a.map qA),.sl (s.map qA),.sl (d.map qA)]),.t (.agg [.int .i64 3,.int .i64 0,.int .i64 0,.sl (p.map qA),.sl (u.map qA)])] []=some (.tup [.t (.sl ((qKt s p u).map qA)),.t (.sl ((zDi p u).map qA))],[]):=qJb.eq ((a,s,d),p,u) h
theorem zC8 (tab:Tab) (gl:Gl) (n1 n2:Nat) (h1:tab.look n1=some qEz.fs) (h2:tab.look n2=some wG.fs) (a s d p u:List UInt8) (h:s.length≤64∧L32 p u) :
  (qMf n1 n2).wp tab gl (qE 0 [.t (snT a s d),.t (puT p u)]) (qE 0 []) (jK [(4,none),(5,none)] 0 (fun r o=>r = .tup [.t (.sl ((qKt s p u).map qA)),.t (.sl ((zDi p u).map qA))]∧o=[])):=by
 have hN:=zGj h.2
 have hD:=zEo (p:=p) (u:=u) h.1
 have lN:=wQ (p:=p) (u:=u)
 have hM:List.take 16 (qQq p u)=zDi p u:=rfl
 generalize qKt s p u=k at *
 generalize zDi p u=no at *
 generalize qQq p u=n at *
 simp (disch:=omega) only [go_sem,seval,qMf,snT,puT,h1,h2,hN,hD,lN,hM]
 all_goals rfl
def qNh:Ct where
 α:=(List UInt8×List UInt8×List UInt8)×List UInt8×List UInt8
 as x:=[.t (snT x.1.1 x.1.2.1 x.1.2.2),.t (.sl ((qQq x.2.1 x.2.2).map qA))]
 ins _:=[]
 pre x:=x.1.2.1.length≤64
 r x:= .t (.sl ((qKt x.1.2.1 x.2.1 x.2.2).map qA))
 outs _:=[]
 inj:=by
  rintro⟨⟨a,b,c⟩,d,e⟩ ⟨⟨f,g,i⟩,j,k⟩ h _
  simp only[List.cons.injEq,V.t.injEq,T.sl.injEq,and_true,qP] at h
  obtain⟨h1,h2⟩:=h
  obtain⟨rfl,rfl,rfl⟩:=qG4 h1
  simp only[qKt,h2,and_self]
theorem zRy {a s d p u:List UInt8} (h:s.length≤64):qNh.fs [.t (.agg [.sl (a.map qA),.sl (s.map qA),.sl (d.map qA)]),.t (.sl ((qQq p u).map qA))] []=some (.t (.sl ((qKt s p u).map qA)),[]):=qNh.eq ((a,s,d),p,u) h
theorem qYk (tab:Tab) (gl:Gl) (n1:Nat) (h1:tab.look n1=some wG.fs) (a s d p u:List UInt8) (h:s.length≤64) :
  (qJ6 n1).wp tab gl (qE 0 [.t (snT a s d),.t (.sl ((qQq p u).map qA))]) (qE 0 []) (jK [(4,none)] 0 (fun r o=>r = .t (.sl ((qKt s p u).map qA))∧o=[])):=by
 have hD:=zEo (p:=p) (u:=u) h
 generalize qKt s p u=k at *
 generalize qQq p u=n at *
 simp (disch:=omega) only [go_sem,seval,qJ6,snT,h1,hD]
def qQv (a s d:List UInt8):List UInt8:=blL (blL (blL [] a) s) d
theorem kV {a s d:List UInt8}:(qQv a s d).length=6+a.length+s.length+d.length:=by
 simp[qQv,yJ];omega
def qQw (ps p u a s d:List UInt8):List UInt8:=zIq (qKt ps p u) (zDi p u) (qFj p u) (qQv a s d)
abbrev zZv (ps p u a s d:List UInt8):Prop:=ps.length≤64∧L32 p u∧a.length≤32∧s.length≤64∧d.length≤500
def qNo:Ct where
 α:=(List UInt8×List UInt8×List UInt8)×(List UInt8×List UInt8)×List UInt8×List UInt8×List UInt8
 as x:=[.t (snT x.1.1 x.1.2.1 x.1.2.2),.t (puT x.2.1.1 x.2.1.2),.t (snT x.2.2.1 x.2.2.2.1 x.2.2.2.2)]
 ins _:=[]
 pre x:=zZv x.1.2.1 x.2.1.1 x.2.1.2 x.2.2.1 x.2.2.2.1 x.2.2.2.2
 r x:= .t (.sl ((qQw x.1.2.1 x.2.1.1 x.2.1.2 x.2.2.1 x.2.2.2.1 x.2.2.2.2).map qA))
 outs _:=[]
 inj:=by
  rintro⟨⟨a,b,c⟩,⟨d,e⟩,l,m,n⟩ ⟨⟨f,g,i⟩,⟨j,k⟩,o,p,q⟩ h _
  simp only[List.cons.injEq,V.t.injEq,and_true] at h
  obtain⟨h1,h2,h3⟩:=h
  obtain⟨rfl,rfl,rfl⟩:=qG4 h1
  obtain⟨rfl,rfl⟩:=qJk h2
  obtain⟨rfl,rfl,rfl⟩:=qG4 h3
  exact⟨rfl,rfl⟩
theorem zTi {pa ps pd p u a s d:List UInt8} (h:zZv ps p u a s d):qNo.fs [.t (snT pa ps pd),.t (puT p u),.t (snT a s d)] []=some (.t (.sl ((qQw ps p u a s d).map qA)),[]):=qNo.eq ((pa,ps,pd),(p,u),a,s,d) h
theorem qP3 (tab:Tab) (gl:Gl) (n1 n2 n3 n4:Nat) (h1:tab.look n1=some qJb.fs) (h2:tab.look n2=some qA9.fs) (h3:tab.look n3=some qBa.fs) (h4:tab.look n4=some qNk.fs) (pa ps pd p u a s d:List UInt8) (h:zZv ps p u a s d) :
  (qEp n1 n2 n3 n4).wp tab gl (qE 0 [.t (snT pa ps pd),.t (puT p u),.t (snT a s d)]) (qE 0 []) (jK [(6,none)] 0 (fun r o=>r = .t (.sl ((qQw ps p u a s d).map qA))∧o=[])):=by
 obtain⟨hps,hL,ha,hs,hd⟩:=h
 have hK:=zH7 (a:=pa) (d:=pd) ⟨hps,hL⟩
 have hE:=qN8 hL
 have lE:=kR hL
 have hZ:=zSb (k:=qKt ps p u) (no:=zDi p u) (ad:=qFj p u) (p:=qQv a s d) ⟨⟨by rw[qGy];omega,by rw[qDm];omega,by rw[kV];omega,by rw[kV];omega⟩,by omega⟩
 have b1:=qA5 (b:=[]) (x:=a) ⟨by decide,by omega⟩
 simp only[List.map_nil,List.length_nil] at b1
 have l1:(blL [] a).length=2+a.length:=by simp[yJ]
 have b2:=qA5 (b:=blL [] a) (x:=s) ⟨by omega,by omega⟩
 have l2:(blL (blL [] a) s).length=(blL [] a).length+2+s.length:=yJ
 have b3:=qA5 (b:=blL (blL [] a) s) (x:=d) ⟨by omega,by omega⟩
 have l3:(qQv a s d).length=(blL (blL [] a) s).length+2+d.length:=yJ
 have hP:blL (blL (blL [] a) s) d=qQv a s d:=rfl
 rw[hP] at b3
 have hX:zIq (qKt ps p u) (zDi p u) (qFj p u) (qQv a s d)=qQw ps p u a s d:=rfl
 rw[hX] at hZ
 generalize qQw ps p u a s d=z at *
 generalize qKt ps p u=k at *
 generalize zDi p u=no at *
 generalize qFj p u=en at *
 generalize qQv a s d=q3 at *
 generalize blL (blL [] a) s=q2 at *
 generalize blL [] a=q1 at *
 have t1 : ∀ n,q1.length≤n→List.take n q1=q1:=fun n h=>List.take_of_length_le h
 have t2 : ∀ n,q2.length≤n→List.take n q2=q2:=fun n h=>List.take_of_length_le h
 have t3 : ∀ n,q3.length≤n→List.take n q3=q3:=fun n h=>List.take_of_length_le h
 have te:List.take 71 en=en:=List.take_of_length_le (by omega)
 simp (disch:=omega) only [go_sem,seval,qEp,snT,puT,h1,hK,h2,b1,b2,b3,h3,hE,h4,hZ,t1,t2,t3,te,l1,l2,l3,lE]
 all_goals rfl
end Go.Eng
end
section
namespace Go.Eng
def wS:AC:=
 (.seq
 (rG 16384 [bN 6 .lss 5 2])
 (.seq
 (.cond (.tmp 6)
 .skip
 (.exit 0))
 (.seq
 (.block 1
 (.seq
 (rG 20480 [mv 7 5,mv 4 7])
 (.seq
 (rG 24576 [mv 8 0,mv 9 4,bT 10 .shr 8 9,bN 11 .and 10 1,bN 12 .eql 11 1])
 (.cond (.tmp 12)
 (rG 28672 [mv 13 4,oO 14 (.aaddr 2 1) [.tmp 3,.tmp 13],⟨none,(.op (.store 1)),[.tmp 14,.cst (.t (.int .i64 4095))],none⟩])
 .skip))))
 (rG 32768 [bN 15 .add 5 1,mv 5 15]))))
def xJ:AC:=
 (.seq
 (rG 4096 [oO 2 (.new 1 [(.t (.int .i64 0)),(.t (.int .i64 0))]) []])
 (.seq
 (rG 8192 [oO 3 (.new 1 [(.t (.int .i64 0)),(.t (.int .i64 0))]) []])
 (.seq
 (.seq
 (rG 12288 [mC 5 (.t (.int .i64 0))])
 (.block 0
 (.loop wS)))
 (.seq
 (rG 36864 [oO 16 (.load 2 true) [.tmp 3],oS 2 2 16])
 .ret))))
def qBx:AC:=
 (.seq
 (rG 4096 [mC 2 (.t (.int .i64 0))])
 (.seq
 (.seq
 (rG 8192 [mv 3 0])
 (.cond (.tmp 3)
 (.seq
 (rG 12288 [mC 2 (.t (.int .i64 0))])
 .ret)
 .skip))
 (.seq
 (rG 16384 [mC 2 (.t (.int .i64 1))])
 .ret)))
def qD1:AC:=
 (.seq
 (rG 4096 [mC 6 (.t (.bool false))])
 (.seq
 (rG 8192 [mv 7 0,mv 8 1,bT 9 .geq 7 8,mv 10 9,mG 11 0 10,mG 12 2 10,oG 13 10 (.bin .leq) [.tmp 11,.tmp 12],oO 14 .pick [.tmp 10,.tmp 13,.cst (.t (.bool false))],mv 6 14])
 .ret))
def wY:AC:=
 (.seq
 (rG 90112 [bT 87 .lss 86 85])
 (.seq
 (.cond (.tmp 87)
 .skip
 (.exit 1))
 (.seq
 (.block 2
 (.seq
 (rG 94208 [oO 88 (.iaddr 1) [.tmp 84,.tmp 86],oO 89 (.load 1 false) [.tmp 88],mv 6 89])
 (rG 98304 [mv 90 4,mv 91 90,mG 92 6 91,oG 93 91 .len [.tmp 92],oG 94 91 (.bin .eql) [.tmp 93,.cst (.t (.int .i64 32))],oO 95 .pick [.tmp 91,.tmp 94,.cst (.t (.bool false))],mv 4 95])))
 (rG 102400 [bN 96 .add 86 1,mv 86 96]))))
def qAu (n_policy_within n_policy_argument n_policy_short:Nat):AC:=
 (.seq
 (rG 4096 [oO 1 .box [.tmp 0],mC 2 (.t (.int .i64 0))])
 (.seq
 (rG 8192 [oO 7 (.faddr 7) [.tmp 1],oO 8 (.load 1 false) [.tmp 7],oO 9 .len [.tmp 8],bN 10 .eql 9 32,mv 3 10])
 (.seq
 (.seq
 (rG 12288 [oO 11 (.faddr 0) [.tmp 1],oO 12 (.load 1 false) [.tmp 11]])
 (.block 0
 (.seq
 (rG 16384 [bN 14 .eql 12 1,mv 13 14])
 (.cond (.tmp 13)
 (.seq
 (rG 20480 [oO 15 (.faddr 1) [.tmp 1],oO 16 (.aaddr 2 1) [.tmp 15,.cst (.t (.int .i64 0))],oO 17 (.load 1 false) [.tmp 16],cL 18 n_policy_within false [.tmp 17,.cst (.t (.int .i64 0)),.cst (.t (.int .i64 65535))],mv 19 18,oG 20 19 (.faddr 1) [.tmp 1],oG 21 19 (.aaddr 2 1) [.tmp 20,.cst (.t (.int .i64 1))],oG 22 19 (.load 1 false) [.tmp 21],cG 23 19 n_policy_within false [.tmp 22,.cst (.t (.int .i64 0)),.cst (.t (.int .i64 65535))],oO 24 .pick [.tmp 19,.tmp 23,.cst (.t (.bool false))],mv 25 24,oG 26 25 (.faddr 3) [.tmp 1],oG 27 25 (.load 1 false) [.tmp 26],oG 28 25 .len [.tmp 27],oG 29 25 (.bin .eql) [.tmp 28,.cst (.t (.int .i64 32))],oO 30 .pick [.tmp 25,.tmp 29,.cst (.t (.bool false))],cL 31 n_policy_argument false [.tmp 30],mv 2 31])
 .ret)
 (.seq
 (rG 24576 [bN 33 .eql 12 2,mv 32 33])
 (.cond (.tmp 32)
 (.seq
 (rG 28672 [oO 34 (.faddr 4) [.tmp 1],oO 35 (.load 1 false) [.tmp 34],cL 36 n_policy_within false [.tmp 35,.cst (.t (.int .i64 1)),.cst (.t (.int .i64 31))],cL 37 n_policy_argument false [.tmp 36],mv 2 37])
 .ret)
 (.seq
 (rG 32768 [bN 39 .eql 12 3,mv 38 39])
 (.cond (.tmp 38)
 (.seq
 (rG 36864 [oO 40 (.faddr 4) [.tmp 1],oO 41 (.load 1 false) [.tmp 40],cL 42 n_policy_within false [.tmp 41,.cst (.t (.int .i64 1)),.cst (.t (.int .i64 255))],cL 43 n_policy_argument false [.tmp 42],mv 2 43])
 .ret)
 (.seq
 (rG 40960 [bN 45 .eql 12 4,mv 44 45])
 (.cond (.tmp 44)
 (.seq
 (.reg 45056 (some [0,1,3,7,15,31,63,0,128,511,1023]) [oO 46 (.faddr 5) [.tmp 1],oO 47 (.load 1 false) [.tmp 46],cL 48 n_policy_within false [.tmp 47,.cst (.t (.int .i64 0)),.cst (.t (.int .i64 3))],mv 49 48,mG 50 3 49,oO 51 .pick [.tmp 49,.tmp 50,.cst (.t (.bool false))],cL 52 n_policy_argument false [.tmp 51],oO 53 (.faddr 6) [.tmp 1],oO 54 (.load 1 false) [.tmp 53],cL 55 n_policy_short false [.tmp 52,.tmp 54],mv 2 55])
 .ret)
 (.seq
 (rG 49152 [bN 57 .eql 12 5,mv 56 57])
 (.cond (.tmp 56)
 (.seq
 (rG 53248 [oO 58 (.faddr 5) [.tmp 1],oO 59 (.load 1 false) [.tmp 58],cL 60 n_policy_within false [.tmp 59,.cst (.t (.int .i64 0)),.cst (.t (.int .i64 3))],mv 61 60,oG 62 61 (.faddr 4) [.tmp 1],oG 63 61 (.load 1 false) [.tmp 62],cG 64 61 n_policy_within false [.tmp 63,.cst (.t (.int .i64 0)),.cst (.t (.int .i64 1099511627776))],oO 65 .pick [.tmp 61,.tmp 64,.cst (.t (.bool false))],cL 66 n_policy_argument false [.tmp 65],mv 2 66])
 .ret)
 (.seq
 (.seq
 (rG 57344 [bN 68 .eql 12 6,mv 67 68])
 (.cond (.tmp 67)
 .skip
 (rG 61440 [bN 69 .eql 12 9,mv 67 69])))
 (.cond (.tmp 67)
 (.seq
 (.reg 65536 (some [0,1,0,4,15,31]) [mv 70 3,cL 71 n_policy_argument false [.tmp 70],oO 72 (.faddr 8) [.tmp 1],oO 73 (.load 1 false) [.tmp 72],cL 74 n_policy_short false [.tmp 71,.tmp 73],mv 2 74])
 .ret)
 (.seq
 (rG 69632 [bN 76 .eql 12 7,mv 75 76])
 (.cond (.tmp 75)
 (.seq
 (rG 73728 [mC 2 (.t (.int .i64 0))])
 .ret)
 (.seq
 (rG 77824 [bN 78 .eql 12 8,mv 77 78])
 (.cond (.tmp 77)
 (.seq
 (rG 81920 [oO 79 (.faddr 9) [.tmp 1],oO 80 (.load 1 false) [.tmp 79],oO 81 .len [.tmp 80],cL 82 n_policy_within false [.tmp 81,.cst (.t (.int .i64 2)),.cst (.t (.int .i64 8))],mv 4 82])
 (.seq
 (.seq
 (rG 86016 [oO 83 (.faddr 9) [.tmp 1],oO 84 (.load 1 false) [.tmp 83],oO 85 .len [.tmp 84],mC 86 (.t (.int .i64 0))])
 (.block 1
 (.loop wY)))
 (.seq
 (rG 106496 [mv 97 4,cL 98 n_policy_argument false [.tmp 97],mv 2 98])
 .ret)))
 .skip))))))))))))))))))
 (.seq
 (rG 110592 [mC 2 (.t (.int .i64 19))])
 .ret))))
def qAa (n_wire_Uint:Nat):AC:=
 (.seq
 (rG 4096 [oO 3 .box [.tmp 1],mC 4 .nil])
 (.seq
 (.seq
 (rG 8192 [oO 5 (.faddr 0) [.tmp 3],oO 6 (.load 1 false) [.tmp 5]])
 (.block 0
 (.seq
 (rG 12288 [bN 8 .eql 6 1,mv 7 8])
 (.cond (.tmp 7)
 (.seq
 (.reg 16384 (some [0,0,2,6,14,0,32,96,254,0,512,2047,4095]) [mv 9 0,oO 10 (.faddr 1) [.tmp 3],oO 11 (.aaddr 2 1) [.tmp 10,.cst (.t (.int .i64 0))],oO 12 (.load 1 false) [.tmp 11],cL 13 n_wire_Uint false [.cst .nil,.cst (.t (.int .i64 2)),.tmp 12],oO 14 (.faddr 1) [.tmp 3],oO 15 (.aaddr 2 1) [.tmp 14,.cst (.t (.int .i64 1))],oO 16 (.load 1 false) [.tmp 15],cL 17 n_wire_Uint false [.tmp 13,.cst (.t (.int .i64 2)),.tmp 16],oO 18 (.faddr 3) [.tmp 3],oO 19 (.load 1 false) [.tmp 18],oO 20 (.bslice 1 3 .nil [0,1,2]) [.tmp 9,.tmp 17,.tmp 19],mv 4 20])
 .ret)
 (.seq
 (.seq
 (rG 20480 [bN 22 .eql 6 2,mv 21 22])
 (.cond (.tmp 21)
 .skip
 (rG 24576 [bN 23 .eql 6 3,mv 21 23])))
 (.cond (.tmp 21)
 (.seq
 (rG 28672 [mv 24 0,oO 25 (.faddr 4) [.tmp 3],oO 26 (.load 1 false) [.tmp 25],oO 27 (.conv .u8) [.tmp 26],oO 28 (.bslice 1 1 (.t (qA 0)) [0]) [.tmp 27],oO 29 (.bslice 1 2 .nil [0,1]) [.tmp 24,.tmp 28],mv 4 29])
 .ret)
 (.seq
 (rG 32768 [bN 31 .eql 6 4,mv 30 31])
 (.cond (.tmp 30)
 (.seq
 (rG 36864 [mv 32 0,oO 33 (.faddr 5) [.tmp 3],oO 34 (.load 1 false) [.tmp 33],oO 35 (.conv .u8) [.tmp 34],oO 36 (.bslice 1 1 (.t (qA 0)) [0]) [.tmp 35],oO 37 (.faddr 6) [.tmp 3],oO 38 (.load 1 false) [.tmp 37],oO 39 (.faddr 7) [.tmp 3],oO 40 (.load 1 false) [.tmp 39],oO 41 (.bslice 1 4 .nil [0,1,2,3]) [.tmp 32,.tmp 36,.tmp 38,.tmp 40],mv 4 41])
 .ret)
 (.seq
 (rG 40960 [bN 43 .eql 6 5,mv 42 43])
 (.cond (.tmp 42)
 (.seq
 (.reg 45056 (some [0,0,2,6,14,0,32,96,255,511]) [mv 44 0,oO 45 (.faddr 5) [.tmp 3],oO 46 (.load 1 false) [.tmp 45],oO 47 (.conv .u8) [.tmp 46],oO 48 (.bslice 1 1 (.t (qA 0)) [0]) [.tmp 47],oO 49 (.faddr 4) [.tmp 3],oO 50 (.load 1 false) [.tmp 49],cL 51 n_wire_Uint false [.cst .nil,.cst (.t (.int .i64 8)),.tmp 50],oO 52 (.bslice 1 3 .nil [0,1,2]) [.tmp 44,.tmp 48,.tmp 51],mv 4 52])
 .ret)
 (.seq
 (rG 49152 [bN 54 .eql 6 6,mv 53 54])
 (.cond (.tmp 53)
 (.seq
 (rG 53248 [mv 55 0,oO 56 (.faddr 7) [.tmp 3],oO 57 (.load 1 false) [.tmp 56],oO 58 (.faddr 8) [.tmp 3],oO 59 (.load 1 false) [.tmp 58],oO 60 (.bslice 1 3 .nil [0,1,2]) [.tmp 55,.tmp 57,.tmp 59],mv 4 60])
 .ret)
 (.seq
 (rG 57344 [bN 62 .eql 6 8,mv 61 62])
 (.cond (.tmp 61)
 (.seq
 (rG 61440 [oO 63 (.faddr 9) [.tmp 3],oO 64 (.load 1 false) [.tmp 63],mv 4 64])
 .ret)
 (.seq
 (rG 65536 [bN 66 .eql 6 9,mv 65 66])
 (.cond (.tmp 65)
 (.seq
 (rG 69632 [oO 67 (.faddr 7) [.tmp 3],oO 68 (.load 1 false) [.tmp 67],oO 69 (.faddr 8) [.tmp 3],oO 70 (.load 1 false) [.tmp 69],oO 71 (.bslice 1 2 .nil [0,1]) [.tmp 68,.tmp 70],mv 4 71])
 .ret)
 .skip))))))))))))))))
 (.seq
 (rG 73728 [mv 72 0,oO 73 (.bslice 1 1 .nil [0]) [.tmp 72],mv 4 73])
 .ret)))
def qEj:AC:=
 (.seq
 (rG 4096 [mC 0 .nil])
 (.seq
 (rG 8192 [oO 1 (.mkslice 1 1 (.t (qA 0))) [.cst (.t (.int .i64 32)),.cst (.t (.int .i64 32))],mv 0 1])
 .ret))
def xZ (n_policy_Check n_policy_fields n_digest_Hash:Nat):AC:=
 (.seq
 (rG 4096 [oO 3 .box [.tmp 1],mC 4 .nil])
 (.seq
 (.seq
 (rG 8192 [oO 5 (.load 10 true) [.tmp 3],cL 6 n_policy_Check false [.tmp 5],bN 7 .neq 6 0])
 (.cond (.tmp 7)
 (.seq
 (rG 12288 [mC 4 .nil])
 .ret)
 .skip))
 (.seq
 (.reg 16384 (some [0,1,3,7,15,0,0,96,255,511,1023]) [oO 8 (.faddr 0) [.tmp 3],oO 9 (.load 1 false) [.tmp 8],oO 10 (.conv .u8) [.tmp 9],oO 11 (.bslice 1 1 (.t (qA 0)) [0]) [.tmp 10],oO 12 (.bslice 1 1 .nil [0]) [.tmp 11],mv 13 0,oO 14 (.load 10 true) [.tmp 3],cL 15 n_policy_fields true [.tmp 13,.tmp 14],oO 16 (.append 1 24) [.tmp 12,.tmp 15],cL 17 n_digest_Hash false [.cst (.t (.int .i64 8)),.tmp 16],mv 4 17])
 .ret)))
def qAv (n_policy_Extend:Nat):AC:=
 (.seq
 (rG 16384 [bT 10 .lss 9 8])
 (.seq
 (.cond (.tmp 10)
 .skip
 (.exit 0))
 (.seq
 (.block 1
 (.seq
 (rG 20480 [oO 11 (.iaddr 10) [.tmp 7,.tmp 9],oO 12 (.load 10 true) [.tmp 11],oO 5 (.new 10 [(.agg [(.t (.int .i64 0)),(.t (.int .i64 0)),(.t (.int .i64 0)),.nil,(.t (.int .i64 0)),(.t (.int .i64 0)),.nil,.nil,.nil,.nil])]) [],oS 10 5 12])
 (.seq
 (rG 24576 [mv 13 3,oO 14 (.load 10 true) [.tmp 5],cL 15 n_policy_Extend false [.tmp 13,.tmp 14],mv 3 15])
 (.seq
 (rG 28672 [mv 16 3,oO 17 (.nileq false) [.tmp 16,.cst .nil]])
 (.cond (.tmp 17)
 (.seq
 (rG 32768 [mC 2 .nil])
 .ret)
 .skip)))))
 (rG 36864 [bN 18 .add 9 1,mv 9 18]))))
def qD0 (n_policy_Start n_policy_Extend:Nat):AC:=
 (.seq
 (rG 4096 [mC 2 .nil])
 (.seq
 (rG 8192 [cL 6 n_policy_Start false [],mv 3 6])
 (.seq
 (.seq
 (rG 12288 [mv 7 0,oO 8 .len [.tmp 7],mC 9 (.t (.int .i64 0))])
 (.block 0
 (.loop (qAv n_policy_Extend))))
 (.seq
 (rG 40960 [mv 19 3,mv 2 19])
 .ret))))
end Go.Eng
end
section
set_option maxRecDepth 20000
set_option maxHeartbeats 64000000
namespace Go.Eng
def zWz (b:Bool):Int:=if b then 4095 else 0
def qKx (act:Int):Int×Int:=(zWz (decide (act%2=1)),zWz (decide (act/2%2=1)))
theorem zSc {b:Bool} : ¬ zIj (zWz b):=by cases b<;>decide
inductive As where
 | reg (s0 s1:Int) (d:List UInt8)
 | alt (bs:List (List UInt8))
def asT:As→T
 | .reg s0 s1 d=> .agg [.int .i64 1,.int .i64 s0,.int .i64 s1,.sl (d.map qA),.int .i64 0,.int .i64 0,.sl [],.sl [],.sl [],.sl []]
 | .alt bs=> .agg [.int .i64 8,.int .i64 0,.int .i64 0,.sl [],.int .i64 0,.int .i64 0,.sl [],.sl [],.sl [],.sl (bs.map bsT)]
def As.Ok:As→Prop
 | .reg s0 s1 d=>(0≤s0∧s0≤65535)∧(0≤s1∧s1≤65535)∧d.length=32
 | .alt bs=>(2≤bs.length∧bs.length≤8) ∧ ∀ b∈bs,b.length=32
theorem qWm {a b:As} (h:asT a=asT b):a=b:=by
 cases a<;>cases b<;>simp only[asT,T.agg.injEq,List.cons.injEq,T.int.injEq,T.sl.injEq,true_and,and_true,qP,qCz] at h
 ·obtain⟨rfl,rfl,rfl⟩:=h;rfl
 ·exact absurd h.1 (by decide)
 ·exact absurd h.1 (by decide)
 ·subst h;rfl
def zBj (d0:List UInt8):As→List (List UInt8)
 | .reg s0 s1 d=>[d0,qDi s0 s1,d]
 | .alt bs=>bs
def knd:As→UInt8
 | .reg .. => 1
 | .alt _=>8
def qWd (d0:List UInt8) (a:As):List UInt8:=qBo 8 ([knd a]::zBj d0 a)
theorem qDg {d0:List UInt8} {a:As}:(qWd d0 a).length=32:=qH
def z32:List UInt8:=List.replicate 32 0
theorem qQ7:z32.length=32:=rfl
def qM3:Ct where
 α:=Int
 as x:=[.t (.int .i64 x)]
 ins _:=[]
 pre x := -1000≤x∧x≤1000
 r x:= .t (.agg [.int .i64 (qKx x).1,.int .i64 (qKx x).2])
 outs _:=[]
 inj:=by
  intro a b h _
  simp only[List.cons.injEq,V.t.injEq,T.int.injEq,true_and,and_true] at h
  subst h
  exact⟨rfl,rfl⟩
theorem zPq {x:Int} (h : -1000≤x∧x≤1000):qM3.fs [.t (.int .i64 x)] []=some (.t (.agg [.int .i64 (qKx x).1,.int .i64 (qKx x).2]),[]):=qM3.eq x h
theorem qFr (tab:Tab) (gl:Gl) (x:Int) (hx : -1000≤x∧x≤1000) :
  xJ.wp tab gl (qE 0 [.t (.int .i64 x)]) (qE 0 []) (jK [(2,some (2,true))] 0 (fun r o=>r = .t (.agg [.int .i64 (qKx x).1,.int .i64 (qKx x).2])∧o=[])):=by
 simp (disch:=omega) only [go_sem,seval,xJ]
 refine qU 3 ?_
 have b0:(x.fdiv 1%2==1)=decide (x%2=1):=by rw[Int.fdiv_one];rfl
 have b1:(x.fdiv 2%2==1)=decide (x/2%2=1):=by rw[Int.fdiv_eq_ediv_of_nonneg _ (by decide)];rfl
 simp only[qKx]
 generalize decide (x%2=1)=p at *
 generalize decide (x/2%2=1)=q at *
 cases p<;>cases q
 all_goals simp (disch:=omega) only [go_sem,seval,qG,wS,b0,b1]
 all_goals first | exact⟨rfl,rfl⟩ | rfl
def qNf:Ct where
 α:=Int×Int×Int
 as x:=[.t (.int .i64 x.1),.t (.int .i64 x.2.1),.t (.int .i64 x.2.2)]
 ins _:=[]
 pre _:=True
 r x:= .t (.bool (decide (x.2.1≤x.1)&&decide (x.1≤x.2.2)))
 outs _:=[]
 inj:=by
  rintro⟨a,b,c⟩ ⟨d,e,f⟩ h _
  simp only[List.cons.injEq,V.t.injEq,T.int.injEq,true_and,and_true] at h
  obtain⟨rfl,rfl,rfl⟩:=h
  exact⟨rfl,rfl⟩
theorem qXq {n a b:Int} (h:a≤n∧n≤b):qNf.fs [.t (.int .i64 n),.t (.int .i64 a),.t (.int .i64 b)] []=some (.t (.bool true),[]):=by
 refine (qNf.eq (n,a,b) trivial).trans ?_
 show some (V.t (T.bool (decide (a≤n)&&decide (n≤b))),[])=_
 simp[h.1,h.2]
theorem qOy (tab:Tab) (gl:Gl) (n a b:Int) :
  qD1.wp tab gl (qE 0 [.t (.int .i64 n),.t (.int .i64 a),.t (.int .i64 b)]) (qE 0 []) (jK [(6,none)] 0 (fun r o=>r = .t (.bool (decide (a≤n)&&decide (n≤b)))∧o=[])):=by
 by_cases h:a≤n<;>by_cases k:n≤b
 all_goals simp (disch:=omega) only [go_sem,seval,qD1,h,k]
 all_goals simp[h,k]
def qNa:Ct where
 α:=Bool
 as x:=[.t (.bool x)]
 ins _:=[]
 pre _:=True
 r x:= .t (.int .i64 (if x then 0 else 1))
 outs _:=[]
 inj:=by
  intro a b h _
  simp only[List.cons.injEq,V.t.injEq,T.bool.injEq,and_true] at h
  subst h
  exact⟨rfl,rfl⟩
theorem qXo:qNa.fs [.t (.bool true)] []=some (.t (.int .i64 0),[]):=qNa.eq true trivial
theorem qJs (tab:Tab) (gl:Gl) (x:Bool) :
  qBx.wp tab gl (qE 0 [.t (.bool x)]) (qE 0 []) (jK [(2,none)] 0 (fun r o=>r = .t (.int .i64 (if x then 0 else 1))∧o=[])):=by
 cases x
 all_goals simp (disch:=omega) only [go_sem,seval,qBx]
 all_goals rfl
def qGr:Ct where
 α:=As
 as x:=[.t (asT x)]
 ins _:=[]
 pre x:=x.Ok
 r _:= .t (.int .i64 0)
 outs _:=[]
 inj:=fun _ _ _ _=>⟨rfl,rfl⟩
theorem zLc {s0 s1:Int} {d:List UInt8} (h:(As.reg s0 s1 d).Ok):qGr.fs [.t (.agg [.int .i64 1,.int .i64 s0,.int .i64 s1,.sl (d.map qA),.int .i64 0,.int .i64 0,.sl [],.sl [],.sl [],.sl []])] []=some (.t (.int .i64 0),[]):=qGr.eq (.reg s0 s1 d) h
theorem zLb {bs:List (List UInt8)} (h:(As.alt bs).Ok):qGr.fs [.t (.agg [.int .i64 8,.int .i64 0,.int .i64 0,.sl [],.int .i64 0,.int .i64 0,.sl [],.sl [],.sl [],.sl (bs.map bsT)])] []=some (.t (.int .i64 0),[]):=qGr.eq (.alt bs) h
theorem zFk {bs:List (List UInt8)} (h : ∀ b∈bs,b.length=32) {k:Nat} (hk:k<bs.length):(bs.getD k []).length=32:=by
 rw[List.getD_eq_getElem?_getD,List.getElem?_eq_getElem hk]
 exact h _ (List.getElem_mem hk)
theorem qPv (tab:Tab) (gl:Gl) (n1 n2 n3:Nat) (h1:tab.look n1=some qNf.fs) (h2:tab.look n2=some qNa.fs) (a:As) (ha:a.Ok) :
  (qAu n1 n2 n3).wp tab gl (qE 0 [.t (asT a)]) (qE 0 []) (jK [(2,none)] 0 (fun r o=>r = .t (.int .i64 0)∧o=[])):=by
 cases a with
 | reg s0 s1 d=>
  obtain⟨a0,a1,a2⟩:=ha
  simp (disch:=omega) only [go_sem,seval,qAu,asT,h1,h2,qXq a0,qXq a1,qXo,a2]
 | alt bs=>
  obtain⟨a0,a1⟩:=ha
  have w:=qXq (n:=(bs.length:Int)) (a:=2) (b:=8) (by omega)
  simp (disch:=omega) only [go_sem,seval,qAu,asT,h1,h2,w,qXo]
  refine qD bs.length (fun k=>[(4,.t (.bool true)),(84,.t (.sl (bs.map bsT))),(85,.t (.int .i64 bs.length)),(86,.t (.int .i64 k))]) (fun _=>[]) ?_ (fun k hk=>?_)
  ·refine qQ.rd id ?_ ?_ rfl
   all_goals simp (disch:=omega) only [go_sem,seval,id]
  ·by_cases hlt:k<bs.length
   ·have hb:=zFk a1 hlt
    simp (disch:=omega) only [go_sem,seval,wY,hlt,hb]
    refine qQ.rd id ?_ ?_ rfl
    all_goals simp (disch:=omega) only [go_sem,seval,id]
   ·have e:k=bs.length:=by omega
    subst e
    simp (disch:=omega) only [go_sem,seval,wY,h2,qXo]
def qGt:Ct where
 α:=List UInt8×As
 as x:=[.t (.sl (x.1.map qA)),.t (asT x.2)]
 ins _:=[]
 pre _:=True
 r x:= .t (.sl ((zBj x.1 x.2).map bsT))
 outs _:=[]
 inj:=by
  rintro⟨a,b⟩ ⟨c,d⟩ h _
  simp only[List.cons.injEq,V.t.injEq,T.sl.injEq,and_true,qP] at h
  obtain⟨rfl,h⟩:=h
  rw[qWm h]
  exact⟨rfl,rfl⟩
theorem zLf {d0:List UInt8} {s0 s1:Int} {d:List UInt8}:qGt.fs [.t (.sl (d0.map qA)),.t (.agg [.int .i64 1,.int .i64 s0,.int .i64 s1,.sl (d.map qA),.int .i64 0,.int .i64 0,.sl [],.sl [],.sl [],.sl []])] []=some (.t (.sl [bsT d0,bsT (qDi s0 s1),bsT d]),[]):=qGt.eq (d0,.reg s0 s1 d) trivial
theorem zLe {d0:List UInt8} {bs:List (List UInt8)}:qGt.fs [.t (.sl (d0.map qA)),.t (.agg [.int .i64 8,.int .i64 0,.int .i64 0,.sl [],.int .i64 0,.int .i64 0,.sl [],.sl [],.sl [],.sl (bs.map bsT)])] []=some (.t (.sl (bs.map bsT)),[]):=qGt.eq (d0,.alt bs) trivial
theorem qOx (tab:Tab) (gl:Gl) (n1:Nat) (h1:tab.look n1=some wF.fs) (d0:List UInt8) (a:As) :
  (qAa n1).wp tab gl (qE 0 [.t (.sl (d0.map qA)),.t (asT a)]) (qE 0 []) (jK [(4,none)] 0 (fun r o=>r = .t (.sl ((zBj d0 a).map bsT))∧o=[])):=by
 cases a with
 | reg s0 s1 d=>
  have hu:=qVl (b:=[]) (n:=s0) (by decide)
  simp only[List.map_nil,List.length_nil,List.nil_append] at hu
  have hv:=qVl (b:=beI 2 s0 2) (n:=s1) (by rw[jB];omega)
  rw[jB] at hv
  have t2:List.take 2 (beI 2 s0 2)=beI 2 s0 2:=List.take_of_length_le (by rw[jB];exact Nat.le_refl _)
  have t4:List.take 4 (beI 2 s0 2++beI 2 s1 2)=beI 2 s0 2++beI 2 s1 2:=List.take_of_length_le (by rw[List.length_append,jB,jB];exact Nat.le_refl _)
  simp (disch:=omega) only [go_sem,seval,qAa,asT,h1,hu,hv,jB,t2,t4,zBj,qDi]
  all_goals rfl
 | alt bs=>
  simp (disch:=omega) only [go_sem,seval,qAa,asT,zBj]
  all_goals rfl
theorem qQk : ∀ {fs:List (List UInt8)} {t n:Nat},(∀ x∈fs,x.length≤n)→(zK t fs).length≤1+(4+n)*fs.length:=by
 intro fs
 induction fs with
 | nil=>intro t n _;simp[zK]
 | cons x r ih=>
  intro t n h
  have h1:=h x (by simp)
  have h2:=ih (t:=t) (fun y hy=>h y (by simp[hy]))
  simp only[zK,List.length_cons,List.flatMap_cons,List.length_append,qHy] at h2 ⊢
  rw[Nat.mul_add]
  omega
theorem zUt {d0:List UInt8} {a:As} (h0:d0.length=32) (ha:a.Ok):(zK 8 ([knd a]::zBj d0 a)).length<1000000000:=by
 have h : ∀ x∈[knd a]::zBj d0 a,x.length≤32:=by
  intro x hx
  rcases List.mem_cons.1 hx with rfl | hx
  ·exact Nat.le_of_ble_eq_true rfl
  ·cases a with
   | reg s0 s1 d=>
    simp only[zBj,List.mem_cons,List.not_mem_nil,or_false] at hx
    rcases hx with rfl | rfl | rfl
    ·omega
    ·simp[qDi,jB]
    ·have:=ha.2.2;omega
   | alt bs=>have:=ha.2 x hx;omega
 have hl:([knd a]::zBj d0 a).length≤9:=by
  cases a with
  | reg s0 s1 d=>simp[zBj]
  | alt bs=>have:=ha.1.2;simp[zBj];omega
 have:=qQk (t:=8) h
 omega
theorem zJ7 {d0 d:List UInt8} {s0 s1:Int} (h0:d0.length=32) (ha:(As.reg s0 s1 d).Ok):jQ.fs [.t (.int .i64 8),.t (.sl [.sl [qA 1],.sl (d0.map qA),.sl ((qDi s0 s1).map qA),.sl (d.map qA)])] []=some (.sl 0 0 32,[.live 1 (((qWd d0 (.reg s0 s1 d)).map qA).map V.t) true false]):=jQ.eq (8,[1]::zBj d0 (.reg s0 s1 d)) ⟨by show 8<256;omega,zUt h0 ha⟩
theorem zJ5 {d0:List UInt8} {bs:List (List UInt8)} (h0:d0.length=32) (ha:(As.alt bs).Ok):jQ.fs [.t (.int .i64 8),.t (.sl (.sl [qA 8]::bs.map bsT))] []=some (.sl 0 0 32,[.live 1 (((qWd d0 (.alt bs)).map qA).map V.t) true false]):=jQ.eq (8,[8]::zBj d0 (.alt bs)) ⟨by show 8<256;omega,zUt h0 ha⟩
def qNb:Ct where
 α:=List UInt8×As
 as x:=[.t (.sl (x.1.map qA)),.t (asT x.2)]
 ins _:=[]
 pre x:=x.1.length=32∧x.2.Ok
 r x:= .sl 0 0 32
 outs x:=[.live 1 (((qWd x.1 x.2).map qA).map V.t) true false]
 inj:=by
  rintro⟨a,b⟩ ⟨c,d⟩ h _
  simp only[List.cons.injEq,V.t.injEq,T.sl.injEq,and_true,qP] at h
  obtain⟨rfl,h⟩:=h
  rw[qWm h]
  exact⟨rfl,rfl⟩
theorem zQ4 {d0:List UInt8} {a:As} (h0:d0.length=32) (ha:a.Ok):qNb.fs [.t (.sl (d0.map qA)),.t (asT a)] []=some (.sl 0 0 32,[.live 1 (((qWd d0 a).map qA).map V.t) true false]):=qNb.eq (d0,a) ⟨h0,ha⟩
theorem k1b:T.int .u8 (IntKind.u8.wrap 1)=qA 1:=rfl
theorem k8b:T.int .u8 (IntKind.u8.wrap 8)=qA 8:=rfl
theorem qOw (tab:Tab) (gl:Gl) (n1 n2 n3:Nat) (h1:tab.look n1=some qGr.fs) (h2:tab.look n2=some qGt.fs) (h3:tab.look n3=some jQ.fs) (d0:List UInt8) (a:As) (h0:d0.length=32) (ha:a.Ok) :
  (xZ n1 n2 n3).wp tab gl (qE 0 [.t (.sl (d0.map qA)),.t (asT a)]) (qE 0 []) (qAg [] [(4,none)] 0 (fun r o=>r = .sl 0 0 32∧o=[.live 1 (((qWd d0 a).map qA).map V.t) true false])):=by
 cases a with
 | reg s0 s1 d=>
  simp (disch:=omega) only [go_sem,seval,xZ,asT,h1,h2,h3,zLc ha,zLf,k1b,zJ7 h0 ha]
  all_goals rfl
 | alt bs=>
  have l:=ha.1
  have t1:List.take (1+bs.length) (T.sl [qA 8]::List.map bsT bs)=T.sl [qA 8]::List.map bsT bs:=List.take_of_length_le (by simp;omega)
  simp (disch:=omega) only [go_sem,seval,xZ,asT,h1,h2,h3,zLb ha,zLe,k8b,t1,zJ5 h0 ha]
  all_goals rfl
def qT4:Ct where
 α:=Unit
 as _:=[]
 ins _:=[]
 pre _:=True
 r _:= .sl 0 0 32
 outs _:=[.live 1 ((z32.map qA).map V.t) true false]
 inj:=fun _ _ _ _=>⟨rfl,rfl⟩
theorem zWa:qT4.fs [] []=some (.sl 0 0 32,[.live 1 ((z32.map qA).map V.t) true false]):=qT4.eq () trivial
theorem qPw (tab:Tab) (gl:Gl):qEj.wp tab gl (qE 0 []) (qE 0 []) (qAg [] [(0,none)] 0 (fun r o=>r = .sl 0 0 32∧o=[.live 1 ((z32.map qA).map V.t) true false])):=by
 simp (disch:=omega) only [go_sem,seval,qEj,z32]
def qGs:Ct where
 α:=As
 as x:=[.t (.sl [asT x])]
 ins _:=[]
 pre x:=x.Ok
 r x:= .t (.sl ((qWd z32 x).map qA))
 outs _:=[]
 inj:=by
  intro a b h _
  simp only[List.cons.injEq,V.t.injEq,T.sl.injEq,and_true] at h
  rw[qWm h]
  exact⟨rfl,rfl⟩
theorem zGi {a:As} (h:a.Ok):qGs.fs [.t (.sl [asT a])] []=some (.t (.sl ((qWd z32 a).map qA)),[]):=qGs.eq a h
theorem qOv (tab:Tab) (gl:Gl) (n1 n2:Nat) (h1:tab.look n1=some qT4.fs) (h2:tab.look n2=some qNb.fs) (a:As) (ha:a.Ok) :
  (qD0 n1 n2).wp tab gl (qE 0 [.t (.sl [asT a])]) (qE 0 []) (jK [(2,none)] 0 (fun r o=>r = .t (.sl ((qWd z32 a).map qA))∧o=[])):=by
 have hE:=zQ4 qQ7 ha
 have t1:List.take 32 z32=z32:=rfl
 have t2:List.take 32 (qWd z32 a)=qWd z32 a:=List.take_of_length_le (by rw[qDg];exact Nat.le_refl _)
 have l1:=qDg (d0:=z32) (a:=a)
 have l2:=qQ7
 cases a
 all_goals simp only[asT] at *
 all_goals simp (disch:=omega) only [go_sem,seval,qD0,h1,zWa]
 all_goals refine qU 2 ?_
 all_goals simp (disch:=omega) only [go_sem,seval,qG,qAv,h2,t1,t2,l1,l2,hE]
end Go.Eng
end
section
namespace Go.Eng
def qHt (n_ref2_Derive:Nat):AC:=
 (.seq
 (rG 4096 [mC 6 .nil])
 (.seq
 (rG 8192 [mv 7 0,mv 8 1,oO 9 (.conv .u8) [.tmp 8],mv 10 2,oO 11 (.conv .u8) [.tmp 10],oO 12 (.bslice 1 2 (.t (qA 0)) [0,1]) [.tmp 9,.tmp 11],cL 13 n_ref2_Derive true [.tmp 7,.cst (.t (zN [99,104,97,105,110])),.tmp 12,.cst (.t (.int .i64 16))],mv 6 13])
 .ret))
def qHv (n_ref1_Hash:Nat):AC:=
 (.seq
 (rG 4096 [mC 4 .nil])
 (.seq
 (rG 8192 [mv 5 0,oO 6 (.conv .u8) [.tmp 5],oO 7 (.bslice 1 1 (.t (qA 0)) [0]) [.tmp 6],mv 8 1,oO 9 (.bslice 1 2 .nil [0,1]) [.tmp 7,.tmp 8],cL 10 n_ref1_Hash false [.cst (.t (.int .i64 2)),.tmp 9],oO 11 (.slice 1 false true false) [.tmp 10,.cst (.t (.int .i64 16))],mv 4 11])
 .ret))
def qAd (n_ref1_Hash:Nat):AC:=
 (.seq
 (.seq
 (rG 12288 [mv 13 11,mv 14 3,bT 15 .lss 13 14])
 (.cond (.tmp 15)
 .skip
 (.exit 0)))
 (.seq
 (.block 1
 (rG 20480 [mv 18 0,oO 19 (.conv .u8) [.tmp 18],mv 20 1,oO 21 (.conv .u8) [.tmp 20],mv 22 11,oO 23 (.conv .u8) [.tmp 22],oO 24 (.bslice 1 3 (.t (qA 0)) [0,1,2]) [.tmp 19,.tmp 21,.tmp 23],mv 25 4,oO 26 (.bslice 1 2 .nil [0,1]) [.tmp 24,.tmp 25],cL 27 n_ref1_Hash false [.cst (.t (.int .i64 1)),.tmp 26],oO 28 (.slice 1 false true false) [.tmp 27,.cst (.t (.int .i64 16))],mv 4 28]))
 (rG 16384 [mv 16 11,bN 17 .add 16 1,mv 11 17])))
def qHu (n_ref1_Hash:Nat):AC:=
 (.seq
 (rG 4096 [mC 10 .nil])
 (.seq
 (.seq
 (rG 8192 [mv 12 2,mv 11 12])
 (.block 0
 (.loop (qAd n_ref1_Hash))))
 (.seq
 (rG 24576 [mv 29 4,mv 10 29])
 .ret)))
def kP (n_ref5_start n_ref5_steps:Nat):AC:=
 (.seq
 (.seq
 (rG 24576 [mv 13 6,bN 14 .lss 13 35])
 (.cond (.tmp 14)
 .skip
 (.exit 0)))
 (.seq
 (.block 1
 (rG 32768 [mv 17 5,mv 18 1,mv 19 6,mv 20 0,mv 21 1,mv 22 6,cL 23 n_ref5_start true [.tmp 20,.tmp 21,.tmp 22],cL 24 n_ref5_steps true [.tmp 18,.tmp 19,.cst (.t (.int .i64 0)),.cst (.t (.int .i64 15)),.tmp 23],oO 25 (.append 1 1) [.tmp 17,.tmp 24],mv 5 25]))
 (rG 28672 [mv 15 6,bN 16 .add 15 1,mv 6 16])))
def qF2 (n_ref5_start n_ref5_steps n_ref5_value:Nat):AC:=
 (.seq
 (rG 4096 [mC 4 .nil])
 (.seq
 (.seq
 (rG 8192 [mv 7 1,bN 8 .lss 7 0,mv 9 8,mF 10 1 9,oF 11 9 (.bin .gtr) [.tmp 10,.cst (.t (.int .i64 255))],oO 12 .pick [.tmp 9,.cst (.t (.bool true)),.tmp 11]])
 (.cond (.tmp 12)
 (.seq
 (rG 12288 [mC 4 .nil])
 .ret)
 .skip))
 (.seq
 (rG 16384 [mC 5 .nil])
 (.seq
 (.seq
 (rG 20480 [mC 6 (.t (.int .i64 0))])
 (.block 0
 (.loop (kP n_ref5_start n_ref5_steps))))
 (.seq
 (rG 36864 [mv 26 1,mv 27 5,cL 28 n_ref5_value true [.tmp 26,.tmp 27],mv 4 28])
 .ret)))))
def qKf:AC:=
 (.seq
 (rG 4096 [mC 2 (.t (.bool false))])
 (.seq
 (rG 8192 [mv 3 0,bN 4 .eql 3 1,mv 5 4,mF 6 0 5,oF 7 5 (.bin .eql) [.tmp 6,.cst (.t (.int .i64 2))],oO 8 .pick [.tmp 5,.cst (.t (.bool true)),.tmp 7],mv 9 8,mF 10 0 9,oF 11 9 (.bin .eql) [.tmp 10,.cst (.t (.int .i64 4))],oO 12 .pick [.tmp 9,.cst (.t (.bool true)),.tmp 11],mv 13 12,mF 14 0 13,oF 15 13 (.bin .eql) [.tmp 14,.cst (.t (.int .i64 8))],oO 16 .pick [.tmp 13,.cst (.t (.bool true)),.tmp 15],mv 2 16])
 .ret))
def qKg (n_ref1_Hash:Nat):AC:=
 (.seq
 (rG 4096 [mC 8 .nil])
 (.seq
 (rG 8192 [mv 9 0,oO 10 (.conv .u8) [.tmp 9],mv 11 1,oO 12 (.conv .u8) [.tmp 11],oO 13 (.bslice 1 2 (.t (qA 0)) [0,1]) [.tmp 10,.tmp 12],mv 14 2,mv 15 3,oO 16 (.bslice 1 3 .nil [0,1,2]) [.tmp 13,.tmp 14,.tmp 15],cL 17 n_ref1_Hash false [.cst (.t (.int .i64 3)),.tmp 16],oO 18 (.slice 1 false true false) [.tmp 17,.cst (.t (.int .i64 16))],mv 8 18])
 .ret))
def qHw (n_ref6_join:Nat):AC:=
 (.seq
 (.seq
 (rG 16384 [mv 7 6,oO 8 (.bin .mul) [.cst (.t (.int .i64 2)),.tmp 7],bN 9 .add 8 1,mv 10 1,oO 11 .len [.tmp 10],bT 12 .lss 9 11])
 (.cond (.tmp 12)
 .skip
 (.exit 0)))
 (.seq
 (.block 1
 (.reg 24576 (some [0,0,0,0,0,16,56,120,0,0,512,1536,3840,7936,16382,32766,65535,131071]) [mv 15 5,mv 16 0,mv 17 6,mv 18 1,mv 19 6,oO 20 (.bin .mul) [.cst (.t (.int .i64 2)),.tmp 19],oO 21 (.iaddr 1) [.tmp 18,.tmp 20],oO 22 (.load 1 false) [.tmp 21],mv 23 1,mv 24 6,oO 25 (.bin .mul) [.cst (.t (.int .i64 2)),.tmp 24],bN 26 .add 25 1,oO 27 (.iaddr 1) [.tmp 23,.tmp 26],oO 28 (.load 1 false) [.tmp 27],cL 29 n_ref6_join true [.tmp 16,.tmp 17,.tmp 22,.tmp 28],oO 30 (.bslice 1 1 .nil [0]) [.tmp 29],oO 31 (.append 1 24) [.tmp 15,.tmp 30],mv 5 31]))
 (rG 20480 [mv 13 6,bN 14 .add 13 1,mv 6 14])))
def qP9 (n_ref6_join:Nat):AC:=
 (.seq
 (rG 4096 [mC 4 .nil])
 (.seq
 (rG 8192 [mC 5 .nil])
 (.seq
 (.seq
 (rG 12288 [mC 6 (.t (.int .i64 0))])
 (.block 0
 (.loop (qHw n_ref6_join))))
 (.seq
 (rG 28672 [mv 32 5,mv 4 32])
 .ret))))
def qEn (n_ref6_up:Nat):AC:=
 (.seq
 (.seq
 (rG 24576 [mv 10 3,oO 11 .len [.tmp 10],bN 12 .gtr 11 1])
 (.cond (.tmp 12)
 .skip
 (.exit 0)))
 (.seq
 (.block 1
 (rG 32768 [mv 15 4,mv 16 3,cL 17 n_ref6_up true [.tmp 15,.tmp 16],mv 3 17]))
 (rG 28672 [mv 13 4,bN 14 .add 13 1,mv 4 14])))
def qKe (n_ref6_fits n_ref6_up n_ref1_Copy:Nat):AC:=
 (.seq
 (rG 4096 [mC 2 .nil])
 (.seq
 (.seq
 (rG 8192 [mv 5 0,oO 6 .len [.tmp 5],cL 7 n_ref6_fits false [.tmp 6],oO 8 (.un .not) [.tmp 7]])
 (.cond (.tmp 8)
 (.seq
 (rG 12288 [mC 2 .nil])
 .ret)
 .skip))
 (.seq
 (rG 16384 [mv 9 0,mv 3 9])
 (.seq
 (.seq
 (rG 20480 [mC 4 (.t (.int .i64 0))])
 (.block 0
 (.loop (qEn n_ref6_up))))
 (.seq
 (rG 36864 [mv 18 3,oO 19 (.iaddr 1) [.tmp 18,.cst (.t (.int .i64 0))],oO 20 (.load 1 false) [.tmp 19],cL 21 n_ref1_Copy false [.tmp 20],mv 2 21])
 .ret)))))
def qD2 (n_ref2_Derive:Nat):AC:=
 (.seq
 (rG 4096 [mC 4 .nil])
 (.seq
 (rG 8192 [mv 5 0,mv 6 1,oO 7 (.conv .u8) [.tmp 6],oO 8 (.bslice 1 1 (.t (qA 0)) [0]) [.tmp 7],cL 9 n_ref2_Derive true [.tmp 5,.cst (.t (zN [115,105,103,110,101,114])),.tmp 8,.cst (.t (.int .i64 32))],mv 4 9])
 .ret))
def vW (n_ref5_Public:Nat):AC:=
 (.seq
 (.seq
 (rG 20480 [mv 11 7,mv 12 1,oO 13 (.conv .u64) [.tmp 12],oO 14 (.bin .shl) [.cst (.t (.int .i64 1)),.tmp 13],bT 15 .lss 11 14])
 (.cond (.tmp 15)
 .skip
 (.exit 0)))
 (.seq
 (.block 1
 (rG 28672 [mv 18 5,mv 19 6,mv 20 7,cL 21 n_ref5_Public true [.tmp 19,.tmp 20],oO 22 (.bslice 1 1 .nil [0]) [.tmp 21],oO 23 (.append 1 24) [.tmp 18,.tmp 22],mv 5 23]))
 (rG 24576 [mv 16 7,bN 17 .add 16 1,mv 7 17])))
def qF4 (n_ref7_leafSeed n_ref5_Public:Nat):AC:=
 (.seq
 (rG 4096 [mC 4 .nil])
 (.seq
 (rG 8192 [mC 5 .nil])
 (.seq
 (rG 12288 [mv 8 0,mv 9 1,cL 10 n_ref7_leafSeed true [.tmp 8,.tmp 9],mv 6 10])
 (.seq
 (.seq
 (rG 16384 [mC 7 (.t (.int .i64 0))])
 (.block 0
 (.loop (vW n_ref5_Public))))
 (.seq
 (rG 32768 [mv 24 5,mv 4 24])
 .ret)))))
def qF3 (n_ref7_leaves n_ref6_Root:Nat):AC:=
 (.seq
 (rG 4096 [mC 4 .nil])
 (.seq
 (.seq
 (rG 8192 [mv 5 1,bN 6 .lss 5 0,mv 7 6,mF 8 1 7,oF 9 7 (.bin .gtr) [.tmp 8,.cst (.t (.int .i64 3))],oO 10 .pick [.tmp 7,.cst (.t (.bool true)),.tmp 9]])
 (.cond (.tmp 10)
 (.seq
 (rG 12288 [mC 4 .nil])
 .ret)
 .skip))
 (.seq
 (rG 16384 [mv 11 1,oO 12 (.conv .u8) [.tmp 11],oO 13 (.bslice 1 1 (.t (qA 0)) [0]) [.tmp 12],mv 14 0,mv 15 1,cL 16 n_ref7_leaves true [.tmp 14,.tmp 15],cL 17 n_ref6_Root true [.tmp 16],oO 18 (.append 1 1) [.tmp 13,.tmp 17],mv 4 18])
 .ret)))
def qAq (n_ref1_Sum256:Nat):AC:=
 (.seq
 (rG 4096 [mC 2 .nil])
 (.seq
 (rG 8192 [mv 3 0,oO 4 (.conv .u8) [.tmp 3],oO 5 (.bslice 1 2 (.t (qA 0)) [0,1]) [.cst (.t (qA 113)),.tmp 4],cL 6 n_ref1_Sum256 false [.tmp 5],mv 2 6])
 .ret))
def qEg (n_draw_QuoteSecret n_ref7_Public:Nat):AC:=
 (.seq
 (rG 4096 [oO 2 (.new 5 [(.agg [(.t (.int .i64 0)),(.t (.int .i64 0)),(.t (.int .i64 0)),.nil,.nil])]) []])
 (.seq
 (rG 8192 [mv 3 0,cL 4 n_draw_QuoteSecret true [.tmp 3],cL 5 n_ref7_Public true [.tmp 4,.cst (.t (.int .i64 1))],oO 6 (.build [(.t (.int .i64 0)),(.t (.int .i64 0)),(.t (.int .i64 0)),.nil,.nil] [(0,1),(1,1),(2,1),(4,1)]) [.cst (.t (.int .i64 2)),.cst (.t (.int .i64 7)),.cst (.t (.int .i64 1)),.tmp 5],oS 5 2 6])
 .ret))
def qDy (n_draw_Quoting n_ref1_Sum256:Nat):AC:=
 (.seq
 (rG 4096 [oO 4 (.new 11 [(.agg [(.t (.int .i64 0)),(.t (.int .i64 0)),.nil,.nil,.nil,.nil,(.t (.int .i64 0)),(.t (.int .i64 0)),(.t (.int .i64 0)),.nil,.nil])]) []])
 (.seq
 (.reg 8192 (some [0,0,0,4,12,0,32,96,252,508,0,1024,3072,7676,15868,0,32768,131071,262143]) [mv 5 0,mv 6 1,mv 7 0,oO 8 (.bin .mul) [.cst (.t (.int .i64 2)),.tmp 7],cL 9 n_draw_Quoting true [.tmp 8],mv 10 0,oO 11 (.bin .mul) [.cst (.t (.int .i64 2)),.tmp 10],bN 12 .add 11 1,cL 13 n_draw_Quoting true [.tmp 12],oO 14 (.bslice 5 2 (.agg [(.t (.int .i64 0)),(.t (.int .i64 0)),(.t (.int .i64 0)),.nil,.nil]) [0,1]) [.tmp 9,.tmp 13],mv 15 0,oO 16 (.conv .u8) [.tmp 15],oO 17 (.bslice 1 2 (.t (qA 0)) [0,1]) [.cst (.t (qA 112)),.tmp 16],cL 18 n_ref1_Sum256 false [.tmp 17],oO 19 (.build [.nil,.nil,.nil] [(1,1)]) [.tmp 18],oO 20 (.mkslice 1 1 (.t (qA 0))) [.cst (.t (.int .i64 32)),.cst (.t (.int .i64 32))],oO 21 (.build [(.t (.int .i64 0)),(.t (.int .i64 0)),(.t (.int .i64 0)),.nil,.nil] [(0,1),(1,1),(4,1)]) [.cst (.t (.int .i64 1)),.cst (.t (.int .i64 3)),.tmp 20],oO 22 (.build [(.t (.int .i64 0)),(.t (.int .i64 0)),.nil,.nil,.nil,.nil,(.t (.int .i64 0)),(.t (.int .i64 0)),(.t (.int .i64 0)),.nil,.nil] [(0,1),(1,1),(2,1),(3,3),(6,5)]) [.tmp 5,.tmp 6,.tmp 14,.tmp 19,.tmp 21],oS 11 4 22])
 .ret))
end Go.Eng
end
section
set_option maxRecDepth 20000
set_option maxHeartbeats 64000000
namespace Go.Eng
def zPz (t:Nat) (fs:List (List UInt8)):List UInt8:=(qBo t fs).take 16
theorem qGx {t:Nat} {fs:List (List UInt8)}:(zPz t fs).length=16:=by simp[zPz,qBo,qH]
theorem zFn {t:Nat} {fs:List (List UInt8)}:List.take 16 (qBo t fs)=zPz t fs:=rfl
theorem qE6 {t:Nat} {fs:List (List UInt8)}:(qBo t fs).length=32:=qH
def jCz:List UInt8:=[99,104,97,105,110]
def jC5:List UInt8:=[115,105,103,110,101,114]
def zOo (seed:List UInt8) (leaf c:Nat):List UInt8:=drv seed jCz [UInt8.ofNat leaf,UInt8.ofNat c] 16
def qT9:Ct where
 α:=List UInt8×Nat×Nat
 as x:=[.t (.sl (x.1.map qA)),.t (.int .i64 x.2.1),.t (.int .i64 x.2.2)]
 ins _:=[]
 pre x:=x.1.length≤64
 r x:= .t (.sl ((zOo x.1 x.2.1 x.2.2).map qA))
 outs _:=[]
 inj:=by
  rintro⟨a,b,c⟩ ⟨d,e,f⟩ h _
  simp only[List.cons.injEq,V.t.injEq,T.sl.injEq,T.int.injEq,true_and,and_true,qP,Int.natCast_inj] at h
  obtain⟨rfl,rfl,rfl⟩:=h
  exact⟨rfl,rfl⟩
theorem zW5 {s:List UInt8} {l c:Nat} (h:s.length≤64):qT9.fs [.t (.sl (s.map qA)),.t (.int .i64 l),.t (.int .i64 c)] []=some (.t (.sl ((zOo s l c).map qA)),[]):=qT9.eq (s,l,c) h
theorem qV2 (tab:Tab) (gl:Gl) (n1:Nat) (h1:tab.look n1=some wG.fs) (s:List UInt8) (l c:Nat) (h:s.length≤64) :
  (qHt n1).wp tab gl (qE 0 [.t (.sl (s.map qA)),.t (.int .i64 l),.t (.int .i64 c)]) (qE 0 []) (jK [(6,none)] 0 (fun r o=>r = .t (.sl ((zOo s l c).map qA))∧o=[])):=by
 have hD:wG.fs [.t (.sl (s.map qA)),.t (zN [99,104,97,105,110]),.t (.sl [qA (UInt8.ofNat l),qA (UInt8.ofNat c)]),.t (.int .i64 16)] []=some (.t (.sl ((zOo s l c).map qA)),[]):=qQi (l:=jCz) (c:=[UInt8.ofNat l,UInt8.ofNat c]) (n:=16) ⟨h,by decide,by simp,by omega,by omega⟩
 simp (disch:=omega) only [go_sem,seval,qHt,h1,hD]
theorem zZh {t:Nat} {fs:List (List UInt8)} (h : ∀ x∈fs,x.length≤1000) (hl:fs.length≤10):(zK t fs).length<1000000000:=by
 have h1:=qQk (t:=t) h
 omega
theorem qZx {t:Nat} {fs:List (List UInt8)} (ht:t<256) (h : ∀ x∈fs,x.length≤1000) (hl:fs.length≤10):jQ.fs [.t (.int .i64 t),.t (.sl (fs.map bsT))] []=some (.sl 0 0 32,[.live 1 (((qBo t fs).map qA).map V.t) true false]):=jQ.eq (t,fs) ⟨ht,zZh h hl⟩
def zTw (leaf:Nat) (ends:List UInt8):List UInt8:=zPz 2 [[UInt8.ofNat leaf],ends]
def qNn:Ct where
 α:=Nat×List UInt8
 as x:=[.t (.int .i64 x.1),.t (.sl (x.2.map qA))]
 ins _:=[]
 pre x:=x.2.length≤1000
 r x:= .t (.sl ((zTw x.1 x.2).map qA))
 outs _:=[]
 inj:=by
  rintro⟨a,b⟩ ⟨c,d⟩ h _
  simp only[List.cons.injEq,V.t.injEq,T.sl.injEq,T.int.injEq,true_and,and_true,qP,Int.natCast_inj] at h
  obtain⟨rfl,rfl⟩:=h
  exact⟨rfl,rfl⟩
theorem zS0 {l:Nat} {e:List UInt8} (h:e.length≤1000):qNn.fs [.t (.int .i64 l),.t (.sl (e.map qA))] []=some (.t (.sl ((zTw l e).map qA)),[]):=qNn.eq (l,e) h
theorem qV4 (tab:Tab) (gl:Gl) (n1:Nat) (h1:tab.look n1=some jQ.fs) (l:Nat) (e:List UInt8) (h:e.length≤1000) :
  (qHv n1).wp tab gl (qE 0 [.t (.int .i64 l),.t (.sl (e.map qA))]) (qE 0 []) (jK [(4,none)] 0 (fun r o=>r = .t (.sl ((zTw l e).map qA))∧o=[])):=by
 have hH:=qZx (t:=2) (fs:=[[UInt8.ofNat l],e]) (by omega) (by intro x hx;simp only[List.mem_cons,List.not_mem_nil,or_false] at hx;rcases hx with rfl | rfl;simp;exact h) (by simp)
 simp only[List.map_cons,List.map_nil,qEr] at hH
 rw[show ((2:Nat):Int)=2 from rfl] at hH
 have lH:=qE6 (t:=2) (fs:=[[UInt8.ofNat l],e])
 have tH:=zFn (t:=2) (fs:=[[UInt8.ofNat l],e])
 rw[zTw]
 generalize zPz 2 [[UInt8.ofNat l],e]=z at *
 generalize qBo 2 [[UInt8.ofNat l],e]=y at *
 simp (disch:=omega) only [go_sem,seval,qHv,h1,hH,lH,tH]
def qWf (leaf c:Nat) (x:List UInt8):Nat→List UInt8
 | 0=>x
 | p+1=>zPz 1 [[UInt8.ofNat leaf,UInt8.ofNat c,UInt8.ofNat p],qWf leaf c x p]
theorem qX9 {l c:Nat} {x:List UInt8} (h:x.length=16) : ∀ {p:Nat},(qWf l c x p).length=16
 | 0=>h
 | p+1=>qGx
def qNl:Ct where
 α:=Nat×Nat×List UInt8
 as x:=[.t (.int .i64 x.1),.t (.int .i64 x.2.1),.t (.int .i64 0),.t (.int .i64 15),.t (.sl (x.2.2.map qA))]
 ins _:=[]
 pre x:=x.2.2.length=16
 r x:= .t (.sl ((qWf x.1 x.2.1 x.2.2 15).map qA))
 outs _:=[]
 inj:=by
  rintro⟨a,b,c⟩ ⟨d,e,f⟩ h _
  simp only[List.cons.injEq,V.t.injEq,T.sl.injEq,T.int.injEq,true_and,and_true,qP,Int.natCast_inj] at h
  obtain⟨rfl,rfl,rfl⟩:=h
  exact⟨rfl,rfl⟩
theorem zSq {l c:Nat} {x:List UInt8} (h:x.length=16):qNl.fs [.t (.int .i64 l),.t (.int .i64 c),.t (.int .i64 0),.t (.int .i64 15),.t (.sl (x.map qA))] []=some (.t (.sl ((qWf l c x 15).map qA)),[]):=qNl.eq (l,c,x) h
theorem qV3 (tab:Tab) (gl:Gl) (n1:Nat) (h1:tab.look n1=some jQ.fs) (l c:Nat) (x:List UInt8) (h:x.length=16) :
  (qHu n1).wp tab gl (qE 0 [.t (.int .i64 l),.t (.int .i64 c),.t (.int .i64 0),.t (.int .i64 15),.t (.sl (x.map qA))]) (qE 0 []) (jK [(10,none)] 0 (fun r o=>r = .t (.sl ((qWf l c x 15).map qA))∧o=[])):=by
 simp (disch:=omega) only [go_sem,seval,qHu]
 refine qD 15 (fun p=>[(0,.t (.int .i64 l)),(1,.t (.int .i64 c)),(3,.t (.int .i64 15)),(4,.t (.sl ((qWf l c x p).map qA))),(11,.t (.int .i64 p))]) (fun _=>[]) ?_ (fun p hp=>?_)
 ·refine qQ.rd id ?_ ?_ rfl
  all_goals simp (disch:=omega) only [go_sem,seval,id]
  all_goals rfl
 ·by_cases hlt:p<15
  ·have hq:=qX9 (l:=l) (c:=c) h (p:=p)
   have hH:=qZx (t:=1) (fs:=[[UInt8.ofNat l,UInt8.ofNat c,UInt8.ofNat p],qWf l c x p]) (by omega) (by intro x hx;simp only[List.mem_cons,List.not_mem_nil,or_false] at hx;rcases hx with rfl | rfl;simp;omega) (by simp)
   simp only[List.map_cons,List.map_nil,qEr] at hH
   rw[show ((1:Nat):Int)=1 from rfl] at hH
   have lH:=qE6 (t:=1) (fs:=[[UInt8.ofNat l,UInt8.ofNat c,UInt8.ofNat p],qWf l c x p])
   have tH:List.take 16 (qBo 1 [[UInt8.ofNat l,UInt8.ofNat c,UInt8.ofNat p],qWf l c x p])=qWf l c x (p+1):=rfl
   obtain⟨z,hz⟩ : ∃ z,qWf l c x (p+1)=z:=⟨_,rfl⟩
   rw[hz] at tH
   generalize qBo 1 [[UInt8.ofNat l,UInt8.ofNat c,UInt8.ofNat p],qWf l c x p]=y at *
   generalize qWf l c x p=w at *
   simp (disch:=omega) only [go_sem,seval,qAd,hlt,h1,hH,lH]
   refine qQ.cv (hv:=[]) [20624] id ?_ rfl
   simp (disch:=omega) only [go_sem,seval,id,tH,hz]
   all_goals rfl
  ·have e:p=15:=by omega
   subst e
   simp (disch:=omega) only [go_sem,seval,qAd]
def qW0 (seed:List UInt8) (leaf:Nat):Nat→List UInt8
 | 0=>[]
 | c+1=>qW0 seed leaf c++qWf leaf c (zOo seed leaf c) 15
theorem qG7 {s:List UInt8} {l c:Nat}:(zOo s l c).length=16:=jT
theorem qNq {s:List UInt8} {l:Nat} : ∀ {c:Nat},(qW0 s l c).length=16*c
 | 0=>rfl
 | c+1=>by rw[qW0,List.length_append,qNq,qX9 qG7];omega
def qOa (seed:List UInt8) (leaf:Nat):List UInt8:=zTw leaf (qW0 seed leaf 35)
theorem qOb {s:List UInt8} {l:Nat}:(qOa s l).length=16:=qGx
def qNd:Ct where
 α:=List UInt8×Nat
 as x:=[.t (.sl (x.1.map qA)),.t (.int .i64 x.2)]
 ins _:=[]
 pre x:=x.1.length≤64∧x.2≤255
 r x:= .t (.sl ((qOa x.1 x.2).map qA))
 outs _:=[]
 inj:=by
  rintro⟨a,b⟩ ⟨c,d⟩ h _
  simp only[List.cons.injEq,V.t.injEq,T.sl.injEq,T.int.injEq,true_and,and_true,qP,Int.natCast_inj] at h
  obtain⟨rfl,rfl⟩:=h
  exact⟨rfl,rfl⟩
theorem zGm {s:List UInt8} {l:Nat} (h:s.length≤64∧l≤255):qNd.fs [.t (.sl (s.map qA)),.t (.int .i64 l)] []=some (.t (.sl ((qOa s l).map qA)),[]):=qNd.eq (s,l) h
theorem qS2 (tab:Tab) (gl:Gl) (n1 n2 n3:Nat) (h1:tab.look n1=some qT9.fs) (h2:tab.look n2=some qNl.fs) (h3:tab.look n3=some qNn.fs) (s:List UInt8) (l:Nat) (h:s.length≤64∧l≤255) :
  (qF2 n1 n2 n3).wp tab gl (qE 0 [.t (.sl (s.map qA)),.t (.int .i64 l)]) (qE 0 []) (jK [(4,none)] 0 (fun r o=>r = .t (.sl ((qOa s l).map qA))∧o=[])):=by
 obtain⟨hs,hl⟩:=h
 have g1 : ¬ (l:Int)<0:=by omega
 have g2 : ¬ (255:Int)<l:=by omega
 simp (disch:=omega) only [go_sem,seval,qF2,g1,g2]
 refine qD 35 (fun c=>[(0,.t (.sl (s.map qA))),(1,.t (.int .i64 l)),(5,.sl 9000 0 (16*c)),(6,.t (.int .i64 c))]) (fun c=>[(9000,.live 1 (((qW0 s l c).map qA).map V.t) true false)]) ?_ (fun c hc=>?_)
 ·refine qQ.cv0 (hv:=[(9000,.live 1 [] true false)]) (ho:=[]) id ?_ ?_ rfl rfl
  all_goals simp (disch:=omega) only [go_sem,seval,id]
  all_goals rfl
 ·have hR:=qNq (s:=s) (l:=l) (c:=c)
  by_cases hlt:c<35
  ·have hA:=zW5 (l:=l) (c:=c) hs
   have hB:=zSq (l:=l) (c:=c) (qG7 (s:=s) (l:=l) (c:=c))
   have lB:=qX9 (l:=l) (c:=c) (qG7 (s:=s) (l:=l) (c:=c)) (p:=15)
   have hE:qW0 s l c++qWf l c (zOo s l c) 15=qW0 s l (c+1):=rfl
   obtain⟨z,hz⟩ : ∃ z,qW0 s l (c+1)=z:=⟨_,rfl⟩
   rw[hz] at hE
   generalize qWf l c (zOo s l c) 15=y at *
   simp (disch:=omega) only [go_sem,seval,kP,hlt,h1,hA,h2,hB,hR,lB,hE]
   refine qQ.rd (fun j=>if j=9000 then 32896 else j) ?_ ?_ rfl
   all_goals simp (disch:=omega) only [go_sem,seval,id,hE,hz]
   all_goals first | omega | rfl
  ·have e:c=35:=by omega
   subst e
   have hV:=zS0 (l:=l) (e:=qW0 s l 35) (by omega)
   have hX:zTw l (qW0 s l 35)=qOa s l:=rfl
   rw[hX] at hV
   have tE:List.take (16*35) (qW0 s l 35)=qW0 s l 35:=List.take_of_length_le (by omega)
   have tE':List.take 560 (qW0 s l 35)=qW0 s l 35:=List.take_of_length_le (by omega)
   generalize qW0 s l 35=z at *
   simp (disch:=omega) only [go_sem,seval,kP,h3,tE,tE',hR,hV]
def qM4:Ct where
 α:=Unit
 as _:=[.t (.int .i64 2)]
 ins _:=[]
 pre _:=True
 r _:= .t (.bool true)
 outs _:=[]
 inj:=fun _ _ _ _=>⟨rfl,rfl⟩
theorem zPt:qM4.fs [.t (.int .i64 2)] []=some (.t (.bool true),[]):=qM4.eq () trivial
theorem qYv (tab:Tab) (gl:Gl):qKf.wp tab gl (qE 0 [.t (.int .i64 2)]) (qE 0 []) (jK [(2,none)] 0 (fun r o=>r = .t (.bool true)∧o=[])):=by
 simp (disch:=omega) only [go_sem,seval,qKf]
def qWe (x y:List UInt8):List UInt8:=zPz 3 [[0,0],x,y]
theorem qN1 {x y:List UInt8}:(qWe x y).length=16:=qGx
def qTu:Ct where
 α:=List UInt8×List UInt8
 as x:=[.t (.int .i64 0),.t (.int .i64 0),.t (.sl (x.1.map qA)),.t (.sl (x.2.map qA))]
 ins _:=[]
 pre x:=x.1.length≤1000∧x.2.length≤1000
 r x:= .t (.sl ((qWe x.1 x.2).map qA))
 outs _:=[]
 inj:=by
  rintro⟨a,b⟩ ⟨c,d⟩ h _
  simp only[List.cons.injEq,V.t.injEq,T.sl.injEq,true_and,and_true,qP] at h
  obtain⟨rfl,rfl⟩:=h
  exact⟨rfl,rfl⟩
theorem zVe {x y:List UInt8} (h:x.length≤1000∧y.length≤1000):qTu.fs [.t (.int .i64 0),.t (.int .i64 0),.t (.sl (x.map qA)),.t (.sl (y.map qA))] []=some (.t (.sl ((qWe x y).map qA)),[]):=qTu.eq (x,y) h
theorem qYw (tab:Tab) (gl:Gl) (n1:Nat) (h1:tab.look n1=some jQ.fs) (x y:List UInt8) (h:x.length≤1000∧y.length≤1000) :
  (qKg n1).wp tab gl (qE 0 [.t (.int .i64 0),.t (.int .i64 0),.t (.sl (x.map qA)),.t (.sl (y.map qA))]) (qE 0 []) (jK [(8,none)] 0 (fun r o=>r = .t (.sl ((qWe x y).map qA))∧o=[])):=by
 have hH:=qZx (t:=3) (fs:=[[0,0],x,y]) (by omega) (by intro z hx;simp only[List.mem_cons,List.not_mem_nil,or_false] at hx;rcases hx with rfl | rfl | rfl;simp;exact h.1;exact h.2) (by simp)
 simp only[List.map_cons,List.map_nil,qEr] at hH
 rw[show ((3:Nat):Int)=3 from rfl] at hH
 have lH:=qE6 (t:=3) (fs:=[[0,0],x,y])
 have tH:List.take 16 (qBo 3 [[0,0],x,y])=qWe x y:=rfl
 have k0:T.int .u8 (IntKind.u8.wrap 0)=qA 0:=rfl
 generalize qWe x y=z at *
 generalize qBo 3 [[0,0],x,y]=w at *
 simp (disch:=omega) only [go_sem,seval,qKg,h1,k0,hH,lH,tH]
def zEh:Ct where
 α:=List UInt8×List UInt8
 as x:=[.t (.int .i64 0),.t (.sl [.sl (x.1.map qA),.sl (x.2.map qA)])]
 ins _:=[]
 pre x:=x.1.length≤1000∧x.2.length≤1000
 r x:= .t (.sl [.sl ((qWe x.1 x.2).map qA)])
 outs _:=[]
 inj:=by
  rintro⟨a,b⟩ ⟨c,d⟩ h _
  simp only[List.cons.injEq,V.t.injEq,T.sl.injEq,true_and,and_true,qP] at h
  obtain⟨rfl,rfl⟩:=h
  exact⟨rfl,rfl⟩
theorem jBe {x y:List UInt8} (h:x.length≤1000∧y.length≤1000):zEh.fs [.t (.int .i64 0),.t (.sl [.sl (x.map qA),.sl (y.map qA)])] []=some (.t (.sl [.sl ((qWe x y).map qA)]),[]):=zEh.eq (x,y) h
theorem zH5 (tab:Tab) (gl:Gl) (n1:Nat) (h1:tab.look n1=some qTu.fs) (x y:List UInt8) (h:x.length≤1000∧y.length≤1000) :
  (qP9 n1).wp tab gl (qE 0 [.t (.int .i64 0),.t (.sl [.sl (x.map qA),.sl (y.map qA)])]) (qE 0 []) (jK [(4,none)] 0 (fun r o=>r = .t (.sl [.sl ((qWe x y).map qA)])∧o=[])):=by
 have hJ:=zVe h
 generalize qWe x y=z at *
 simp (disch:=omega) only [go_sem,seval,qP9]
 refine qU 2 ?_
 simp (disch:=omega) only [go_sem,seval,qG,qHw,h1,hJ]
 all_goals rfl
def qNi:Ct where
 α:=List UInt8×List UInt8
 as x:=[.t (.sl [.sl (x.1.map qA),.sl (x.2.map qA)])]
 ins _:=[]
 pre x:=x.1.length≤1000∧x.2.length≤1000
 r x:= .t (.sl ((qWe x.1 x.2).map qA))
 outs _:=[]
 inj:=by
  rintro⟨a,b⟩ ⟨c,d⟩ h _
  simp only[List.cons.injEq,V.t.injEq,T.sl.injEq,true_and,and_true,qP] at h
  obtain⟨rfl,rfl⟩:=h
  exact⟨rfl,rfl⟩
theorem zRz {x y:List UInt8} (h:x.length≤1000∧y.length≤1000):qNi.fs [.t (.sl [.sl (x.map qA),.sl (y.map qA)])] []=some (.t (.sl ((qWe x y).map qA)),[]):=qNi.eq (x,y) h
theorem qYu (tab:Tab) (gl:Gl) (n1 n2 n3:Nat) (h1:tab.look n1=some qM4.fs) (h2:tab.look n2=some zEh.fs) (h3:tab.look n3=some qM0.fs) (x y:List UInt8) (h:x.length≤1000∧y.length≤1000) :
  (qKe n1 n2 n3).wp tab gl (qE 0 [.t (.sl [.sl (x.map qA),.sl (y.map qA)])]) (qE 0 []) (jK [(2,none)] 0 (fun r o=>r = .t (.sl ((qWe x y).map qA))∧o=[])):=by
 have hU:=jBe h
 have lJ:=qN1 (x:=x) (y:=y)
 generalize qWe x y=z at *
 have hC:=zPk (bs:=z) (by omega)
 have tz:List.take 16 z=z:=List.take_of_length_le (by omega)
 rw[lJ] at hC
 simp (disch:=omega) only [go_sem,seval,qKe,h1,zPt]
 refine qU 2 ?_
 simp (disch:=omega) only [go_sem,seval,qG,qEn,h2,hU,h3,hC,lJ,tz]
def qKu (seed:List UInt8):List UInt8:=drv seed jC5 [1] 32
theorem qXg {s:List UInt8}:(qKu s).length=32:=jT
def qTv:Ct where
 α:=List UInt8
 as x:=[.t (.sl (x.map qA)),.t (.int .i64 1)]
 ins _:=[]
 pre x:=x.length≤64
 r x:= .t (.sl ((qKu x).map qA))
 outs _:=[]
 inj:=by
  intro a b h _
  simp only[List.cons.injEq,V.t.injEq,T.sl.injEq,and_true,qP] at h
  subst h
  exact⟨rfl,rfl⟩
theorem zVl {s:List UInt8} (h:s.length≤64):qTv.fs [.t (.sl (s.map qA)),.t (.int .i64 1)] []=some (.t (.sl ((qKu s).map qA)),[]):=qTv.eq s h
theorem qOz (tab:Tab) (gl:Gl) (n1:Nat) (h1:tab.look n1=some wG.fs) (s:List UInt8) (h:s.length≤64) :
  (qD2 n1).wp tab gl (qE 0 [.t (.sl (s.map qA)),.t (.int .i64 1)]) (qE 0 []) (jK [(4,none)] 0 (fun r o=>r = .t (.sl ((qKu s).map qA))∧o=[])):=by
 have hD:wG.fs [.t (.sl (s.map qA)),.t (zN [115,105,103,110,101,114]),.t (.sl [qA 1]),.t (.int .i64 32)] []=some (.t (.sl ((qKu s).map qA)),[]):=qQi (l:=jC5) (c:=[1]) (n:=32) ⟨h,by decide,by simp,by omega,by omega⟩
 simp (disch:=omega) only [go_sem,seval,qD2,h1,k1b,hD]
def qTw:Ct where
 α:=List UInt8
 as x:=[.t (.sl (x.map qA)),.t (.int .i64 1)]
 ins _:=[]
 pre x:=x.length≤64
 r x:= .t (.sl [.sl ((qOa (qKu x) 0).map qA),.sl ((qOa (qKu x) 1).map qA)])
 outs _:=[]
 inj:=by
  intro a b h _
  simp only[List.cons.injEq,V.t.injEq,T.sl.injEq,and_true,qP] at h
  subst h
  exact⟨rfl,rfl⟩
theorem zVm {s:List UInt8} (h:s.length≤64):qTw.fs [.t (.sl (s.map qA)),.t (.int .i64 1)] []=some (.t (.sl [.sl ((qOa (qKu s) 0).map qA),.sl ((qOa (qKu s) 1).map qA)]),[]):=qTw.eq s h
theorem qS4 (tab:Tab) (gl:Gl) (n1 n2:Nat) (h1:tab.look n1=some qTv.fs) (h2:tab.look n2=some qNd.fs) (s:List UInt8) (h:s.length≤64) :
  (qF4 n1 n2).wp tab gl (qE 0 [.t (.sl (s.map qA)),.t (.int .i64 1)]) (qE 0 []) (jK [(4,none)] 0 (fun r o=>r = .t (.sl [.sl ((qOa (qKu s) 0).map qA),.sl ((qOa (qKu s) 1).map qA)])∧o=[])):=by
 have hS:=zVl h
 have lS:=qXg (s:=s)
 have p0:=zGm (s:=qKu s) (l:=0) ⟨by omega,by omega⟩
 have p1:=zGm (s:=qKu s) (l:=1) ⟨by omega,by omega⟩
 rw[show ((0:Nat):Int)=0 from rfl] at p0
 rw[show ((1:Nat):Int)=1 from rfl] at p1
 generalize qOa (qKu s) 0=a at *
 generalize qOa (qKu s) 1=b at *
 generalize qKu s=k at *
 simp (disch:=omega) only [go_sem,seval,qF4,h1,hS]
 refine qD 2 (fun i=>[(1,.t (.int .i64 1)),(5,.sl 9000 0 i),(6,.t (.sl (k.map qA))),(7,.t (.int .i64 i))]) (fun i=>[(9000,.live 1 ((([a,b].take i).map bsT).map V.t) true false)]) ?_ (fun i hi=>?_)
 ·refine qQ.cv0 (hv:=[(9000,.live 1 [] true false)]) (ho:=[]) id ?_ ?_ rfl rfl
  all_goals simp (disch:=omega) only [go_sem,seval,id]
  all_goals rfl
 ·rcases (show i=0∨i=1∨i=2 by omega) with rfl | rfl | rfl
  ·simp (disch:=omega) only [go_sem,seval,vW,h2,p0]
   refine qQ.rd (fun j=>if j=9000 then 28752 else j) ?_ ?_ rfl
   all_goals simp (disch:=omega) only [go_sem,seval,id]
   all_goals rfl
  ·simp (disch:=omega) only [go_sem,seval,vW,h2,p1]
   refine qQ.rd (fun j=>if j=9000 then 28752 else j) ?_ ?_ rfl
   all_goals simp (disch:=omega) only [go_sem,seval,id]
   all_goals rfl
  ·simp (disch:=omega) only [go_sem,seval,vW]
   all_goals rfl
def zTt (seed:List UInt8):List UInt8:=1::qWe (qOa (qKu seed) 0) (qOa (qKu seed) 1)
def qT5:Ct where
 α:=List UInt8
 as x:=[.t (.sl (x.map qA)),.t (.int .i64 1)]
 ins _:=[]
 pre x:=x.length≤64
 r x:= .t (.sl ((zTt x).map qA))
 outs _:=[]
 inj:=by
  intro a b h _
  simp only[List.cons.injEq,V.t.injEq,T.sl.injEq,and_true,qP] at h
  subst h
  exact⟨rfl,rfl⟩
theorem zWb {s:List UInt8} (h:s.length≤64):qT5.fs [.t (.sl (s.map qA)),.t (.int .i64 1)] []=some (.t (.sl ((zTt s).map qA)),[]):=qT5.eq s h
theorem qS3 (tab:Tab) (gl:Gl) (n1 n2:Nat) (h1:tab.look n1=some qTw.fs) (h2:tab.look n2=some qNi.fs) (s:List UInt8) (h:s.length≤64) :
  (qF3 n1 n2).wp tab gl (qE 0 [.t (.sl (s.map qA)),.t (.int .i64 1)]) (qE 0 []) (jK [(4,none)] 0 (fun r o=>r = .t (.sl ((zTt s).map qA))∧o=[])):=by
 have hL:=zVm h
 have hR:=zRz (x:=qOa (qKu s) 0) (y:=qOa (qKu s) 1) ⟨by rw[qOb];omega,by rw[qOb];omega⟩
 have lJ:=qN1 (x:=qOa (qKu s) 0) (y:=qOa (qKu s) 1)
 rw[zTt]
 generalize qWe (qOa (qKu s) 0) (qOa (qKu s) 1)=z at *
 generalize qOa (qKu s) 0=a at *
 generalize qOa (qKu s) 1=b at *
 have tz:List.take 17 (qA 1::List.map qA z)=qA 1::List.map qA z:=List.take_of_length_le (by simp;omega)
 simp (disch:=omega) only [go_sem,seval,qF3,h1,hL,h2,hR,k1b,lJ,tz]
def zOc (i:Nat):List UInt8:=zS [113,UInt8.ofNat i]
def qT6:Ct where
 α:=Nat
 as x:=[.t (.int .i64 x)]
 ins _:=[]
 pre _:=True
 r x:= .t (.sl ((zOc x).map qA))
 outs _:=[]
 inj:=by
  intro a b h _
  simp only[List.cons.injEq,V.t.injEq,T.int.injEq,true_and,and_true,Int.natCast_inj] at h
  subst h
  exact⟨rfl,rfl⟩
theorem zWc {i:Nat}:qT6.fs [.t (.int .i64 i)] []=some (.t (.sl ((zOc i).map qA)),[]):=qT6.eq i trivial
theorem qXr {i:Nat}:(zOc i).length=32:=qH
theorem qIw (tab:Tab) (gl:Gl) (n1:Nat) (h1:tab.look n1=some (qKq 32 zS).fs) (i:Nat) :
  (qAq n1).wp tab gl (qE 0 [.t (.int .i64 i)]) (qE 0 []) (jK [(2,none)] 0 (fun r o=>r = .t (.sl ((zOc i).map qA))∧o=[])):=by
 have hS:=zAw (n:=32) (f:=zS) (bs:=[113,UInt8.ofNat i]) (by simp)
 have lS:(zS [113,UInt8.ofNat i]).length=32:=qH
 rw[zOc]
 generalize zS [113,UInt8.ofNat i]=z at *
 have tz:List.take 32 z=z:=List.take_of_length_le (by omega)
 simp only[List.map_cons,List.map_nil] at hS
 simp (disch:=omega) only [go_sem,seval,qAq,h1,hS,tz,lS]
def zRd (i:Nat):T:= .agg [.int .i64 2,.int .i64 7,.int .i64 1,.sl [],.sl ((zTt (zOc i)).map qA)]
def qT7:Ct where
 α:=Nat
 as x:=[.t (.int .i64 x)]
 ins _:=[]
 pre _:=True
 r x:= .t (zRd x)
 outs _:=[]
 inj:=by
  intro a b h _
  simp only[List.cons.injEq,V.t.injEq,T.int.injEq,true_and,and_true,Int.natCast_inj] at h
  subst h
  exact⟨rfl,rfl⟩
theorem zOd {i:Nat}:qT7.fs [.t (.int .i64 i)] []=some (.t (.agg [.int .i64 2,.int .i64 7,.int .i64 1,.sl [],.sl ((zTt (zOc i)).map qA)]),[]):=qT7.eq i trivial
theorem qPr (tab:Tab) (gl:Gl) (n1 n2:Nat) (h1:tab.look n1=some qT6.fs) (h2:tab.look n2=some qT5.fs) (i:Nat) :
  (qEg n1 n2).wp tab gl (qE 0 [.t (.int .i64 i)]) (qE 0 []) (jK [(2,some (5,true))] 0 (fun r o=>r = .t (zRd i)∧o=[])):=by
 have hP:=zWb (s:=zOc i) (by rw[qXr];omega)
 simp (disch:=omega) only [go_sem,seval,qEg,zRd,h1,zWc,h2,hP]
 all_goals rfl
def qR8 (m:Nat):List UInt8:=zS [112,UInt8.ofNat m]
theorem qDp {m:Nat}:(qR8 m).length=32:=qH
def qPa (m:Nat) (act:Int):T:= .agg [.int .i64 m,.int .i64 act,.sl [zRd (2*m),zRd (2*m+1)],.sl [],.sl ((qR8 m).map qA),.sl [],.int .i64 1,.int .i64 3,.int .i64 0,.sl [],.sl (z32.map qA)]
def qM2:Ct where
 α:=Nat×Int
 as x:=[.t (.int .i64 x.1),.t (.int .i64 x.2)]
 ins _:=[]
 pre x:=x.1≤1000000
 r x:= .t (qPa x.1 x.2)
 outs _:=[]
 inj:=by
  rintro⟨a,b⟩ ⟨c,d⟩ h _
  simp only[List.cons.injEq,V.t.injEq,T.int.injEq,true_and,and_true,Int.natCast_inj] at h
  obtain⟨rfl,rfl⟩:=h
  exact⟨rfl,rfl⟩
theorem qZr {m:Nat} {a:Int} (h:m≤1000000):qM2.fs [.t (.int .i64 m),.t (.int .i64 a)] []=some (.t (qPa m a),[]):=qM2.eq (m,a) h
theorem qOs (tab:Tab) (gl:Gl) (n1 n2:Nat) (h1:tab.look n1=some qT7.fs) (h2:tab.look n2=some (qKq 32 zS).fs) (m:Nat) (a:Int) (h:m≤1000000) :
  (qDy n1 n2).wp tab gl (qE 0 [.t (.int .i64 m),.t (.int .i64 a)]) (qE 0 []) (jK [(4,some (11,true))] 0 (fun r o=>r = .t (qPa m a)∧o=[])):=by
 have q0:=zOd (i:=2*m)
 have q1:=zOd (i:=2*m+1)
 have hS:=zAw (n:=32) (f:=zS) (bs:=[112,UInt8.ofNat m]) (by simp)
 have lS:=qDp (m:=m)
 have hP:zS [112,UInt8.ofNat m]=qR8 m:=rfl
 rw[hP] at hS
 have tz:List.take 32 (qR8 m)=qR8 m:=List.take_of_length_le (by omega)
 simp only[List.map_cons,List.map_nil] at hS
 rw[qPa,zRd,zRd,z32]
 simp (config := { maxSteps:=2000000 }) (disch:=(first | omega | (simp only[qBq,qBp];omega))) only [go_sem,↓reduceIte,Nat.reduceAdd,Nat.reduceEqDiff,Nat.reduceSub,Nat.reduceMul,Nat.reduceLT,Nat.reduceLeDiff,Nat.reduceBEq,Int.reduceEq,Int.reduceLT,Int.reduceLE,Int.reduceToNat,Int.reduceNeg,Int.reduceAdd,Int.reduceSub,Int.reduceMul,Int.reduceMod,Int.reduceDiv,reduceCtorEq,Nat.reducePow,Int.reducePow,qDy,h1,q0,q1,h2,hS,tz,lS]
 exact⟨rfl,rfl⟩
def qM8:Ct where
 α:=Int×Int
 as x:=[.t (.int .i64 x.1),.t (.int .i64 x.2)]
 ins _:=[]
 pre x:=(-9223372036854775808≤x.1∧x.1<9223372036854775808)∧(-9223372036854775808≤x.2∧x.2<9223372036854775808)
 r x:= .t (.int .i64 (qPe x.1 x.2))
 outs _:=[]
 inj:=by
  rintro⟨a,b⟩ ⟨c,d⟩ h _
  simp only[List.cons.injEq,V.t.injEq,T.int.injEq,true_and,and_true] at h
  obtain⟨rfl,rfl⟩:=h
  exact⟨rfl,rfl⟩
theorem qQp {a b:Int} (h:(-9223372036854775808≤a∧a<9223372036854775808)∧(-9223372036854775808≤b∧b<9223372036854775808)):qM8.fs [.t (.int .i64 a),.t (.int .i64 b)] []=some (.t (.int .i64 (qPe a b)),[]):=qM8.eq (a,b) h
theorem qXi {k act:Int} {d:List UInt8} {a:Nat}:(mkD k act d a).length=qCn k act a:=by
 unfold mkD qCn
 split
 ·exact kY
 ·rfl
theorem qL3 {k act:Int} {a:Nat}:qCn k act a≤32:=by
 unfold qCn szA
 split
 ·split
  ·omega
  ·split<;>omega
 ·omega
theorem zZs {r k act:Int} {d:List UInt8} (h:d.length<1000000000):evM (mkE r k act d):=by
 have w0:=qL3 (k:=k) (act:=act) (a:=0)
 have w1:=qL3 (k:=k) (act:=act) (a:=1)
 refine⟨⟨by simp[mkE],fun x hx=>?_⟩,h⟩
 simp only[mkE,List.mem_cons,List.not_mem_nil,or_false] at hx
 rcases hx with rfl | rfl<;>(rw[qXi];omega)
theorem zVp {r k act:Int} {d:List UInt8} (hr:0≤r∧r≤11) (hk:1≤k∧k≤5) (ha:1≤act∧act≤3) (hd:d.length≤64):qEc (mkE r k act d) act=0:=by
 unfold qEc mkE
 simp only
 rw[if_neg (by unfold zI4;omega),if_neg (by omega),if_pos]
 rw[qRs,qXi,qXi,decide_eq_true rfl,decide_eq_true rfl];rfl
theorem qGz {a m:Int} (h:1≤m):0≤qPe a m∧qPe a m<m:=by
 unfold qPe
 rw[if_neg (by omega)]
 exact⟨Int.emod_nonneg _ (by omega),Int.emod_lt_of_pos _ (by omega)⟩
def qIc (i:Nat):List UInt8:=match i with
 | 0=>[97,61,49]
 | 1=>[99,111,117,110,116,61,53]
 | 2=>[99,111,117,110,116,61,49,55]
 | 3=>[104,111,115,116,61,120]
 | 4=>[109,111,100,101,32,98]
 | _=>[126]
theorem qUr {i:Nat}:1≤(qIc i).length∧(qIc i).length≤8:=by
 unfold qIc;split<;>decide
def qM5:Ct where
 α:=Cd
 as _:=[.ref 0 0 0]
 ins x:=[qO9 x]
 pre x:=qB1 x
 r x:= .t (.sl ((qIc (nx x 6).1).map qA))
 outs x:=[qO9 (nx x 6).2]
 inj:=by
  intro s t _ h2
  simp only[List.cons.injEq,and_true] at h2
  cases qLo h2
  exact⟨rfl,rfl⟩
theorem zQe {c:Cd} (h:qB1 c):qM5.fs [.ref 0 0 0] [cdO c]=some (.t (.sl ((qIc (nx c 6).1).map qA)),[cdO (nx c 6).2]):=qM5.eq c h
theorem qYf (tab:Tab) (gl:Gl) (n1:Nat) (h1:tab.look n1=some qCf.fs) (c:Cd) (hc:qB1 c) :
  (qBv n1).wp tab gl (qE 0 [.ref 0 0 0]) (qE 0 [qO9 c]) (jK [(2,none)] 1 (fun r o=>r = .t (.sl ((qIc (nx c 6).1).map qA))∧o=[qO9 (nx c 6).2])):=by
 have hn:=qXm (c:=c) (n:=6) ⟨hc,by omega,by omega⟩
 have hl:=qR2 (c:=c) (n:=6) (by omega)
 have k6:((6:Nat):Int)=6:=rfl
 rw[k6] at hn
 generalize nx c 6=q at *
 obtain⟨i,b',a'⟩:=q
 obtain⟨b,a⟩:=c
 simp only at hl hn
 rcases (show i=0∨i=1∨i=2∨i=3∨i=4∨i=5 by omega) with rfl | rfl | rfl | rfl | rfl | rfl
 all_goals simp only[cdO,Int.natCast_zero,Int.natCast_one,Int.cast_ofNat_Int] at hn
 all_goals simp (disch:=omega) only [go_sem,↓reduceIte,Nat.reduceAdd,Nat.reduceEqDiff,Nat.reduceSub,Nat.reduceLeDiff,Nat.reduceBEq,Int.reduceLT,Int.reduceLE,reduceCtorEq,qBv,kC,h1,hn,qIc,List.map_cons,List.map_nil]
theorem nxF (n:Nat) {c:Cd} (h:qB1 c) (h1:1≤n) (h2:n≤1000000000) : ∃ i b a,nx c n=(i,(b,a))∧i<n∧qB1 (b,a)∧qCf.fs [.ref 0 0 0,.t (.int .i64 n)] [.live 2 [.t (.agg [.sl (c.1.map qA),.int .i64 (c.2:Int)])] true true]=some (.t (.int .i64 i),[.live 2 [.t (.agg [.sl (b.map qA),.int .i64 (a:Int)])] true true]):=by
 have e:=qXm (c:=c) (n:=n) ⟨h,h1,h2⟩
 have l:=qR2 (c:=c) (n:=n) h1
 have k:=qEa (n:=n) h
 obtain⟨⟨i,b,a⟩,hq⟩ : ∃ q,nx c n=q:=⟨_,rfl⟩
 rw[hq] at e l k
 exact⟨i,b,a,hq,l,k,e⟩
def rI (n:Int):Prop := -9223372036854775808≤n∧n<9223372036854775808
def qM1:Ct where
 α:=Int
 as x:=[.t (.int .i64 x)]
 ins _:=[]
 pre x:=rI x
 r x:= .t (.int .i64 (2+qPe x 2))
 outs _:=[]
 inj:=by
  intro a b h _
  simp only[List.cons.injEq,V.t.injEq,T.int.injEq,true_and,and_true] at h
  subst h;exact⟨rfl,rfl⟩
theorem zPn {a:Int} (h:rI a):qM1.fs [.t (.int .i64 a)] []=some (.t (.int .i64 (2+qPe a 2)),[]):=qM1.eq a h
theorem qSw (tab:Tab) (gl:Gl) (n1:Nat) (h1:tab.look n1=some qM8.fs) (a:Int) (ha:rI a) :
  (qFw n1).wp tab gl (qE 0 [.t (.int .i64 a)]) (qE 0 []) (jK [(2,none)] 0 (fun r o=>r = .t (.int .i64 (2+qPe a 2))∧o=[])):=by
 have hm:=qQp (a:=a) (b:=2) ⟨ha,by omega⟩
 have lm:=qGz (a:=a) (m:=2) (by omega)
 generalize qPe a 2=M at *
 simp (disch:=omega) only [go_sem,seval,qFw,h1,hm]
def evX (e:Ev):Prop:=e.2.2.1.length≤9223372036854775807∧(∀ x∈e.2.2.1,x.length≤9223372036854775807)∧e.2.2.2.length≤9223372036854775807
abbrev Im:=Int×List UInt8×Int×List UInt8
def imT (x:Im):T:= .agg [.int .i64 x.1,zN x.2.1,.int .i64 x.2.2.1,.sl (x.2.2.2.map qA)]
theorem zC {a v:Int} {s p:List UInt8}:imT (a,s,v,p) = .agg [.int .i64 a,zN s,.int .i64 v,.sl (p.map qA)]:=Eq.trans (Eq.refl _) rfl
theorem qDk {e f:Im} (h:imT e=imT f):e=f:=by
 obtain⟨a,b,c,d⟩:=e
 obtain⟨a',b',c',d'⟩:=f
 simp only[zC,T.agg.injEq,List.cons.injEq,T.int.injEq,T.sl.injEq,true_and,and_true,qL1,qP] at h
 obtain⟨rfl,rfl,rfl,rfl⟩:=h
 rfl
def imM (x:Im):Prop:=x.2.1.length≤9223372036854775807∧x.2.2.2.length<1000000000∧rI x.1∧rI x.2.2.1
def imX (x:Im):Prop:=rI x.1∧rI x.2.2.1∧x.2.1.length≤9223372036854775807∧x.2.2.2.length≤9223372036854775807
def qQm (l:List Im):Prop:=l.length≤9223372036854775807 ∧ ∀ x∈l,imX x
theorem imM.x {x:Im} (h:imM x):imX x:=⟨h.2.2.1,h.2.2.2,h.1,by have:=h.2.1;omega⟩
def okN (c:UInt8):Bool:=(!decide (c.toNat<97) && !decide (c.toNat>122))||((!decide (c.toNat<48) && !decide (c.toNat>57))||decide (c=45))
def qCk (s:List UInt8):Bool:=(!decide (s.length<1) && !decide (12<s.length))&&s.all okN
def lnS (out:List (List UInt8)) (line:List UInt8):List UInt8→List (List UInt8)
 | []=>if 0<line.length then [] else out
 | c::r=>if c=10 then (if line.length=0∨4≤out.length then [] else lnS (out++[line]) [] r) else if okC c=true then lnS out (line++[c]) r else []
def lnL (p:List UInt8):List (List UInt8):=lnS [] [] p
def zNk (r v:Int):Prop:=r<1∨4<r∨v<0∨1000000<v
instance {r v:Int}:Decidable (zNk r v):=by unfold zNk;infer_instance
def qEt (x:Im):Int:=if zNk x.1 x.2.2.1 then 1 else if qCk x.2.1=false then 43 else if 64<x.2.2.2.length then 4 else if x.1=4∧(lnL x.2.2.2).length=0 then 40 else 0
def zZg (x:Im):List UInt8:=blL (blL (beI 1 x.1 1++beI 4 x.2.2.1 4) x.2.1) x.2.2.2
def qE2 (x:Im):List UInt8:=if qEt x=0 then zZg x else []
def zAh (r:Int):Int:=if r=1 then 0 else if r=2 then 4 else if r=3 then 8 else if r=4 then 9 else -1
def zJn:Nat→Nat→List UInt8
 | 0,n=>[UInt8.ofNat (48+n)]
 | k+1,n=>if n<10 then [UInt8.ofNat (48+n)] else zJn k (n/10)++[UInt8.ofNat (48+n%10)]
def zDj (n:Nat):List UInt8:=zJn 7 n
def zVi (s:List UInt8) (n:Nat):List UInt8:=s++[32]++zDj n
def qQh (x:Im) (act:Int) (a:Nat):List UInt8:=if 0<(qE2 x).length∧act/2^a%2=1 then zCn a (qE2 x) else []
def ofI (x:Im) (act:Int):Ev:=if qEt x≠0∨x.1=4 then (0,0,[],[]) else (zAh x.1,1,[qQh x act 0,qQh x act 1],zVi x.2.1 x.2.2.1.toNat)
def chF (pre:List Im):List Im→Int
 | []=>if pre.any (fun y=>decide (y.1=1))&&pre.any (fun y=>decide (y.1=3)) then 0 else 40
 | x::r=>if qEt x≠0 then qEt x else if pre≠[]∧x.1<(pre.getLastD (0,[],0,[])).1 then 41 else if pre.any (fun y=>decide (y.1=x.1)&&decide (y.2.1=x.2.1)) then 42 else chF (pre++[x]) r
def qI6 (l:List Im):Int:=if l.length=0∨8<l.length then 1 else chF [] l
def qHh (act r:Int) (l:List Im):List Ev:=(l.filter (fun x=>decide (x.1=r))).flatMap fun x=>if r=4 then (lnL x.2.2.2).map (mkE 9 3 act) else [ofI x act]
def zY1 (act:Int):List Ev:=(List.range 8).map fun (i:Nat)=>mkE (i:Int) 2 act qVh
def qUe (act:Int) (l:List Im):List Ev:=(qHh act 1 l++qHh act 2 l)++zY1 act++(qHh act 3 l++qHh act 4 l)
def qW2 (l:List Im) (act:Int):List Ev:=if qI6 l≠0∨act<1∨3<act then [] else qUe act l
theorem zQg {p:List UInt8} : ∀ {out:List (List UInt8)} {line:List UInt8},out.length≤4→(lnS out line p).length≤4:=by
 induction p with
 | nil=>intro out line h;unfold lnS;split<;>simp_all
 | cons c r ih=>
  intro out line h
  unfold lnS
  split
  ·split
   ·simp
   ·rename_i hq
    exact ih (by simp;omega)
  ·split
   ·exact ih h
   ·simp
theorem qXf {p:List UInt8}:(lnL p).length≤4:=zQg (by simp)
theorem zVj {p:List UInt8} : ∀ {out:List (List UInt8)} {line:List UInt8} {n:Nat},(∀ x∈out,x.length≤n)→line.length+p.length≤n → ∀ x∈lnS out line p,x.length≤n:=by
 induction p with
 | nil=>intro out line n h1 h2 x hx;unfold lnS at hx;split at hx<;>simp_all
 | cons c r ih=>
  intro out line n h1 h2
  simp only[List.length_cons] at h2
  unfold lnS
  split
  ·split
   ·simp
   ·refine ih (fun x hx=>?_) (by simp;omega)
    simp only[List.mem_append,List.mem_cons,List.not_mem_nil,or_false] at hx
    rcases hx with hx | rfl
    ·exact h1 x hx
    ·omega
  ·split
   ·exact ih h1 (by simp;omega)
   ·simp
theorem zN5 {p:List UInt8} : ∀ x∈lnL p,x.length≤p.length:=zVj (by simp) (by simp)
theorem qRq : ∀ {k n:Nat},1≤(zJn k n).length∧(zJn k n).length≤k+1
 | 0,n=>by simp[zJn]
 | k+1,n=>by
  unfold zJn
  split
  ·simp
  ·have:=qRq (k:=k) (n:=n/10)
   simp;omega
def nmL (i:Nat):List UInt8:=match i with
 | 0=>[97]
 | 1=>[103,114,117,98]
 | 2=>[108,105,110,117,120]
 | 3=>[110,101,116,45,48]
 | _=>[116,119,101,108,118,101,45,98,121,116,101,115]
def zBx:Nat→Cd→List UInt8→List UInt8×Cd
 | 0,c,b=>(b,c)
 | k+1,c,b=>zBx k (nx c 6).2 (b++qIc (nx c 6).1++[10])
def qQu (c:Cd):List UInt8×Cd:=zBx (1+(nx c 4).1) (nx c 4).2 []
def vrG (c:Cd):Int×Cd:=if (nx (nx c 5).2 9).1=8 then ((1000000-((nx (nx (nx c 5).2 9).2 3).1:Int)),(nx (nx (nx c 5).2 9).2 3).2) else (((nx c 5).1:Int),(nx (nx c 5).2 9).2)
def byN:Nat→Cd→List UInt8→List UInt8×Cd
 | 0,c,b=>(b,c)
 | k+1,c,b=>byN k (nx c 256).2 (b++[UInt8.ofNat (nx c 256).1])
def plG (c:Cd) (role:Int):List UInt8×Cd:=if role=4 then qQu c else byN (nx c 7).1 (nx c 7).2 []
def imG (c:Cd) (role:Int):Im×Cd:=((role,nmL (nx c 5).1,(vrG (nx c 5).2).1,(plG (vrG (nx c 5).2).2 role).1),(plG (vrG (nx c 5).2).2 role).2)
def isD (l:List Im) (x:Im):Bool:=l.any (fun y=>decide (y.1=x.1)&&decide (y.2.1=x.2.1))
def chN:Nat→Cd→Int→List Im→List Im×Cd
 | 0,c,_,l=>(l,c)
 | k+1,c,r,l=>chN k (imG c r).2 r (if isD l (imG c r).1 then l else l++[(imG c r).1])
def chK (c:Cd) (r:Int):Nat×Cd:=if r=1∨r=3 then (1+(nx (nx c 3).2 2).1,(nx (nx c 3).2 2).2) else nx c 3
def chR (r:Int) (s:List Im×Cd):List Im×Cd:=chN (chK s.2 r).1 (chK s.2 r).2 r s.1
def chG (b:List UInt8):List Im:=(chR 4 (chR 3 (chR 2 (chR 1 ([],(b.take 200,0)))))).1
def ev0:Ev:=(0,0,[],[])
theorem zZu {c:UInt8} (h:okC c=true):c≠10:=by rintro rfl;revert h;decide
theorem zQf {s r:List UInt8} {out:List (List UInt8)} : ∀ {l:List UInt8},s.all okC=true→lnS out l (s++r)=lnS out (l++s) r:=by
 induction s with
 | nil=>intro l _;simp
 | cons c s ih=>
  intro l h
  simp only[List.all_cons,Bool.and_eq_true] at h
  rw[List.cons_append,lnS,if_neg (zZu h.1),if_pos h.1,ih h.2];simp
theorem zVk {r l:List UInt8} {out:List (List UInt8)} (h1:0<l.length) (h2:out.length<4):lnS out l (10::r)=lnS (out++[l]) [] r:=by
 rw[lnS,if_pos rfl,if_neg (by omega)]
theorem zKk {i:Nat}:(qIc i).all okC=true:=by unfold qIc;split<;>decide
theorem zGh : ∀ {k:Nat} {c:Cd} {b:List UInt8} {out:List (List UInt8)},(∀ r,lnS [] [] (b++r)=lnS out [] r)→out.length+k≤4→(lnL (zBx k c b).1).length=out.length+k∧(zBx k c b).1.length≤b.length+9*k
 | 0,c,b,out,h,hk=>by
  have:=h []
  rw[List.append_nil] at this
  refine⟨?_,by simp[zBx]⟩
  show (lnS [] [] b).length=_
  rw[this];simp[lnS]
 | k+1,c,b,out,h,hk=>by
  have hl:=qUr (i:=(nx c 6).1)
  have:=zGh (k:=k) (c:=(nx c 6).2) (b:=b++qIc (nx c 6).1++[10]) (out:=out++[qIc (nx c 6).1]) (fun r=>by
   rw[List.append_assoc,List.append_assoc,h,zQf zKk]
   exact zVk hl.1 (by omega)) (by simp;omega)
  simp only[List.length_append,List.length_cons,List.length_nil] at this
  refine⟨by unfold zBx;omega,?_⟩
  unfold zBx
  omega
theorem zGg {c:Cd}:1≤(lnL (qQu c).1).length∧(qQu c).1.length≤36:=by
 have hn:=qR2 (c:=c) (n:=4) (by omega)
 have:=zGh (k:=1+(nx c 4).1) (c:=(nx c 4).2) (b:=[]) (out:=[]) (fun r=>rfl) (by simp;omega)
 simp only[List.length_nil] at this
 unfold qQu
 omega
theorem qR9 : ∀ {k:Nat} {c:Cd} {b:List UInt8},qB1 c→qB1 (zBx k c b).2
 | 0,_,_,h=>h
 | k+1,_,_,h=>qR9 (k:=k) (qEa h)
theorem zNo : ∀ {k:Nat} {c:Cd} {b:List UInt8},qB1 c→qB1 (byN k c b).2
 | 0,_,_,h=>h
 | k+1,_,_,h=>zNo (k:=k) (qEa h)
theorem zD3 : ∀ {k:Nat} {c:Cd} {b:List UInt8},(byN k c b).1.length=b.length+k
 | 0,_,_=>rfl
 | k+1,c,b=>by
  have:=zD3 (k:=k) (c:=(nx c 256).2) (b:=b++[UInt8.ofNat (nx c 256).1])
  unfold byN
  rw[this];simp;omega
theorem zV8 {c:Cd} {r:Int} (h:qB1 c):qB1 (plG c r).2:=by
 unfold plG
 split
 ·exact qR9 (qEa h)
 ·exact zNo (qEa h)
theorem zQ5 {c:Cd} {r:Int}:(plG c r).1.length≤36:=by
 unfold plG
 split
 ·exact zGg.2
 ·have:=qR2 (c:=c) (n:=7) (by omega)
  rw[zD3];simp;omega
theorem zYb {c:Cd} (h:qB1 c):qB1 (vrG c).2:=by
 unfold vrG
 split
 ·exact qEa (qEa (qEa h))
 ·exact qEa (qEa h)
theorem zYc {c:Cd}:0≤(vrG c).1∧(vrG c).1≤1000000:=by
 unfold vrG
 split
 ·have:=qR2 (c:=(nx (nx c 5).2 9).2) (n:=3) (by omega)
  simp only;omega
 ·have:=qR2 (c:=c) (n:=5) (by omega)
  simp only;omega
theorem zVz {i:Nat}:qCk (nmL i)=true:=by unfold nmL;split<;>decide
theorem zFq {c:Cd} {r:Int} (h:qB1 c):qB1 (imG c r).2:=zV8 (zYb (qEa h))
theorem qZz {c:Cd} {r:Int}:(imG c r).1.1=r:=rfl
theorem zNz {c:Cd} {r:Int} (hr:1≤r∧r≤4):qEt (imG c r).1=0:=by
 have hv:=zYc (c:=(nx c 5).2)
 have hl:=zQ5 (c:=(vrG (nx c 5).2).2) (r:=r)
 unfold qEt imG
 simp only
 rw[if_neg (by unfold zNk;omega),zVz,if_neg (by decide),if_neg (by omega),if_neg]
 rintro⟨rfl,h⟩
 have hp:=zGg (c:=(vrG (nx c 5).2).2)
 have e:(plG (vrG (nx c 5).2).2 4).1=(qQu (vrG (nx c 5).2).2).1:=by unfold plG;rw[if_pos rfl]
 rw[e] at h
 omega
theorem xL {x:Im} (h:qEt x=0):(1≤x.1∧x.1≤4)∧(0≤x.2.2.1∧x.2.2.1≤1000000)∧qCk x.2.1=true∧x.2.2.2.length≤64∧(x.1=4→1≤(lnL x.2.2.2).length):=by
 unfold qEt at h
 split at h
 ·simp at h
 ·rename_i h1
  split at h
  ·simp at h
  ·rename_i h2
   split at h
   ·simp at h
   ·rename_i h3
    split at h
    ·simp at h
    ·rename_i h4
     unfold zNk at h1
     refine⟨by omega,by omega,by simpa using h2,by omega,fun h5=>?_⟩
     by_cases h6:(lnL x.2.2.2).length=0
     ·exact absurd ⟨h5,h6⟩ h4
     ·omega
theorem qFa {s:List UInt8} (h:qCk s=true):1≤s.length∧s.length≤12:=by
 unfold qCk at h
 simp only[Bool.and_eq_true,Bool.not_eq_true',decide_eq_false_iff_not] at h
 omega
theorem zNq {x:Im} (h:qEt x=0):imM x:=by
 obtain⟨h1,h2,h3,h4,h5⟩:=xL h
 have h6:=qFa h3
 exact⟨by omega,by omega,by unfold rI;omega,by unfold rI;omega⟩
def chP (l:List Im):Prop := ∀ r,chF [] (l++r)=chF l r
theorem zPa:chP []:=fun _=>rfl
theorem zJe {l:List Im} {x:Im} (h:chP l) (h1:qEt x=0) (h2 : ∀ y∈l,y.1≤x.1) (h3:isD l x=false):chP (l++[x]):=by
 intro r
 rw[List.append_assoc,h,List.cons_append,List.nil_append,chF,if_neg (by omega),if_neg,if_neg (by unfold isD at h3;rw[h3];decide)]
 rintro⟨h4,h5⟩
 have hg:l.getLastD (0,[],0,[])=l.getLast h4:=by
  rw[List.getLastD_eq_getLast?,List.getLast?_eq_some_getLast h4];rfl
 rw[hg] at h5
 have:=h2 _ (List.getLast_mem h4)
 omega
structure ChO (r:Int) (l:List Im):Prop where
 p:chP l
 ok : ∀ x∈l,qEt x=0
 le : ∀ x∈l,x.1≤r
theorem ChO.up {r q:Int} {l:List Im} (h:ChO r l) (hq:r≤q):ChO q l:=⟨h.p,h.ok,fun x hx=>by have:=h.le x hx;omega⟩
theorem zP6 {l:List Im} {x:Im} (h:isD l x=true) : ∃ y∈l,y.1=x.1:=by
 unfold isD at h
 obtain⟨y,hy,h2⟩:=List.any_eq_true.1 h
 simp only[Bool.and_eq_true,decide_eq_true_eq] at h2
 exact⟨y,hy,h2.1⟩
theorem zD9 {r:Int} (hr:1≤r∧r≤4) : ∀ {k:Nat} {c:Cd} {l:List Im},ChO r l→qB1 c→ChO r (chN k c r l).1∧qB1 (chN k c r l).2∧(∀ x∈l,x∈(chN k c r l).1)∧(chN k c r l).1.length≤l.length+k∧(1≤k → ∃ y∈(chN k c r l).1,y.1=r)
 | 0,c,l,h,hc=>⟨h,hc,fun _ hx=>hx,by simp[chN],by omega⟩
 | k+1,c,l,h,hc=>by
  unfold chN
  cases hd:isD l (imG c r).1
  ·have h':ChO r (l++[(imG c r).1]):=by
    refine⟨zJe h.p (zNz hr) (fun y hy=>h.le y hy) hd,fun x hx=>?_,fun x hx=>?_⟩
    ·simp only[List.mem_append,List.mem_cons,List.not_mem_nil,or_false] at hx
     rcases hx with hx | rfl
     ·exact h.ok x hx
     ·exact zNz hr
    ·simp only[List.mem_append,List.mem_cons,List.not_mem_nil,or_false] at hx
     rcases hx with hx | rfl
     ·exact h.le x hx
     ·exact Int.le_of_eq qZz
   obtain⟨g1,g2,g3,g4,g5⟩:=zD9 hr (k:=k) h' (zFq (r:=r) hc)
   rw[if_neg (by decide)]
   refine⟨g1,g2,fun x hx=>g3 x (by simp[hx]),by simp at g4;omega,fun _=>⟨_,g3 (imG c r).1 (by simp),qZz⟩⟩
  ·obtain⟨g1,g2,g3,g4,g5⟩:=zD9 hr (k:=k) h (zFq (r:=r) hc)
   rw[if_pos rfl]
   obtain⟨y,hy,hy2⟩:=zP6 hd
   exact⟨g1,g2,g3,by omega,fun _=>⟨y,g3 y hy,hy2⟩⟩
theorem zUe {c:Cd} {r:Int} (hc:qB1 c):qB1 (chK c r).2∧(chK c r).1≤2∧(r=1∨r=3→1≤(chK c r).1):=by
 unfold chK
 split
 ·have:=qR2 (c:=(nx c 3).2) (n:=2) (by omega)
  exact⟨qEa (qEa hc),by simp only;omega,fun _=>by simp only;omega⟩
 ·rename_i h
  have:=qR2 (c:=c) (n:=3) (by omega)
  exact⟨qEa hc,by omega,fun h'=>absurd h' h⟩
theorem qZj {r:Int} (hr:1≤r∧r≤4) {s:List Im×Cd} (h:ChO r s.1) (hc:qB1 s.2):ChO r (chR r s).1∧qB1 (chR r s).2∧(∀ x∈s.1,x∈(chR r s).1)∧(chR r s).1.length≤s.1.length+2∧(r=1∨r=3 → ∃ y∈(chR r s).1,y.1=r):=by
 obtain⟨k1,k2,k3⟩:=zUe (r:=r) hc
 obtain⟨g1,g2,g3,g4,g5⟩:=zD9 hr (k:=(chK s.2 r).1) h k1
 exact⟨g1,g2,g3,by unfold chR;omega,fun h=>g5 (k3 h)⟩
theorem zD8 {b:List UInt8}:qI6 (chG b)=0∧(∀ x∈chG b,qEt x=0)∧(chG b).length≤8:=by
 have c0:qB1 (b.take 200,0):=⟨Nat.zero_le _,by simp only[List.length_take];omega⟩
 obtain⟨a1,a2,a3,a4,a5⟩:=qZj (r:=1) (by omega) (s:=([],(b.take 200,0))) ⟨zPa,by simp,by simp⟩ c0
 obtain⟨b1,b2,b3,b4,b5⟩:=qZj (r:=2) (by omega) (a1.up (by omega)) a2
 obtain⟨c1,c2,c3,c4,c5⟩:=qZj (r:=3) (by omega) (b1.up (by omega)) b2
 obtain⟨d1,d2,d3,d4,d5⟩:=qZj (r:=4) (by omega) (c1.up (by omega)) c2
 have hg:(chR 4 (chR 3 (chR 2 (chR 1 ([],(b.take 200,0)))))).1=chG b:=rfl
 rw[hg] at d1 d3 d4
 simp only[List.length_nil] at a4
 obtain⟨y,hy,hy1⟩:=a5 (.inl rfl)
 obtain⟨z,hz,hz1⟩:=c5 (.inr rfl)
 have my:=d3 _ (c3 _ (b3 _ hy))
 have mz:=d3 _ hz
 refine⟨?_,d1.ok,by omega⟩
 have hp:0<(chG b).length:=List.length_pos_of_mem my
 unfold qI6
 rw[if_neg (by omega)]
 have:=d1.p []
 rw[List.append_nil] at this
 rw[this,chF,List.any_eq_true.2 ⟨y,my,by simp[hy1]⟩,List.any_eq_true.2 ⟨z,mz,by simp[hz1]⟩]
 rfl
theorem zNp : ∀ {l pre:List Im},chF pre l=0 → ∀ x∈l,qEt x=0
 | [],_,_,x,hx=>by simp at hx
 | y::l,pre,h,x,hx=>by
  unfold chF at h
  split at h
  ·omega
  ·rename_i h1
   split at h
   ·simp at h
   ·split at h
    ·simp at h
    ·rcases List.mem_cons.1 hx with rfl | hx
     ·omega
     ·exact zNp h x hx
theorem qMv {l:List Im} (h:qI6 l=0):(∀ x∈l,qEt x=0)∧1≤l.length∧l.length≤8:=by
 unfold qI6 at h
 split at h
 ·simp at h
 ·exact⟨zNp h,by omega⟩
def evV (act:Int) (e:Ev):Prop:=qEc e act=0∧evM e
theorem qZn {x:Im} {act:Int} {a:Nat} (h:qEt x=0):(qQh x act a).length=qCn 1 act a:=by
 have he:0<(qE2 x).length:=by
  unfold qE2
  rw[if_pos h]
  unfold zZg
  rw[yJ];omega
 unfold qQh qCn
 by_cases hb:act/2^a%2=1
 ·rw[if_pos ⟨he,hb⟩,if_pos ⟨by decide,hb⟩];exact kY
 ·rw[if_neg (fun h=>hb h.2),if_neg (fun h=>hb h.2)];rfl
theorem zKi {s:List UInt8} {n:Nat}:(zVi s n).length≤s.length+9:=by
 have:=qRq (k:=7) (n:=n)
 unfold zVi zDj
 simp only[List.length_append,List.length_cons,List.length_nil];omega
theorem zRs {r:Int} (h:1≤r∧r≤3):0≤zAh r∧zAh r≤11:=by
 unfold zAh
 split
 ·omega
 ·split
  ·omega
  ·split<;>omega
theorem zV2 {x:Im} {act:Int} (ha:1≤act∧act≤3) (h:qEt x=0) (h4:x.1≠4):evV act (ofI x act):=by
 obtain⟨h1,h2,h3,_,_⟩:=xL h
 have h6:=qFa h3
 have h7:=zKi (s:=x.2.1) (n:=x.2.2.1.toNat)
 have h8:=zRs (r:=x.1) (by omega)
 have d0:=qZn (act:=act) (a:=0) h
 have d1:=qZn (act:=act) (a:=1) h
 have w0:=qL3 (k:=1) (act:=act) (a:=0)
 have w1:=qL3 (k:=1) (act:=act) (a:=1)
 unfold ofI
 rw[if_neg (by omega)]
 refine⟨?_,⟨by simp,fun y hy=>?_⟩,by simp only;omega⟩
 ·unfold qEc
  simp only
  rw[if_neg (by unfold zI4;omega),if_neg (by omega),if_pos]
  rw[qRs,d0,d1,decide_eq_true rfl,decide_eq_true rfl];rfl
 ·simp only[List.mem_cons,List.not_mem_nil,or_false] at hy
  rcases hy with rfl | rfl<;>omega
theorem zVq {r k act:Int} {d:List UInt8} (hr:0≤r∧r≤11) (hk:1≤k∧k≤5) (ha:1≤act∧act≤3) (hd:d.length≤64):evV act (mkE r k act d):=⟨zVp hr hk ha hd,zZs (by omega)⟩
theorem qRr {act r:Int} {l:List Im} (ha:1≤act∧act≤3) (h : ∀ x∈l,qEt x=0) : ∀ e∈qHh act r l,evV act e:=by
 intro e he
 unfold qHh at he
 obtain⟨x,hx,he⟩:=List.mem_flatMap.1 he
 obtain⟨hx,hr⟩:=List.mem_filter.1 hx
 have hr:x.1=r:=by simpa using hr
 split at he
 ·obtain⟨s,hs,rfl⟩:=List.mem_map.1 he
  have:=zN5 s hs
  have:=(xL (h x hx)).2.2.2.1
  exact zVq (by omega) (by omega) ha (by omega)
 ·rename_i h4
  simp only[List.mem_cons,List.not_mem_nil,or_false] at he
  subst he
  exact zV2 ha (h x hx) (by omega)
theorem qZu {α γ:Type} {f:α→List γ} {n:Nat} : ∀ {l:List α},(∀ x∈l,(f x).length≤n)→(l.flatMap f).length≤l.length*n
 | [],_=>by simp
 | a::l,h=>by
  have h1:=h a (by simp)
  have h2:=qZu (l:=l) (fun x hx=>h x (by simp[hx]))
  rw[List.flatMap_cons,List.length_append,List.length_cons,Nat.add_mul]
  omega
theorem qZt {act r:Int} {l:List Im}:(qHh act r l).length≤(l.filter (fun x=>decide (x.1=r))).length*4:=by
 unfold qHh
 refine qZu (fun x _=>?_)
 split
 ·rw[List.length_map];exact qXf
 ·simp
theorem zMj {act:Int}:(zY1 act).length=8:=by simp[zY1]
theorem qZs {act:Int} {l:List Im}:8≤(qUe act l).length∧(qUe act l).length≤8+16*l.length:=by
 have f : ∀ r:Int,(qHh act r l).length≤l.length*4:=fun r=>Nat.le_trans qZt (Nat.mul_le_mul_right _ (List.length_filter_le _ _))
 have:=f 1
 have:=f 2
 have:=f 3
 have:=f 4
 unfold qUe
 simp only[List.length_append,zMj]
 omega
theorem zEu {act:Int} {l:List Im} (ha:1≤act∧act≤3) (h : ∀ x∈l,qEt x=0) : ∀ e∈qUe act l,evV act e:=by
 intro e he
 unfold qUe at he
 simp only[List.mem_append] at he
 rcases he with ((he | he) | he) | (he | he)
 ·exact qRr ha h e he
 ·exact qRr ha h e he
 ·unfold zY1 at he
  obtain⟨i,hi,rfl⟩:=List.mem_map.1 he
  have:=List.mem_range.1 hi
  exact zVq (by omega) (by omega) ha (by decide)
 ·exact qRr ha h e he
 ·exact qRr ha h e he
end Go.Eng
end
section
namespace Go.Eng
def qHn:AC:=
 (.seq
 (rG 4096 [oO 0 (.new 1 [(.t (zN [])),(.t (zN [])),(.t (zN [])),(.t (zN [])),(.t (zN []))]) []])
 (.seq
 (rG 8192 [oO 1 (.build [(.t (zN [])),(.t (zN [])),(.t (zN [])),(.t (zN [])),(.t (zN []))] [(0,1),(1,1),(2,1),(3,1),(4,1)]) [.cst (.t (zN [97])),.cst (.t (zN [103,114,117,98])),.cst (.t (zN [108,105,110,117,120])),.cst (.t (zN [110,101,116,45,48])),.cst (.t (zN [116,119,101,108,118,101,45,98,121,116,101,115]))],oS 5 0 1])
 .ret))
def yP (n_draw_Codes_Line:Nat):AC:=
 (.seq
 (.seq
 (rG 16384 [mv 8 4,bN 9 .gtr 8 0])
 (.cond (.tmp 9)
 .skip
 (.exit 0)))
 (.seq
 (.block 1
 (rG 24576 [mv 12 3,mv 13 0,cL 14 n_draw_Codes_Line true [.tmp 13],oO 15 (.append 1 1) [.tmp 12,.tmp 14],oO 16 (.bslice 1 1 (.t (qA 0)) [0]) [.cst (.t (qA 10))],oO 17 (.append 1 1) [.tmp 15,.tmp 16],mv 3 17]))
 (rG 20480 [mv 10 4,bN 11 .sub 10 1,mv 4 11])))
def xI (n_draw_Codes_Next n_draw_Codes_Line:Nat):AC:=
 (.seq
 (rG 4096 [mC 2 .nil])
 (.seq
 (rG 8192 [mC 3 .nil])
 (.seq
 (.seq
 (rG 12288 [mv 5 0,cL 6 n_draw_Codes_Next true [.tmp 5,.cst (.t (.int .i64 4))],oO 7 (.bin .add) [.cst (.t (.int .i64 1)),.tmp 6],mv 4 7])
 (.block 0
 (.loop (yP n_draw_Codes_Line))))
 (.seq
 (rG 28672 [mv 18 3,mv 2 18])
 .ret))))
def jL (n_draw_Codes_Next:Nat):AC:=
 (.seq
 (.seq
 (rG 40960 [mv 32 6,oO 33 (.faddr 3) [.tmp 5],oO 34 (.load 1 false) [.tmp 33],oO 35 .len [.tmp 34],bT 36 .lss 32 35])
 (.cond (.tmp 36)
 .skip
 (.exit 0)))
 (.seq
 (.block 1
 (.reg 49152 (some [0,1,0,0,8,24,63,127]) [oO 39 (.faddr 3) [.tmp 5],oO 40 (.load 1 false) [.tmp 39],mv 41 6,mv 42 0,cL 43 n_draw_Codes_Next true [.tmp 42,.cst (.t (.int .i64 256))],oO 44 (.conv .u8) [.tmp 43],oO 45 (.iaddr 1) [.tmp 40,.tmp 41],oS 1 45 44]))
 (rG 45056 [mv 37 6,bN 38 .add 37 1,mv 6 38])))
def yA (n_draw_names n_draw_Codes_Next n_draw_Codes_Payload:Nat):AC:=
 (.seq
 (rG 4096 [oO 4 (.new 4 [(.agg [(.t (.int .i64 0)),(.t (zN [])),(.t (.int .i64 0)),.nil])]) []])
 (.seq
 (.reg 8192 (some [0,0,0,6,14,0,46,127,0,511]) [mv 7 1,cL 8 n_draw_names false [],mv 9 0,cL 10 n_draw_Codes_Next true [.tmp 9,.cst (.t (.int .i64 5))],oO 11 (.index 5 1 false) [.tmp 8,.tmp 10],mv 12 0,cL 13 n_draw_Codes_Next true [.tmp 12,.cst (.t (.int .i64 5))],oO 14 (.build [(.t (.int .i64 0)),(.t (zN [])),(.t (.int .i64 0)),.nil] [(0,1),(1,1),(2,1)]) [.tmp 7,.tmp 11,.tmp 13],oO 5 (.new 4 [(.agg [(.t (.int .i64 0)),(.t (zN [])),(.t (.int .i64 0)),.nil])]) [],oS 4 5 14])
 (.seq
 (.seq
 (rG 12288 [mv 15 0,cL 16 n_draw_Codes_Next true [.tmp 15,.cst (.t (.int .i64 9))],bN 17 .eql 16 8])
 (.cond (.tmp 17)
 (rG 16384 [mv 18 0,cL 19 n_draw_Codes_Next true [.tmp 18,.cst (.t (.int .i64 3))],oO 20 (.bin .sub) [.cst (.t (.int .i64 1000000)),.tmp 19],oO 21 (.faddr 2) [.tmp 5],oS 1 21 20])
 .skip))
 (.seq
 (.seq
 (rG 20480 [mv 22 1,bN 23 .eql 22 4])
 (.cond (.tmp 23)
 (.seq
 (rG 24576 [mv 24 0,cL 25 n_draw_Codes_Payload true [.tmp 24],oO 26 (.faddr 3) [.tmp 5],oS 1 26 25])
 (.seq
 (rG 28672 [oO 27 (.load 4 true) [.tmp 5],oS 4 4 27])
 .ret))
 .skip))
 (.seq
 (rG 32768 [mv 28 0,cL 29 n_draw_Codes_Next true [.tmp 28,.cst (.t (.int .i64 7))],oO 30 (.mkslice 1 1 (.t (qA 0))) [.tmp 29,.tmp 29],oO 31 (.faddr 3) [.tmp 5],oS 1 31 30])
 (.seq
 (.seq
 (rG 36864 [mC 6 (.t (.int .i64 0))])
 (.block 0
 (.loop (jL n_draw_Codes_Next))))
 (.seq
 (rG 53248 [oO 46 (.load 4 true) [.tmp 5],oS 4 4 46])
 .ret)))))))
end Go.Eng
end
