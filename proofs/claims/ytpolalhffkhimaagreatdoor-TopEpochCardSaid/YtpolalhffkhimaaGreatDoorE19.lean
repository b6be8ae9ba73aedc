/- A part of an abstract machine, its walks, their tie. -/
import Derived.Test.YtpolalhffkhimaaGreatDoorE18
import Derived.Test.YtpolalhffkhimaaGreatDoorE9
import Derived.Test.YtpolalhffkhimaaGreatDoorE16
set_option linter.all false
section
set_option maxHeartbeats 64000000
set_option maxRecDepth 20000
namespace Go.Eng
variable (tab:Tab) (gl:Gl)
def qAm:Ct where
 α:=Int×Bool
 aS x:=[.t (.int .i64 x.1),.t (.bool x.2)]
 ins _:=[]
 pre _:=True
 r x:= .t (.int .i64 (qBr x.1 x.2))
 outs _:=[]
 inj:=by
  rintro⟨a,b⟩ ⟨c,d⟩ h _;simp at h;obtain⟨rfl,rfl⟩:=h;exact⟨rfl,rfl⟩
theorem qJz {i:Int}{rs:Bool}:qAm.fs [.t (.int .i64 i),.t (.bool rs)] []=some (.t (.int .i64 (qBr i rs)),[]):=qAm.eq (i,rs) trivial
def zNn (loc i:Int):Int:=if loc<0∨4<loc∨i<0∨16≤i then 1 else if loc<qBr i true then 13 else 0
def qVx (a:Nat)(b:qX)(i:Nat):qX:=if List.length b=16 then b.set i (List.replicate (szA a) 0) else b
def zIr (bk:List qX)(i:Nat):List qX:=match bk with
 | [b0,b1]=>[qVx 0 b0 i,qVx 1 b1 i]
 | bk=>bk
def jJk (bk:List qX)(u loc i:Int):V:=if zNn loc i=0 then .tup [.t (jT (zIr bk i.toNat) (u+1)),.t (.int .i64 0)] else .tup [.t (jT [] 0),.t (.int .i64 (zNn loc i))]
theorem yA {a:Nat}{b:qX}{i:Nat}:List.length (qVx a b i)=List.length b:=by
 unfold qVx;split<;>simp
theorem qJv (h1:LkC tab 234 vR)(h2:LkC tab 236 qAm)(bk:List qX)(u loc i:Int)(he:zNn loc i≠0):qZ.1.wp tab gl (qE 0 [.t (jT bk u),.t (.int .i64 loc),.t (.int .i64 i)]) (qE 0 []) (zA [(6,some (2,true)),(7,none)] 0 (fun r o=>r = .tup [.t (jT [] 0),.t (.int .i64 (zNn loc i))]∧o=[])):=by
 unfold zNn at he ⊢;by_cases a1:loc<0
 ·simp(disch:=omega)only[go_sem,qZ,a1,List.map_nil]
 ·by_cases a2:4<loc
  ·simp(disch:=omega)only[go_sem,qZ,a1,a2,List.map_nil]
  ·by_cases a3:i<0
   ·simp(disch:=omega)only[go_sem,qZ,a1,a2,a3,h1,qTw,List.map_nil]
   ·by_cases a4:16≤i
    ·simp(disch:=omega)only[go_sem,qZ,a1,a2,a3,a4,h1,qTw,List.map_nil]
    ·by_cases a5:loc<qBr i true
     ·simp(disch:=omega)only[go_sem,qZ,a1,a2,a3,a4,a5,h1,qG5,h2,qJz,List.map_nil]
     ·simp[a1,a2,a3,a4,a5] at he
theorem qO3 (h1:LkC tab 234 vR)(h2:LkC tab 236 qAm)(h3:LkC tab 233 vM)(u loc i:Int)(hu:0≤u∧u<1000000000)(he:zNn loc i=0):qZ.1.wp tab gl (qE 0 [.t (jT [] u),.t (.int .i64 loc),.t (.int .i64 i)]) (qE 0 []) (zA [(6,some (2,true)),(7,none)] 0 (fun r o=>r = .tup [.t (jT [] (u+1)),.t (.int .i64 0)]∧o=[])):=by
 unfold zNn at he;split at he
 ·omega
 ·split at he
  ·omega
  ·rename_i e1 e2;simp(disch:=omega)only[go_sem,qZ,h1,qG5,h2,qJz,h3,qY4,List.map_nil];refine qJ 1 ?_;simp(disch:=omega)only[go_sem,qF]
theorem qO4 (h1:LkC tab 234 vR)(h2:LkC tab 236 qAm)(h3:LkC tab 233 vM)(h4:LkC tab 235 qHr)(h5:LkC tab 131 kQ)(h6:LkC tab 167 vT)(b0 b1:qX)(u loc i:Int)(hu:0≤u∧u<1000000000)(hk:RM [b0,b1])(he:zNn loc i=0) :
  qZ.1.wp tab gl (qE 0 [.t (jT [b0,b1] u),.t (.int .i64 loc),.t (.int .i64 i)]) (qE 0 []) (zA [(6,some (2,true)),(7,none)] 0 (fun r o=>r = .tup [.t (jT (zIr [b0,b1] i.toNat) (u+1)),.t (.int .i64 0)]∧o=[])):=by
 have gg:qVm b0∧qVm b1:=by
  obtain⟨hrk,_⟩:=hk;cases hrk with
  | two _ _ h0 h1=>exact⟨h0,h1⟩
 obtain⟨g0,g1⟩:=gg;unfold zNn at he;split at he
 ·omega
 ·split at he
  ·omega
  ·rename_i e1 e2;obtain⟨n,rfl⟩:=Int.eq_ofNat_of_zero_le (show 0≤i by omega);simp(disch:=omega)only[go_sem,qZ,h1,qG5,h2,qJz,h3,jD hk,mcn];refine qB 2 (fun k=>match k with | 0=>[(2,.t (.int .i64 (n:Nat))),(3,.ref 4096 0 0),(6,.ref 4112 0 0),(8,.ref 24608 0 0),(31,.t (.int .i64 2)),(32,.t (.int .i64 0))] | 1=>[(2,.t (.int .i64 (n:Nat))),(3,.ref 4096 0 0),(6,.ref 4112 0 0),(8,.ref 24608 0 0),(31,.t (.int .i64 2)),(32,.t (.int .i64 1))] | _=>[(2,.t (.int .i64 (n:Nat))),(3,.ref 4096 0 0),(6,.ref 4112 0 0),(8,.ref 24608 0 0),(31,.t (.int .i64 2)),(32,.t (.int .i64 2))]) (fun k=>match k with | 0=>[(24608,.live 2 [.agg [.sl 24592 0 2,.t (.int .i64 u)]] true true),(24594,.live 1 (((b1).map bsT).map V.t) true false),(24593,.live 1 (((b0).map bsT).map V.t) true false),(24592,.live 1 [.sl 24593 0 (List.length b0),.sl 24594 0 (List.length b1)] true false),(4112,.live 2 [.agg [.nil,.t (.int .i64 0)]] true true),(4096,.live 2 [.t (jT [b0,b1] u)] true true)] | 1=>[(24608,.live 2 [.agg [.sl 24592 0 2,.t (.int .i64 u)]] true true),(24594,.live 1 (((b1).map bsT).map V.t) true false),(24593,.live 1 (((qVx 0 b0 n).map bsT).map V.t) true false),(24592,.live 1 [.sl 24593 0 (List.length b0),.sl 24594 0 (List.length b1)] true false),(4112,.live 2 [.agg [.nil,.t (.int .i64 0)]] true true),(4096,.live 2 [.t (jT [b0,b1] u)] true true)] | _=>[(24608,.live 2 [.agg [.sl 24592 0 2,.t (.int .i64 u)]] true true),(24594,.live 1 (((qVx 1 b1 n).map bsT).map V.t) true false),(24593,.live 1 (((qVx 0 b0 n).map bsT).map V.t) true false),(24592,.live 1 [.sl 24593 0 (List.length b0),.sl 24594 0 (List.length b1)] true false),(4112,.live 2 [.agg [.nil,.t (.int .i64 0)]] true true),(4096,.live 2 [.t (jT [b0,b1] u)] true true)]) ?_ (fun k hk2=>?_)
   ·refine qK.rd id ?_ ?_ rfl;all_goals simp(disch:=omega)only[go_sem,id]
   ·rcases (show k=0∨k=1∨k=2 by omega) with rfl | rfl | rfl
    ·rcases g0 with z0 | z0
     ·simp(disch:=omega)only[go_sem,z0,h5,h6,qO,qP,zD,zE,h4,vP hk.1,vQ hk.1,yA];refine qK.rd id ?_ ?_ rfl;all_goals simp(disch:=omega)only[go_sem,id,qVx,z0,yA]
     ·simp(disch:=omega)only[go_sem,z0,h5,h6,qO,qP,zD,zE,h4,vP hk.1,vQ hk.1,yA];repeat refine And.intro rfl ?_
      refine qK.cv (hv:=[]) [45184] id ?_ rfl;simp(maxSteps:=9^9)(disch:=try exact dS)only[go_sem,id,qVx,z0,List.take_replicate,Nat.min_self,yA,szA];all_goals rfl
    ·rcases g1 with z1 | z1
     ·simp(disch:=omega)only[go_sem,z1,h5,h6,qO,qP,zD,zE,h4,vP hk.1,vQ hk.1,yA];refine qK.rd id ?_ ?_ rfl;all_goals simp(disch:=omega)only[go_sem,id,qVx,z1,yA]
     ·simp(disch:=omega)only[go_sem,z1,h5,h6,qO,qP,zD,zE,h4,vP hk.1,vQ hk.1,yA];repeat refine And.intro rfl ?_
      refine qK.cv (hv:=[]) [45184] id ?_ rfl;simp(maxSteps:=9^9)(disch:=try exact dS)only[go_sem,id,qVx,z1,List.take_replicate,Nat.min_self,yA,szA];all_goals rfl
    ·have t0:List.take (List.length b0) (qVx 0 b0 n)=qVx 0 b0 n:=List.take_of_length_le (by rw[yA];exact Nat.le_refl _);have t1:List.take (List.length b1) (qVx 1 b1 n)=qVx 1 b1 n:=List.take_of_length_le (by rw[yA];exact Nat.le_refl _);simp(disch:=omega)only[go_sem,yA,t0,t1];rfl
def qJi (l0 l1:Nat)(loc i:Int)(nd k0 k1:Nat):Int:=
 if loc<0∨4<loc∨i<0∨16≤i∨nd≠2 then 1 else if loc<qBr i false then 13
 else if (l0≠16∧0<k0)∨(l1≠16∧0<k1) then 27 else if (l0=16∧k0≠20)∨(l1=16∧k1≠32) then 24 else 0
def qBz (a:Nat)(b:qX)(i:Nat)(d:List UInt8):qX:=if List.length b=16 then b.set i (jA8 a (b.getD i []++d)) else b
theorem qU {a:Nat}{b:qX}{i:Nat}{d:List UInt8}:List.length (qBz a b i d)=List.length b:=by
 unfold qBz;split<;>simp
def qRg (bk:List qX)(i:Nat)(ds:List (List UInt8)):List qX:=match bk with
 | [b0,b1]=>[qBz 0 b0 i (ds.getD 0 []),qBz 1 b1 i (ds.getD 1 [])]
 | bk=>bk
def qJ8 (bk:List qX)(loc i:Int)(ds:List (List UInt8)):Int:=qJi (bk.getD 0 []).length (bk.getD 1 []).length loc i ds.length (ds.getD 0 []).length (ds.getD 1 []).length
def qRh (bk:List qX)(u loc i:Int)(ds:List (List UInt8)):V:=
 if qJi (bk.getD 0 []).length (bk.getD 1 []).length loc i ds.length (ds.getD 0 []).length (ds.getD 1 []).length=0 then .tup [.t (jT (qRg bk i.toNat ds) (u+1)),.t (.int .i64 0)]
 else .tup [.t (jT [] 0),.t (.int .i64 (qJi (bk.getD 0 []).length (bk.getD 1 []).length loc i ds.length (ds.getD 0 []).length (ds.getD 1 []).length))]
theorem zOn {x:List UInt8}:jA8 0 x=zC1 x:=rfl
theorem zOo {x:List UInt8}:jA8 1 x=jQ x:=rfl
theorem qBx {x:List UInt8}:List.take 20 (zC1 x)=zC1 x:=List.take_of_length_le (by rw[yC];exact Nat.le_refl _)
theorem wF {x:List UInt8}:List.take 32 (jQ x)=jQ x:=List.take_of_length_le (by rw[qM];exact Nat.le_refl _)
theorem qNb (h1:LkC tab 234 vR)(h2:LkC tab 236 qAm)(h3:LkC tab 235 qHr)(h4:LkC tab 131 kQ)(h5:LkC tab 233 vM)(h6:LkC tab 125 qDq)
  (b0 b1:qX) (u loc:Int) (n:Nat) (d0 d1:List UInt8) (hu:0≤u∧u<1000000000) (hk:RM [b0,b1]) (hv0:(b0.getD n []).length≤64) (hv1:(b1.getD n []).length≤64) (hd:d0.length<9223372036854775808∧d1.length<9223372036854775808) (e1 : ¬(loc<0∨4<loc∨16≤n)) (e2 : ¬ loc<qBr n false) :
  qW.1.wp tab gl (qE 0 [.t (jT [b0,b1] u),.t (.int .i64 loc),.t (.int .i64 n),.t (.sl [bsT d0,bsT d1])]) (qE 0 []) (zA [(8,some (2,true)),(9,none)] 0 (fun r o=>r=qRh [b0,b1] u loc n [d0,d1]∧o=[])):=by
 have gg:qVm b0∧qVm b1:=by
  obtain⟨hrk,_⟩:=hk;cases hrk with
  | two _ _ h0 h1=>exact⟨h0,h1⟩
 obtain⟨g0,g1⟩:=gg;simp(disch:=omega)only[go_sem,qW,h1,qG5,h2,qJz,mcn];refine qC5 (fs':=[(2,.t (.int .i64 (n:Nat))),(3,.t (.sl [bsT d0,bsT d1])),(4,.ref 4096 0 0),(8,.ref 4112 0 0),(38,.t (.sl [bsT d0,bsT d1])),(39,.t (.int .i64 2)),(40,.t (.int .i64 0))]) (hs':=[(4112,.live 2 [.agg [.nil,.t (.int .i64 0)]] true true),(4096,.live 2 [.t (jT [b0,b1] u)] true true)]) (qK.rd id ?_ ?_ rfl) ?_
 ·simp(disch:=omega)only[go_sem,id]
 ·simp(disch:=omega)only[go_sem,id]
 rcases g0 with z0 | z0<;>rcases g1 with z1 | z1
 ·have zz:True:=trivial;by_cases p2:0<d0.length
  ·have zz:True:=trivial;have hE:qJi 0 0 loc n 2 d0.length d1.length=27:=by unfold qJi;rw[if_neg oM,if_neg oM,if_pos oM]
   refine qJ 3 ?_;simp(disch:=omega)only[go_sem,qF,h3,vP hk.1,vQ hk.1,h4,qO,qP,h5,jD hk,h6,zI,zC,z0,z1,hE,List.map_nil,qRh,qJ8,List.getD_cons_zero,List.getD_cons_succ,List.length_cons,List.length_nil];all_goals repeat refine And.intro rfl ?_
   all_goals rfl
  ·have zz:True:=trivial;by_cases p1:0<d1.length
   ·have zz:True:=trivial;have hE:qJi 0 0 loc n 2 d0.length d1.length=27:=by unfold qJi;rw[if_neg oM,if_neg oM,if_pos oM]
    refine qJ 3 ?_;simp(disch:=omega)only[go_sem,qF,h3,vP hk.1,vQ hk.1,h4,qO,qP,h5,jD hk,h6,zI,zC,z0,z1,hE,List.map_nil,qRh,qJ8,List.getD_cons_zero,List.getD_cons_succ,List.length_cons,List.length_nil];all_goals repeat refine And.intro rfl ?_
    all_goals rfl
   ·have zz:True:=trivial;refine qJ 3 ?_;simp(disch:=omega)only[go_sem,qF,h3,vP hk.1,vQ hk.1,h4,qO,qP,h5,jD hk,h6,zI,zC,z0,z1];all_goals repeat refine And.intro rfl ?_
    refine qC5 (fs':=[(2,.t (.int .i64 (n:Nat))),(3,.t (.sl [bsT d0,bsT d1])),(4,.ref 4096 0 0),(8,.ref 4112 0 0),(56,.t (.sl [bsT d0,bsT d1])),(57,.t (.int .i64 2)),(58,.t (.int .i64 0))]) (hs':=[(4112,.live 2 [.agg [.nil,.t (.int .i64 0)]] true true),(4096,.live 2 [.t (jT [b0,b1] u)] true true)]) (qK.rd id ?_ ?_ rfl) ?_
    ·simp(disch:=omega)only[go_sem,id]
    ·simp(disch:=omega)only[go_sem,id]
    have hE:qJi 0 0 loc n 2 d0.length d1.length=0:=by unfold qJi;rw[if_neg oM,if_neg oM,if_neg oM,if_neg oM]
    refine qJ 3 ?_;simp(disch:=omega)only[go_sem,qF,h3,vP hk.1,vQ hk.1,h4,qO,qP,h5,jD hk,h6,zI,zC,z0,z1];all_goals repeat refine And.intro rfl ?_
    refine qB 2 (fun k=>match k with | 0=>[(2,.t (.int .i64 (n:Nat))),(3,.t (.sl [bsT d0,bsT d1])),(4,.ref 4096 0 0),(8,.ref 4112 0 0),(14,.ref 73760 0 0),(79,.t (.int .i64 2)),(80,.t (.int .i64 0))] | 1=>[(2,.t (.int .i64 (n:Nat))),(3,.t (.sl [bsT d0,bsT d1])),(4,.ref 4096 0 0),(8,.ref 4112 0 0),(14,.ref 73760 0 0),(79,.t (.int .i64 2)),(80,.t (.int .i64 1))] | _=>[(2,.t (.int .i64 (n:Nat))),(3,.t (.sl [bsT d0,bsT d1])),(4,.ref 4096 0 0),(8,.ref 4112 0 0),(14,.ref 73760 0 0),(79,.t (.int .i64 2)),(80,.t (.int .i64 2))]) (fun k=>match k with | 0=>[(73760,.live 2 [.agg [.sl 73744 0 2,.t (.int .i64 u)]] true true),(73746,.live 1 (((b1).map bsT).map V.t) true false),(73745,.live 1 (((b0).map bsT).map V.t) true false),(73744,.live 1 [.sl 73745 0 0,.sl 73746 0 0] true false),(4112,.live 2 [.agg [.nil,.t (.int .i64 0)]] true true),(4096,.live 2 [.t (jT [b0,b1] u)] true true)] | 1=>[(73760,.live 2 [.agg [.sl 73744 0 2,.t (.int .i64 u)]] true true),(73746,.live 1 (((b1).map bsT).map V.t) true false),(73745,.live 1 (((qBz 0 b0 n d0).map bsT).map V.t) true false),(73744,.live 1 [.sl 73745 0 0,.sl 73746 0 0] true false),(4112,.live 2 [.agg [.nil,.t (.int .i64 0)]] true true),(4096,.live 2 [.t (jT [b0,b1] u)] true true)] | _=>[(73760,.live 2 [.agg [.sl 73744 0 2,.t (.int .i64 u)]] true true),(73746,.live 1 (((qBz 1 b1 n d1).map bsT).map V.t) true false),(73745,.live 1 (((qBz 0 b0 n d0).map bsT).map V.t) true false),(73744,.live 1 [.sl 73745 0 0,.sl 73746 0 0] true false),(4112,.live 2 [.agg [.nil,.t (.int .i64 0)]] true true),(4096,.live 2 [.t (jT [b0,b1] u)] true true)]) ?_ (fun k hk2=>?_)
    ·refine qK.rd id ?_ ?_ rfl;all_goals simp(disch:=omega)only[go_sem,id,z0,z1]
    ·rcases (show k=0∨k=1∨k=2 by omega) with rfl | rfl | rfl
     ·have q:=List.take_of_length_le (show (b0.getD n []++d0).length≤(List.getD b0 n []).length+d0.length by rw[List.length_append];exact Nat.le_refl _);simp(disch:=omega)only[go_sem,h3,vP hk.1,vQ hk.1,h4,qO,qP,h5,jD hk,h6,zI,zC,z0,z1,qU,q];refine qK.rd id ?_ ?_ rfl;all_goals simp(disch:=omega)only[go_sem,id,qBz,z0,z1]
     ·have q:=List.take_of_length_le (show (b1.getD n []++d1).length≤(List.getD b1 n []).length+d1.length by rw[List.length_append];exact Nat.le_refl _);simp(disch:=omega)only[go_sem,h3,vP hk.1,vQ hk.1,h4,qO,qP,h5,jD hk,h6,zI,zC,z0,z1,qU,q];refine qK.rd id ?_ ?_ rfl;all_goals simp(disch:=omega)only[go_sem,id,qBz,z0,z1]
     ·have t0:List.take 0 (qBz 0 b0 n d0)=qBz 0 b0 n d0:=List.take_of_length_le (by rw[qU,z0];exact Nat.le_refl _);have t1:List.take 0 (qBz 1 b1 n d1)=qBz 1 b1 n d1:=List.take_of_length_le (by rw[qU,z1];exact Nat.le_refl _);have y0:qBz 0 b0 n d0=[]:=List.eq_nil_of_length_eq_zero (by rw[qU,z0]);have y1:qBz 1 b1 n d1=[]:=List.eq_nil_of_length_eq_zero (by rw[qU,z1]);simp(disch:=omega)only[go_sem,qU,t0,t1,z0,z1,hE,qRg,Int.toNat_natCast,mcn,y0,y1,qRh,qJ8,List.getD_cons_zero,List.getD_cons_succ,List.length_cons,List.length_nil]
 ·have zz:True:=trivial;by_cases p1:0<d0.length
  ·have zz:True:=trivial;have hE:qJi 0 16 loc n 2 d0.length d1.length=27:=by unfold qJi;rw[if_neg oM,if_neg oM,if_pos oM]
   refine qJ 3 ?_;simp(disch:=omega)only[go_sem,qF,h3,vP hk.1,vQ hk.1,h4,qO,qP,h5,jD hk,h6,zI,zC,z0,z1,hE,List.map_nil,qRh,qJ8,List.getD_cons_zero,List.getD_cons_succ,List.length_cons,List.length_nil];all_goals repeat refine And.intro rfl ?_
   all_goals rfl
  ·have zz:True:=trivial;refine qJ 3 ?_;simp(disch:=omega)only[go_sem,qF,h3,vP hk.1,vQ hk.1,h4,qO,qP,h5,jD hk,h6,zI,zC,z0,z1];all_goals repeat refine And.intro rfl ?_
   refine qC5 (fs':=[(2,.t (.int .i64 (n:Nat))),(3,.t (.sl [bsT d0,bsT d1])),(4,.ref 4096 0 0),(8,.ref 4112 0 0),(56,.t (.sl [bsT d0,bsT d1])),(57,.t (.int .i64 2)),(58,.t (.int .i64 0))]) (hs':=[(4112,.live 2 [.agg [.nil,.t (.int .i64 0)]] true true),(4096,.live 2 [.t (jT [b0,b1] u)] true true)]) (qK.rd id ?_ ?_ rfl) ?_
   ·simp(disch:=omega)only[go_sem,id]
   ·simp(disch:=omega)only[go_sem,id]
   by_cases q1:d1.length≠32
   ·have zz:True:=trivial;have hE:qJi 0 16 loc n 2 d0.length d1.length=24:=by unfold qJi;rw[if_neg oM,if_neg oM,if_neg oM,if_pos oM]
    refine qJ 3 ?_;simp(disch:=omega)only[go_sem,qF,h3,vP hk.1,vQ hk.1,h4,qO,qP,h5,jD hk,h6,zI,zC,z0,z1,hE,List.map_nil,qRh,qJ8,List.getD_cons_zero,List.getD_cons_succ,List.length_cons,List.length_nil];all_goals repeat refine And.intro rfl ?_
    all_goals rfl
   ·have zz:True:=trivial;have hE:qJi 0 16 loc n 2 d0.length d1.length=0:=by unfold qJi;rw[if_neg oM,if_neg oM,if_neg oM,if_neg oM]
    refine qJ 3 ?_;simp(disch:=omega)only[go_sem,qF,h3,vP hk.1,vQ hk.1,h4,qO,qP,h5,jD hk,h6,zI,zC,z0,z1];all_goals repeat refine And.intro rfl ?_
    refine qB 2 (fun k=>match k with | 0=>[(2,.t (.int .i64 (n:Nat))),(3,.t (.sl [bsT d0,bsT d1])),(4,.ref 4096 0 0),(8,.ref 4112 0 0),(14,.ref 73760 0 0),(79,.t (.int .i64 2)),(80,.t (.int .i64 0))] | 1=>[(2,.t (.int .i64 (n:Nat))),(3,.t (.sl [bsT d0,bsT d1])),(4,.ref 4096 0 0),(8,.ref 4112 0 0),(14,.ref 73760 0 0),(79,.t (.int .i64 2)),(80,.t (.int .i64 1))] | _=>[(2,.t (.int .i64 (n:Nat))),(3,.t (.sl [bsT d0,bsT d1])),(4,.ref 4096 0 0),(8,.ref 4112 0 0),(14,.ref 73760 0 0),(79,.t (.int .i64 2)),(80,.t (.int .i64 2))]) (fun k=>match k with | 0=>[(73760,.live 2 [.agg [.sl 73744 0 2,.t (.int .i64 u)]] true true),(73746,.live 1 (((b1).map bsT).map V.t) true false),(73745,.live 1 (((b0).map bsT).map V.t) true false),(73744,.live 1 [.sl 73745 0 0,.sl 73746 0 16] true false),(4112,.live 2 [.agg [.nil,.t (.int .i64 0)]] true true),(4096,.live 2 [.t (jT [b0,b1] u)] true true)] | 1=>[(73760,.live 2 [.agg [.sl 73744 0 2,.t (.int .i64 u)]] true true),(73746,.live 1 (((b1).map bsT).map V.t) true false),(73745,.live 1 (((qBz 0 b0 n d0).map bsT).map V.t) true false),(73744,.live 1 [.sl 73745 0 0,.sl 73746 0 16] true false),(4112,.live 2 [.agg [.nil,.t (.int .i64 0)]] true true),(4096,.live 2 [.t (jT [b0,b1] u)] true true)] | _=>[(73760,.live 2 [.agg [.sl 73744 0 2,.t (.int .i64 u)]] true true),(73746,.live 1 (((qBz 1 b1 n d1).map bsT).map V.t) true false),(73745,.live 1 (((qBz 0 b0 n d0).map bsT).map V.t) true false),(73744,.live 1 [.sl 73745 0 0,.sl 73746 0 16] true false),(4112,.live 2 [.agg [.nil,.t (.int .i64 0)]] true true),(4096,.live 2 [.t (jT [b0,b1] u)] true true)]) ?_ (fun k hk2=>?_)
    ·refine qK.rd id ?_ ?_ rfl;all_goals simp(disch:=omega)only[go_sem,id,z0,z1]
    ·rcases (show k=0∨k=1∨k=2 by omega) with rfl | rfl | rfl
     ·have q:=List.take_of_length_le (show (b0.getD n []++d0).length≤(List.getD b0 n []).length+d0.length by rw[List.length_append];exact Nat.le_refl _);simp(disch:=omega)only[go_sem,h3,vP hk.1,vQ hk.1,h4,qO,qP,h5,jD hk,h6,zI,zC,z0,z1,qU,q];refine qK.rd id ?_ ?_ rfl;all_goals simp(disch:=omega)only[go_sem,id,qBz,z0,z1]
     ·have q:=List.take_of_length_le (show (b1.getD n []++d1).length≤(List.getD b1 n []).length+d1.length by rw[List.length_append];exact Nat.le_refl _);simp(maxSteps:=9^9)(disch:=try exact dS)only[go_sem,h3,vP hk.1,vQ hk.1,h4,qO,qP,h5,jD hk,h6,zI,zC,z0,z1,qU,q];repeat refine And.intro rfl ?_
      refine qK.cv (hv:=[]) [94544] id ?_ rfl;simp(maxSteps:=9^9)(disch:=try exact dS)only[go_sem,id,qBz,z0,z1,qBx,wF,zOn,zOo,yC,qM];all_goals rfl
     ·have t0:List.take 0 (qBz 0 b0 n d0)=qBz 0 b0 n d0:=List.take_of_length_le (by rw[qU,z0];exact Nat.le_refl _);have t1:List.take 16 (qBz 1 b1 n d1)=qBz 1 b1 n d1:=List.take_of_length_le (by rw[qU,z1];exact Nat.le_refl _);have y0:qBz 0 b0 n d0=[]:=List.eq_nil_of_length_eq_zero (by rw[qU,z0]);simp(disch:=omega)only[go_sem,qU,t0,t1,z0,z1,hE,qRg,Int.toNat_natCast,mcn,y0,qRh,qJ8,List.getD_cons_zero,List.getD_cons_succ,List.length_cons,List.length_nil]
 ·have zz:True:=trivial;by_cases p1:0<d1.length
  ·have zz:True:=trivial;have hE:qJi 16 0 loc n 2 d0.length d1.length=27:=by unfold qJi;rw[if_neg oM,if_neg oM,if_pos oM]
   refine qJ 3 ?_;simp(disch:=omega)only[go_sem,qF,h3,vP hk.1,vQ hk.1,h4,qO,qP,h5,jD hk,h6,zI,zC,z0,z1,hE,List.map_nil,qRh,qJ8,List.getD_cons_zero,List.getD_cons_succ,List.length_cons,List.length_nil];all_goals repeat refine And.intro rfl ?_
   all_goals rfl
  ·have zz:True:=trivial;refine qJ 3 ?_;simp(disch:=omega)only[go_sem,qF,h3,vP hk.1,vQ hk.1,h4,qO,qP,h5,jD hk,h6,zI,zC,z0,z1];all_goals repeat refine And.intro rfl ?_
   refine qC5 (fs':=[(2,.t (.int .i64 (n:Nat))),(3,.t (.sl [bsT d0,bsT d1])),(4,.ref 4096 0 0),(8,.ref 4112 0 0),(56,.t (.sl [bsT d0,bsT d1])),(57,.t (.int .i64 2)),(58,.t (.int .i64 0))]) (hs':=[(4112,.live 2 [.agg [.nil,.t (.int .i64 0)]] true true),(4096,.live 2 [.t (jT [b0,b1] u)] true true)]) (qK.rd id ?_ ?_ rfl) ?_
   ·simp(disch:=omega)only[go_sem,id]
   ·simp(disch:=omega)only[go_sem,id]
   by_cases q1:d0.length≠20
   ·have zz:True:=trivial;have hE:qJi 16 0 loc n 2 d0.length d1.length=24:=by unfold qJi;rw[if_neg oM,if_neg oM,if_neg oM,if_pos oM]
    refine qJ 3 ?_;simp(disch:=omega)only[go_sem,qF,h3,vP hk.1,vQ hk.1,h4,qO,qP,h5,jD hk,h6,zI,zC,z0,z1,hE,List.map_nil,qRh,qJ8,List.getD_cons_zero,List.getD_cons_succ,List.length_cons,List.length_nil];all_goals repeat refine And.intro rfl ?_
    all_goals rfl
   ·have zz:True:=trivial;have hE:qJi 16 0 loc n 2 d0.length d1.length=0:=by unfold qJi;rw[if_neg oM,if_neg oM,if_neg oM,if_neg oM]
    refine qJ 3 ?_;simp(disch:=omega)only[go_sem,qF,h3,vP hk.1,vQ hk.1,h4,qO,qP,h5,jD hk,h6,zI,zC,z0,z1];all_goals repeat refine And.intro rfl ?_
    refine qB 2 (fun k=>match k with | 0=>[(2,.t (.int .i64 (n:Nat))),(3,.t (.sl [bsT d0,bsT d1])),(4,.ref 4096 0 0),(8,.ref 4112 0 0),(14,.ref 73760 0 0),(79,.t (.int .i64 2)),(80,.t (.int .i64 0))] | 1=>[(2,.t (.int .i64 (n:Nat))),(3,.t (.sl [bsT d0,bsT d1])),(4,.ref 4096 0 0),(8,.ref 4112 0 0),(14,.ref 73760 0 0),(79,.t (.int .i64 2)),(80,.t (.int .i64 1))] | _=>[(2,.t (.int .i64 (n:Nat))),(3,.t (.sl [bsT d0,bsT d1])),(4,.ref 4096 0 0),(8,.ref 4112 0 0),(14,.ref 73760 0 0),(79,.t (.int .i64 2)),(80,.t (.int .i64 2))]) (fun k=>match k with | 0=>[(73760,.live 2 [.agg [.sl 73744 0 2,.t (.int .i64 u)]] true true),(73746,.live 1 (((b1).map bsT).map V.t) true false),(73745,.live 1 (((b0).map bsT).map V.t) true false),(73744,.live 1 [.sl 73745 0 16,.sl 73746 0 0] true false),(4112,.live 2 [.agg [.nil,.t (.int .i64 0)]] true true),(4096,.live 2 [.t (jT [b0,b1] u)] true true)] | 1=>[(73760,.live 2 [.agg [.sl 73744 0 2,.t (.int .i64 u)]] true true),(73746,.live 1 (((b1).map bsT).map V.t) true false),(73745,.live 1 (((qBz 0 b0 n d0).map bsT).map V.t) true false),(73744,.live 1 [.sl 73745 0 16,.sl 73746 0 0] true false),(4112,.live 2 [.agg [.nil,.t (.int .i64 0)]] true true),(4096,.live 2 [.t (jT [b0,b1] u)] true true)] | _=>[(73760,.live 2 [.agg [.sl 73744 0 2,.t (.int .i64 u)]] true true),(73746,.live 1 (((qBz 1 b1 n d1).map bsT).map V.t) true false),(73745,.live 1 (((qBz 0 b0 n d0).map bsT).map V.t) true false),(73744,.live 1 [.sl 73745 0 16,.sl 73746 0 0] true false),(4112,.live 2 [.agg [.nil,.t (.int .i64 0)]] true true),(4096,.live 2 [.t (jT [b0,b1] u)] true true)]) ?_ (fun k hk2=>?_)
    ·refine qK.rd id ?_ ?_ rfl;all_goals simp(disch:=omega)only[go_sem,id,z0,z1]
    ·rcases (show k=0∨k=1∨k=2 by omega) with rfl | rfl | rfl
     ·have q:=List.take_of_length_le (show (b0.getD n []++d0).length≤(List.getD b0 n []).length+d0.length by rw[List.length_append];exact Nat.le_refl _);simp(maxSteps:=9^9)(disch:=try exact dS)only[go_sem,h3,vP hk.1,vQ hk.1,h4,qO,qP,h5,jD hk,h6,zI,zC,z0,z1,qU,q];repeat refine And.intro rfl ?_
      refine qK.cv (hv:=[]) [94544] id ?_ rfl;simp(maxSteps:=9^9)(disch:=try exact dS)only[go_sem,id,qBz,z0,z1,qBx,wF,zOn,zOo,yC,qM];all_goals rfl
     ·have q:=List.take_of_length_le (show (b1.getD n []++d1).length≤(List.getD b1 n []).length+d1.length by rw[List.length_append];exact Nat.le_refl _);simp(disch:=omega)only[go_sem,h3,vP hk.1,vQ hk.1,h4,qO,qP,h5,jD hk,h6,zI,zC,z0,z1,qU,q];refine qK.rd id ?_ ?_ rfl;all_goals simp(disch:=omega)only[go_sem,id,qBz,z0,z1]
     ·have t0:List.take 16 (qBz 0 b0 n d0)=qBz 0 b0 n d0:=List.take_of_length_le (by rw[qU,z0];exact Nat.le_refl _);have t1:List.take 0 (qBz 1 b1 n d1)=qBz 1 b1 n d1:=List.take_of_length_le (by rw[qU,z1];exact Nat.le_refl _);have y1:qBz 1 b1 n d1=[]:=List.eq_nil_of_length_eq_zero (by rw[qU,z1]);simp(disch:=omega)only[go_sem,qU,t0,t1,z0,z1,hE,qRg,Int.toNat_natCast,mcn,y1,qRh,qJ8,List.getD_cons_zero,List.getD_cons_succ,List.length_cons,List.length_nil]
 ·have zz:True:=trivial;refine qJ 3 ?_;simp(disch:=omega)only[go_sem,qF,h3,vP hk.1,vQ hk.1,h4,qO,qP,h5,jD hk,h6,zI,zC,z0,z1];all_goals repeat refine And.intro rfl ?_
  refine qC5 (fs':=[(2,.t (.int .i64 (n:Nat))),(3,.t (.sl [bsT d0,bsT d1])),(4,.ref 4096 0 0),(8,.ref 4112 0 0),(56,.t (.sl [bsT d0,bsT d1])),(57,.t (.int .i64 2)),(58,.t (.int .i64 0))]) (hs':=[(4112,.live 2 [.agg [.nil,.t (.int .i64 0)]] true true),(4096,.live 2 [.t (jT [b0,b1] u)] true true)]) (qK.rd id ?_ ?_ rfl) ?_
  ·simp(disch:=omega)only[go_sem,id]
  ·simp(disch:=omega)only[go_sem,id]
  by_cases q2:d0.length≠20
  ·have zz:True:=trivial;have hE:qJi 16 16 loc n 2 d0.length d1.length=24:=by unfold qJi;rw[if_neg oM,if_neg oM,if_neg oM,if_pos oM]
   refine qJ 3 ?_;simp(disch:=omega)only[go_sem,qF,h3,vP hk.1,vQ hk.1,h4,qO,qP,h5,jD hk,h6,zI,zC,z0,z1,hE,List.map_nil,qRh,qJ8,List.getD_cons_zero,List.getD_cons_succ,List.length_cons,List.length_nil];all_goals repeat refine And.intro rfl ?_
   all_goals rfl
  ·have zz:True:=trivial;by_cases q1:d1.length≠32
   ·have zz:True:=trivial;have hE:qJi 16 16 loc n 2 d0.length d1.length=24:=by unfold qJi;rw[if_neg oM,if_neg oM,if_neg oM,if_pos oM]
    refine qJ 3 ?_;simp(disch:=omega)only[go_sem,qF,h3,vP hk.1,vQ hk.1,h4,qO,qP,h5,jD hk,h6,zI,zC,z0,z1,hE,List.map_nil,qRh,qJ8,List.getD_cons_zero,List.getD_cons_succ,List.length_cons,List.length_nil];all_goals repeat refine And.intro rfl ?_
    all_goals rfl
   ·have zz:True:=trivial;have hE:qJi 16 16 loc n 2 d0.length d1.length=0:=by unfold qJi;rw[if_neg oM,if_neg oM,if_neg oM,if_neg oM]
    refine qJ 3 ?_;simp(disch:=omega)only[go_sem,qF,h3,vP hk.1,vQ hk.1,h4,qO,qP,h5,jD hk,h6,zI,zC,z0,z1];all_goals repeat refine And.intro rfl ?_
    refine qB 2 (fun k=>match k with | 0=>[(2,.t (.int .i64 (n:Nat))),(3,.t (.sl [bsT d0,bsT d1])),(4,.ref 4096 0 0),(8,.ref 4112 0 0),(14,.ref 73760 0 0),(79,.t (.int .i64 2)),(80,.t (.int .i64 0))] | 1=>[(2,.t (.int .i64 (n:Nat))),(3,.t (.sl [bsT d0,bsT d1])),(4,.ref 4096 0 0),(8,.ref 4112 0 0),(14,.ref 73760 0 0),(79,.t (.int .i64 2)),(80,.t (.int .i64 1))] | _=>[(2,.t (.int .i64 (n:Nat))),(3,.t (.sl [bsT d0,bsT d1])),(4,.ref 4096 0 0),(8,.ref 4112 0 0),(14,.ref 73760 0 0),(79,.t (.int .i64 2)),(80,.t (.int .i64 2))]) (fun k=>match k with | 0=>[(73760,.live 2 [.agg [.sl 73744 0 2,.t (.int .i64 u)]] true true),(73746,.live 1 (((b1).map bsT).map V.t) true false),(73745,.live 1 (((b0).map bsT).map V.t) true false),(73744,.live 1 [.sl 73745 0 16,.sl 73746 0 16] true false),(4112,.live 2 [.agg [.nil,.t (.int .i64 0)]] true true),(4096,.live 2 [.t (jT [b0,b1] u)] true true)] | 1=>[(73760,.live 2 [.agg [.sl 73744 0 2,.t (.int .i64 u)]] true true),(73746,.live 1 (((b1).map bsT).map V.t) true false),(73745,.live 1 (((qBz 0 b0 n d0).map bsT).map V.t) true false),(73744,.live 1 [.sl 73745 0 16,.sl 73746 0 16] true false),(4112,.live 2 [.agg [.nil,.t (.int .i64 0)]] true true),(4096,.live 2 [.t (jT [b0,b1] u)] true true)] | _=>[(73760,.live 2 [.agg [.sl 73744 0 2,.t (.int .i64 u)]] true true),(73746,.live 1 (((qBz 1 b1 n d1).map bsT).map V.t) true false),(73745,.live 1 (((qBz 0 b0 n d0).map bsT).map V.t) true false),(73744,.live 1 [.sl 73745 0 16,.sl 73746 0 16] true false),(4112,.live 2 [.agg [.nil,.t (.int .i64 0)]] true true),(4096,.live 2 [.t (jT [b0,b1] u)] true true)]) ?_ (fun k hk2=>?_)
    ·refine qK.rd id ?_ ?_ rfl;all_goals simp(disch:=omega)only[go_sem,id,z0,z1]
    ·rcases (show k=0∨k=1∨k=2 by omega) with rfl | rfl | rfl
     ·have q:=List.take_of_length_le (show (b0.getD n []++d0).length≤(List.getD b0 n []).length+d0.length by rw[List.length_append];exact Nat.le_refl _);simp(maxSteps:=9^9)(disch:=try exact dS)only[go_sem,h3,vP hk.1,vQ hk.1,h4,qO,qP,h5,jD hk,h6,zI,zC,z0,z1,qU,q];repeat refine And.intro rfl ?_
      refine qK.cv (hv:=[]) [94544] id ?_ rfl;simp(maxSteps:=9^9)(disch:=try exact dS)only[go_sem,id,qBz,z0,z1,qBx,wF,zOn,zOo,yC,qM];all_goals rfl
     ·have q:=List.take_of_length_le (show (b1.getD n []++d1).length≤(List.getD b1 n []).length+d1.length by rw[List.length_append];exact Nat.le_refl _);simp(maxSteps:=9^9)(disch:=try exact dS)only[go_sem,h3,vP hk.1,vQ hk.1,h4,qO,qP,h5,jD hk,h6,zI,zC,z0,z1,qU,q];repeat refine And.intro rfl ?_
      refine qK.cv (hv:=[]) [94544] id ?_ rfl;simp(maxSteps:=9^9)(disch:=try exact dS)only[go_sem,id,qBz,z0,z1,qBx,wF,zOn,zOo,yC,qM];all_goals rfl
     ·have t0:List.take 16 (qBz 0 b0 n d0)=qBz 0 b0 n d0:=List.take_of_length_le (by rw[qU,z0];exact Nat.le_refl _);have t1:List.take 16 (qBz 1 b1 n d1)=qBz 1 b1 n d1:=List.take_of_length_le (by rw[qU,z1];exact Nat.le_refl _);simp(disch:=omega)only[go_sem,qU,t0,t1,z0,z1,hE,qRg,Int.toNat_natCast,mcn,qRh,qJ8,List.getD_cons_zero,List.getD_cons_succ,List.length_cons,List.length_nil]
theorem qHu (h1:LkC tab 234 vR)(h2:LkC tab 236 qAm)(bk:List qX)(u loc i:Int)(ds:List (List UInt8))(hd:ds.length<1000000000)
  (hb:(loc<0∨4<loc∨i<0∨16≤i∨ds.length≠2)∨loc<qBr i false) :
  qW.1.wp tab gl (qE 0 [.t (jT bk u),.t (.int .i64 loc),.t (.int .i64 i),.t (.sl (ds.map bsT))]) (qE 0 []) (zA [(8,some (2,true)),(9,none)] 0 (fun r o=>r = .tup [.t (jT [] 0),.t (.int .i64 (if loc<0∨4<loc∨i<0∨16≤i∨ds.length≠2 then 1 else 13))]∧o=[])):=by
 by_cases a1:loc<0
 ·simp(disch:=omega)only[go_sem,qW,a1,List.map_nil]
 ·by_cases a2:4<loc
  ·simp(disch:=omega)only[go_sem,qW,a1,a2,List.map_nil]
  ·by_cases a3:i<0
   ·simp(disch:=omega)only[go_sem,qW,a1,a2,a3,h1,qTw,List.map_nil]
   ·by_cases a4:16≤i
    ·simp(disch:=omega)only[go_sem,qW,a1,a2,a3,a4,h1,qTw,List.map_nil]
    ·by_cases a5:ds.length=2
     ·have a6:loc<qBr i false:=by rcases hb with h | h;(omega);(exact h)
      simp(disch:=omega)only[go_sem,qW,a1,a2,a3,a4,a5,a6,h1,qG5,h2,qJz,List.map_nil,ne_eq]
     ·simp(disch:=omega)only[go_sem,qW,a1,a2,a3,a4,a5,h1,qG5,List.map_nil,ne_eq]
theorem qNa (h1:LkC tab 234 vR)(h2:LkC tab 236 qAm)(h3:LkC tab 235 qHr)(h5:LkC tab 233 vM)
  (u loc:Int) (n:Nat) (d0 d1:List UInt8) (hu:0≤u∧u<1000000000) (hd:d0.length<9223372036854775808∧d1.length<9223372036854775808) (e1 : ¬(loc<0∨4<loc∨16≤n)) (e2 : ¬ loc<qBr n false) :
  qW.1.wp tab gl (qE 0 [.t (jT [] u),.t (.int .i64 loc),.t (.int .i64 n),.t (.sl [bsT d0,bsT d1])]) (qE 0 []) (zA [(8,some (2,true)),(9,none)] 0 (fun r o=>r=qRh [] u loc n [d0,d1]∧o=[])):=by
 have c0:=zV9 (u:=u) (a:=0) oM;have c1:=zV9 (u:=u) (a:=1) oM;rw[show ((0:Nat):Int)=0 from rfl] at c0;rw[show ((1:Nat):Int)=1 from rfl] at c1;simp(disch:=omega)only[go_sem,qW,h1,qG5,h2,qJz,mcn];refine qC5 (fs':=[(2,.t (.int .i64 (n:Nat))),(3,.t (.sl [bsT d0,bsT d1])),(4,.ref 4096 0 0),(8,.ref 4112 0 0),(38,.t (.sl [bsT d0,bsT d1])),(39,.t (.int .i64 2)),(40,.t (.int .i64 0))]) (hs':=[(4112,.live 2 [.agg [.nil,.t (.int .i64 0)]] true true),(4096,.live 2 [.t (jT [] u)] true true)]) (qK.rd id ?_ ?_ rfl) ?_
 ·simp(disch:=omega)only[go_sem,id]
 ·simp(disch:=omega)only[go_sem,id,List.map_nil]
 by_cases p:0<d0.length∨0<d1.length
 ·have hE:qJi 0 0 loc n 2 d0.length d1.length=27:=by unfold qJi;rw[if_neg oM,if_neg oM,if_pos oM]
  by_cases p0:0<d0.length
  ·refine qJ 3 ?_;simp(disch:=omega)only[go_sem,qF,h3,c0,c1,hE,List.map_nil,qRh,qJ8,List.getD_nil,List.getD_cons_zero,List.getD_cons_succ,List.length_cons,List.length_nil]
  ·refine qJ 3 ?_;simp(disch:=omega)only[go_sem,qF,h3,c0,c1,hE,List.map_nil,qRh,qJ8,List.getD_nil,List.getD_cons_zero,List.getD_cons_succ,List.length_cons,List.length_nil]
 ·have hE:qJi 0 0 loc n 2 d0.length d1.length=0:=by unfold qJi;rw[if_neg oM,if_neg oM,if_neg oM,if_neg oM]
  refine qJ 3 ?_;simp(disch:=omega)only[go_sem,qF,h3,c0,c1,List.map_nil];refine qJ 3 ?_;simp(disch:=omega)only[go_sem,qF,h3,c0,c1,h5,qY4,List.map_nil];refine qJ 1 ?_;simp(disch:=omega)only[go_sem,qF,hE,List.map_nil,qRh,qJ8,qRg,List.getD_nil,List.getD_cons_zero,List.getD_cons_succ,List.length_cons,List.length_nil]
def RV (bk:List qX):Prop:=RK bk ∧ ∀ b∈bk,∀ x∈b,x.length≤64
theorem RV.rm {bk:List qX}(h:RV bk):RM bk:=by
 refine⟨h.1,fun b hb=>⟨?_,fun x hx=>Nat.lt_of_le_of_lt (h.2 b hb x hx) oM⟩⟩;have:qVm b:=by
  obtain⟨hk,_⟩:=h;cases hk with
  | nil=>simp at hb
  | two b0 b1 h0 h1=>
   simp only[List.mem_cons,List.not_mem_nil,or_false] at hb;rcases hb with rfl | rfl
   ·exact h0
   ·exact h1
 rcases this with h | h<;>omega
theorem qMw {b:qX}{m n:Nat}(h : ∀ x∈b,x.length≤m):(b.getD n []).length≤m:=by
 by_cases hi:n<List.length b
 ·have:b.getD n []=b[n]:=by simp[List.getD,hi]
  rw[this];exact h _ (List.getElem_mem hi)
 ·simp[List.getD,List.getElem?_eq_none (Nat.le_of_not_lt hi)]
abbrev jB9:=List qX×Int×Int×Int×List (List UInt8)
def zVr (x:jB9):Prop:=RV x.1∧(0≤x.2.1∧x.2.1<1000000000)∧x.2.2.2.2.length<1000000000 ∧ ∀ d∈x.2.2.2.2,d.length<9223372036854775808
def qFu:Ct where
 α:=jB9
 aS x:=[.t (jT x.1 x.2.1),.t (.int .i64 x.2.2.1),.t (.int .i64 x.2.2.2.1),.t (.sl (x.2.2.2.2.map bsT))]
 ins _:=[]
 pre:=zVr
 r x:=qRh x.1 x.2.1 x.2.2.1 x.2.2.2.1 x.2.2.2.2
 outs _:=[]
 inj:=by
  rintro⟨a,u,l,i,ds⟩ ⟨b,v,l',i',ds'⟩ h _;simp only[List.cons.injEq,V.t.injEq,T.int.injEq,T.sl.injEq,true_and,and_true,qBs] at h;obtain⟨h1,rfl,rfl,rfl⟩:=h;obtain⟨rfl,rfl⟩:=qAr h1;exact⟨rfl,rfl⟩
theorem zQ0 {bk:List qX}{u loc i:Int}{ds:List (List UInt8)}(hb:(loc<0∨4<loc∨i<0∨16≤i∨ds.length≠2)∨loc<qBr i false) :
  qRh bk u loc i ds = .tup [.t (jT [] 0),.t (.int .i64 (if loc<0∨4<loc∨i<0∨16≤i∨ds.length≠2 then 1 else 13))]:=by
 have he:qJi (bk.getD 0 []).length (bk.getD 1 []).length loc i ds.length (ds.getD 0 []).length (ds.getD 1 []).length=if loc<0∨4<loc∨i<0∨16≤i∨ds.length≠2 then 1 else 13:=by
  unfold qJi;by_cases h:loc<0∨4<loc∨i<0∨16≤i∨ds.length≠2
  ·rw[if_pos h,if_pos h]
  ·have h2:loc<qBr i false:=by rcases hb with h' | h';exact absurd h' h;exact h'
   rw[if_neg h,if_neg h,if_pos h2]
 unfold qRh;rw[he];split
 ·split at *<;>simp_all
 ·rfl
theorem qO2 (h1:LkC tab 234 vR)(h2:LkC tab 236 qAm)(h3:LkC tab 235 qHr)(h4:LkC tab 131 kQ)(h5:LkC tab 233 vM)(h6:LkC tab 125 qDq)(x:qFu.α)(hx:qFu.pre x) :
  qW.1.wp tab gl (qE 0 (qFu.aS x)) (qE 0 (qFu.ins x)) (zA [(8,some (2,true)),(9,none)] (qFu.ins x).length (fun r o=>r=qFu.r x∧o=qFu.outs x)):=by
 obtain⟨bk,u,loc,i,ds⟩:=x;obtain⟨hv,hu,hd,hd2⟩:=hx;simp only[qFu] at *;by_cases hb:(loc<0∨4<loc∨i<0∨16≤i∨ds.length≠2)∨loc<qBr i false
 ·rw[zQ0 hb];exact qHu tab gl h1 h2 bk u loc i ds hd hb
 ·obtain⟨n,rfl⟩:=Int.eq_ofNat_of_zero_le (show 0≤i by omega)
  match ds,hd2,hb with
  | [d0,d1],hd2,hb=>
   have m0:=hd2 d0 sM;have m1:=hd2 d1 sM;have e1 : ¬(loc<0∨4<loc∨16≤n):=oM;have e2 : ¬ loc<qBr n false:=oM;have hm:=hv.rm;obtain⟨hk,hl⟩:=hv;cases hk with
   | nil=>exact qNa tab gl h1 h2 h3 h5 u loc n d0 d1 hu ⟨m0,m1⟩ e1 e2
   | two b0 b1 g0 g1=>exact qNb tab gl h1 h2 h3 h4 h5 h6 b0 b1 u loc n d0 d1 hu hm (qMw (hl b0 sM)) (qMw (hl b1 sM)) ⟨m0,m1⟩ e1 e2
  | [],_,hb=>simp at hb
  | [_],_,hb=>simp at hb
  | _::_::_::_,_,hb=>simp at hb
def qTk (bk:List qX)(data:List UInt8):List (List UInt8):=[if onB bk 0 then zC1 data else [],if onB bk 1 then jQ data else []]
def evR (bk:List qX)(u loc i:Int)(data:List UInt8):V:=if 128<data.length then .tup [.t (jT [] 0),.t (.int .i64 4)] else qRh bk u loc i (qTk bk data)
theorem zH1 {bk:List qX}{u loc i:Int}{ds:List (List UInt8)} : ∃ (bk':List qX) (u' e:Int),qRh bk u loc i ds = .tup [.t (.agg [.sl (bk'.map wY),.int .i64 u']),.t (.int .i64 e)]:=by
 unfold qRh;split
 ·exact⟨_,_,_,rfl⟩
 ·exact⟨[],0,_,rfl⟩
theorem jDw {bk:List qX}{u loc i:Int}{ds:List (List UInt8)}(h:zVr (bk,u,loc,i,ds)):qFu.fs [.t (.agg [.sl (bk.map wY),.int .i64 u]),.t (.int .i64 loc),.t (.int .i64 i),.t (.sl (ds.map bsT))] []=some (qRh bk u loc i ds,[]):=qFu.eq (bk,u,loc,i,ds) h
theorem zGj {bk:List qX}{data:List UInt8}:(qTk bk data).length<1000000000 ∧ ∀ d∈qTk bk data,d.length<9223372036854775808:=by
 refine⟨by simp[qTk],?_⟩;intro d hd;simp only[qTk,List.mem_cons,List.not_mem_nil,or_false] at hd;rcases hd with rfl | rfl
 ·split
  ·rw[yC];omega
  ·simp
 ·split
  ·rw[qM];omega
  ·simp
theorem qQm (h1:LkC tab 235 qHr)(h2:LkC tab 125 qDq)(h3:LkC tab 171 qFu)(bk:List qX)(u loc i:Int)(data:List UInt8)(hk:RV bk)(hu:0≤u∧u<1000000000)(hd:data.length<1000000000) :
  wU.1.wp tab gl (qE 0 [.t (jT bk u),.t (.int .i64 loc),.t (.int .i64 i),.t (.sl (data.map qA))]) (qE 0 []) (zA [(8,some (2,true)),(9,none)] 0 (fun r o=>r=evR bk u loc i data∧o=[])):=by
 have c0:=zMv (u:=u) (a:=0) hk.1 oM;have c1:=zMv (u:=u) (a:=1) hk.1 oM;rw[show ((0:Nat):Int)=0 from rfl] at c0;rw[show ((1:Nat):Int)=1 from rfl] at c1;by_cases hl:128<data.length
 ·simp(disch:=omega)only[go_sem,wU,evR,hl,List.map_nil]
 rw[evR,if_neg hl];have hx:=jDw (bk:=bk) (u:=u) (loc:=loc) (i:=i) (ds:=qTk bk data) ⟨hk,hu,zGj.1,zGj.2⟩;obtain⟨bk',u',e,he⟩:=zH1 (bk:=bk) (u:=u) (loc:=loc) (i:=i) (ds:=qTk bk data);rw[he] at hx;rw[he];simp(disch:=omega)only[go_sem,wU];cases o0:onB bk 0<;>cases o1:onB bk 1<;>rw[o0] at c0<;>rw[o1] at c1
 ·have hdig:qTk bk data=[[],[]]:=by rw[qTk,o0,o1];rfl
  have hx':=hx;rw[hdig] at hx';simp only[mcn,qG] at hx';refine qB 2 (fun k=>match k with | 0=>[(1,.t (.int .i64 loc)),(2,.t (.int .i64 i)),(3,.t (.sl (data.map qA))),(4,.ref 4096 0 0),(8,.ref 4112 0 0),(10,.sl 16384 0 2),(18,.t (.int .i64 2)),(19,.t (.int .i64 0))] | 1=>[(1,.t (.int .i64 loc)),(2,.t (.int .i64 i)),(3,.t (.sl (data.map qA))),(4,.ref 4096 0 0),(8,.ref 4112 0 0),(10,.sl 16384 0 2),(18,.t (.int .i64 2)),(19,.t (.int .i64 1))] | _=>[(1,.t (.int .i64 loc)),(2,.t (.int .i64 i)),(3,.t (.sl (data.map qA))),(4,.ref 4096 0 0),(8,.ref 4112 0 0),(10,.sl 16384 0 2),(18,.t (.int .i64 2)),(19,.t (.int .i64 2))]) (fun k=>match k with | 0=>[(16384,.live 1 [.t (bsT []),.t (bsT [])] true false),(4112,.live 2 [.agg [.nil,.t (.int .i64 0)]] true true),(4096,.live 2 [.t (jT bk u)] true true)] | 1=>[(16384,.live 1 [.t (bsT ([])),.t (bsT [])] true false),(4112,.live 2 [.agg [.nil,.t (.int .i64 0)]] true true),(4096,.live 2 [.t (jT bk u)] true true)] | _=>[(16384,.live 1 [.t (bsT ([])),.t (bsT ([]))] true false),(4112,.live 2 [.agg [.nil,.t (.int .i64 0)]] true true),(4096,.live 2 [.t (jT bk u)] true true)]) ?_ (fun k hk2=>?_)
  ·refine qK.rd id ?_ ?_ rfl;all_goals simp(disch:=omega)only[go_sem,id,List.map_nil]
  ·rcases (show k=0∨k=1∨k=2 by omega) with rfl | rfl | rfl
   ·simp(disch:=omega)only[go_sem,h1,h2,c0,c1,zI,zC,List.map_nil];refine qK.rd id ?_ ?_ rfl;all_goals simp(disch:=omega)only[go_sem,id,List.map_nil]
   ·simp(disch:=omega)only[go_sem,h1,h2,c0,c1,zI,zC,List.map_nil];refine qK.rd id ?_ ?_ rfl;all_goals simp(disch:=omega)only[go_sem,id,List.map_nil]
   ·simp(disch:=omega)only[go_sem,h1,h2,c0,c1,zI,zC,mcn,h3,hx']
 ·have hdig:qTk bk data=[[],jQ data]:=by rw[qTk,o0,o1];rfl
  have hx':=hx;rw[hdig] at hx';simp only[mcn,qG] at hx';refine qB 2 (fun k=>match k with | 0=>[(1,.t (.int .i64 loc)),(2,.t (.int .i64 i)),(3,.t (.sl (data.map qA))),(4,.ref 4096 0 0),(8,.ref 4112 0 0),(10,.sl 16384 0 2),(18,.t (.int .i64 2)),(19,.t (.int .i64 0))] | 1=>[(1,.t (.int .i64 loc)),(2,.t (.int .i64 i)),(3,.t (.sl (data.map qA))),(4,.ref 4096 0 0),(8,.ref 4112 0 0),(10,.sl 16384 0 2),(18,.t (.int .i64 2)),(19,.t (.int .i64 1))] | _=>[(1,.t (.int .i64 loc)),(2,.t (.int .i64 i)),(3,.t (.sl (data.map qA))),(4,.ref 4096 0 0),(8,.ref 4112 0 0),(10,.sl 16384 0 2),(18,.t (.int .i64 2)),(19,.t (.int .i64 2))]) (fun k=>match k with | 0=>[(16384,.live 1 [.t (bsT []),.t (bsT [])] true false),(4112,.live 2 [.agg [.nil,.t (.int .i64 0)]] true true),(4096,.live 2 [.t (jT bk u)] true true)] | 1=>[(16384,.live 1 [.t (bsT ([])),.t (bsT [])] true false),(4112,.live 2 [.agg [.nil,.t (.int .i64 0)]] true true),(4096,.live 2 [.t (jT bk u)] true true)] | _=>[(16384,.live 1 [.t (bsT ([])),.t (bsT (jQ data))] true false),(4112,.live 2 [.agg [.nil,.t (.int .i64 0)]] true true),(4096,.live 2 [.t (jT bk u)] true true)]) ?_ (fun k hk2=>?_)
  ·refine qK.rd id ?_ ?_ rfl;all_goals simp(disch:=omega)only[go_sem,id,List.map_nil]
  ·rcases (show k=0∨k=1∨k=2 by omega) with rfl | rfl | rfl
   ·simp(disch:=omega)only[go_sem,h1,h2,c0,c1,zI,zC,List.map_nil];refine qK.rd id ?_ ?_ rfl;all_goals simp(disch:=omega)only[go_sem,id,List.map_nil]
   ·simp(disch:=omega)only[go_sem,h1,h2,c0,c1,zI,zC,List.map_nil];refine qK.cv (hv:=[]) [36928] id ?_ rfl;simp(disch:=omega)only[go_sem,id,qBx,wF,List.map_nil,yC,qM];all_goals rfl
   ·simp(disch:=omega)only[go_sem,h1,h2,c0,c1,zI,zC,mcn,h3,hx']
 ·have hdig:qTk bk data=[zC1 data,[]]:=by rw[qTk,o0,o1];rfl
  have hx':=hx;rw[hdig] at hx';simp only[mcn,qG] at hx';refine qB 2 (fun k=>match k with | 0=>[(1,.t (.int .i64 loc)),(2,.t (.int .i64 i)),(3,.t (.sl (data.map qA))),(4,.ref 4096 0 0),(8,.ref 4112 0 0),(10,.sl 16384 0 2),(18,.t (.int .i64 2)),(19,.t (.int .i64 0))] | 1=>[(1,.t (.int .i64 loc)),(2,.t (.int .i64 i)),(3,.t (.sl (data.map qA))),(4,.ref 4096 0 0),(8,.ref 4112 0 0),(10,.sl 16384 0 2),(18,.t (.int .i64 2)),(19,.t (.int .i64 1))] | _=>[(1,.t (.int .i64 loc)),(2,.t (.int .i64 i)),(3,.t (.sl (data.map qA))),(4,.ref 4096 0 0),(8,.ref 4112 0 0),(10,.sl 16384 0 2),(18,.t (.int .i64 2)),(19,.t (.int .i64 2))]) (fun k=>match k with | 0=>[(16384,.live 1 [.t (bsT []),.t (bsT [])] true false),(4112,.live 2 [.agg [.nil,.t (.int .i64 0)]] true true),(4096,.live 2 [.t (jT bk u)] true true)] | 1=>[(16384,.live 1 [.t (bsT (zC1 data)),.t (bsT [])] true false),(4112,.live 2 [.agg [.nil,.t (.int .i64 0)]] true true),(4096,.live 2 [.t (jT bk u)] true true)] | _=>[(16384,.live 1 [.t (bsT (zC1 data)),.t (bsT ([]))] true false),(4112,.live 2 [.agg [.nil,.t (.int .i64 0)]] true true),(4096,.live 2 [.t (jT bk u)] true true)]) ?_ (fun k hk2=>?_)
  ·refine qK.rd id ?_ ?_ rfl;all_goals simp(disch:=omega)only[go_sem,id,List.map_nil]
  ·rcases (show k=0∨k=1∨k=2 by omega) with rfl | rfl | rfl
   ·simp(disch:=omega)only[go_sem,h1,h2,c0,c1,zI,zC,List.map_nil];refine qK.cv (hv:=[]) [36928] id ?_ rfl;simp(disch:=omega)only[go_sem,id,qBx,wF,List.map_nil,yC,qM];all_goals rfl
   ·simp(disch:=omega)only[go_sem,h1,h2,c0,c1,zI,zC,List.map_nil];refine qK.rd id ?_ ?_ rfl;all_goals simp(disch:=omega)only[go_sem,id,List.map_nil]
   ·simp(disch:=omega)only[go_sem,h1,h2,c0,c1,zI,zC,mcn,h3,hx']
 ·have hdig:qTk bk data=[zC1 data,jQ data]:=by rw[qTk,o0,o1];rfl
  have hx':=hx;rw[hdig] at hx';simp only[mcn,qG] at hx';refine qB 2 (fun k=>match k with | 0=>[(1,.t (.int .i64 loc)),(2,.t (.int .i64 i)),(3,.t (.sl (data.map qA))),(4,.ref 4096 0 0),(8,.ref 4112 0 0),(10,.sl 16384 0 2),(18,.t (.int .i64 2)),(19,.t (.int .i64 0))] | 1=>[(1,.t (.int .i64 loc)),(2,.t (.int .i64 i)),(3,.t (.sl (data.map qA))),(4,.ref 4096 0 0),(8,.ref 4112 0 0),(10,.sl 16384 0 2),(18,.t (.int .i64 2)),(19,.t (.int .i64 1))] | _=>[(1,.t (.int .i64 loc)),(2,.t (.int .i64 i)),(3,.t (.sl (data.map qA))),(4,.ref 4096 0 0),(8,.ref 4112 0 0),(10,.sl 16384 0 2),(18,.t (.int .i64 2)),(19,.t (.int .i64 2))]) (fun k=>match k with | 0=>[(16384,.live 1 [.t (bsT []),.t (bsT [])] true false),(4112,.live 2 [.agg [.nil,.t (.int .i64 0)]] true true),(4096,.live 2 [.t (jT bk u)] true true)] | 1=>[(16384,.live 1 [.t (bsT (zC1 data)),.t (bsT [])] true false),(4112,.live 2 [.agg [.nil,.t (.int .i64 0)]] true true),(4096,.live 2 [.t (jT bk u)] true true)] | _=>[(16384,.live 1 [.t (bsT (zC1 data)),.t (bsT (jQ data))] true false),(4112,.live 2 [.agg [.nil,.t (.int .i64 0)]] true true),(4096,.live 2 [.t (jT bk u)] true true)]) ?_ (fun k hk2=>?_)
  ·refine qK.rd id ?_ ?_ rfl;all_goals simp(disch:=omega)only[go_sem,id,List.map_nil]
  ·rcases (show k=0∨k=1∨k=2 by omega) with rfl | rfl | rfl
   ·simp(disch:=omega)only[go_sem,h1,h2,c0,c1,zI,zC,List.map_nil];refine qK.cv (hv:=[]) [36928] id ?_ rfl;simp(disch:=omega)only[go_sem,id,qBx,wF,List.map_nil,yC,qM];all_goals rfl
   ·simp(disch:=omega)only[go_sem,h1,h2,c0,c1,zI,zC,List.map_nil];refine qK.cv (hv:=[]) [36928] id ?_ rfl;simp(disch:=omega)only[go_sem,id,qBx,wF,List.map_nil,yC,qM];all_goals rfl
   ·simp(disch:=omega)only[go_sem,h1,h2,c0,c1,zI,zC,mcn,h3,hx']
theorem RM.bank {bk:List qX}(h:RM bk)(a:Nat):zV6 (bk.getD a []):=by
 by_cases ha:a<bk.length
 ·have e:bk.getD a []=bk[a]:=by simp[List.getD,ha]
  rw[e];exact h.2 _ (List.getElem_mem ha)
 ·have e:bk.getD a []=[]:=by simp[List.getD,List.getElem?_eq_none (Nat.le_of_not_lt ha)]
  rw[e];exact⟨sM,sM⟩
def kM:Ct where
 α:=Int
 aS s:=[.t (.int .i64 s)]
 ins _:=[]
 pre _:=True
 r s:=twR (yK s) 0
 outs s:=twO (yK s)
 inj:=by
  rintro a b h _;simp only[List.cons.injEq,V.t.injEq,T.int.injEq,true_and,and_true] at h;subst h;exact⟨rfl,rfl⟩
def zKx:Ct where
 α:=List qX×Int×Int×Int×List UInt8
 aS x:=[.t (jT x.1 x.2.1),.t (.int .i64 x.2.2.1),.t (.int .i64 x.2.2.2.1),.t (.sl (x.2.2.2.2.map qA))]
 ins _:=[]
 pre x:=RV x.1∧(0≤x.2.1∧x.2.1<1000000000)∧x.2.2.2.2.length<1000000000
 r x:=evR x.1 x.2.1 x.2.2.1 x.2.2.2.1 x.2.2.2.2
 outs _:=[]
 inj:=by
  rintro⟨a,u,l,i,d⟩ ⟨b,v,l',i',d'⟩ h _;simp only[List.cons.injEq,V.t.injEq,T.int.injEq,T.sl.injEq,true_and,and_true,jC] at h;obtain⟨h1,rfl,rfl,rfl⟩:=h;obtain⟨rfl,rfl⟩:=qAr h1;exact⟨rfl,rfl⟩
def zGf:Ct where
 α:=List qX×Int×Int×Int
 aS x:=[.t (jT x.1 x.2.1),.t (.int .i64 x.2.2.1),.t (.int .i64 x.2.2.2)]
 ins _:=[]
 pre x:=RM x.1
 r x:=jBi x.1 x.2.2.1 x.2.2.2
 outs x:=jBh x.1 x.2.2.1 x.2.2.2
 inj:=by
  rintro⟨a,u,l,i⟩ ⟨b,v,l',i'⟩ h _;simp only[List.cons.injEq,V.t.injEq,T.int.injEq,true_and,and_true] at h;obtain⟨h1,rfl,rfl⟩:=h;obtain⟨rfl,rfl⟩:=qAr h1;exact⟨rfl,rfl⟩
theorem zMp {a:Nat}(ha:a<2):qVm (qAw a):= .inr qI
theorem zMo {a:Nat}(ha:a<2) : ∀ x∈qAw a,x.length≤64:=by
 intro x hx;simp only[qAw,List.mem_map,List.mem_range] at hx;obtain⟨i,_,rfl⟩:=hx;simp only[List.length_replicate];have:a=0∨a=1:=oM;rcases this with rfl | rfl<;>decide
theorem zG2 {s:Int}:RV (yK s):=by
 unfold yK;split
 ·exact⟨.nil,sM⟩
 ·refine⟨.two _ _ ?_ ?_,?_⟩
  ·split
   ·exact zMp oM
   ·exact .inl rfl
  ·split
   ·exact zMp oM
   ·exact .inl rfl
  ·intro b hb;simp only[List.mem_cons,List.not_mem_nil,or_false] at hb;rcases hb with rfl | rfl
   ·split
    ·exact zMo oM
    ·simp
   ·split
    ·exact zMo oM
    ·simp
theorem qNg (h1:LkC tab 229 qIf)(h2:LkC tab 230 qPl)(x:(xL 5 qHq).α)(hx:(xL 5 qHq).pre x) :
  vW.1.wp tab gl (qE 0 ((xL 5 qHq).aS x)) (qE 0 ((xL 5 qHq).ins x)) (zA [] ((xL 5 qHq).ins x).length (fun r o=>r=(xL 5 qHq).r x∧o=(xL 5 qHq).outs x)):=by
 obtain⟨hs,bs⟩:=x;obtain⟨hb,hh⟩:=hx
 match hs,hh with
 | [x0,x1,x2,x3,x4],_=>exact qOv tab gl h1 h2 bs x0 x1 x2 x3 x4 hb
theorem qNi (x:wI.α)(hx:wI.pre x) :
  jX.1.wp tab gl (qE 0 (wI.aS x)) (qE 0 (wI.ins x)) (zA [(2,none)] (wI.ins x).length (fun r o=>r=wI.r x∧o=wI.outs x)):=by
 obtain⟨bk,u⟩:=x;have hx':RK bk:=hx;clear hx;cases hx' with
 | nil=>exact qNe tab gl u
 | two b0 b1 h0 h1=>exact qNf tab gl b0 b1 (by rcases h0 with h | h<;>omega) (by rcases h1 with h | h<;>omega) u
theorem qQz (x:vM.α)(hx:vM.pre x) :
  yR.1.wp tab gl (qE 0 (vM.aS x)) (qE 0 (vM.ins x)) (kN [] [(2,some (2,true))] (vM.ins x).length (fun r o=>r=vM.r x∧o=vM.outs x)):=by
 obtain⟨bk,u⟩:=x;obtain⟨hk,hm⟩:=hx;have hk':RK bk:=hk;clear hk;cases hk' with
 | nil=>exact qQq tab gl u
 | two b0 b1 h0 h1=>exact qQr tab gl b0 b1 u (hm b0 (.head _)) (hm b1 (.tail _ (.head _)))
theorem qSa (h1:LkC tab 131 kQ)(h2:LkC tab 167 vT)(x:kM.α) :
  jI.1.wp tab gl (qE 0 (kM.aS x)) (qE 0 (kM.ins x)) (kN [] [(2,some (2,true))] (kM.ins x).length (fun r o=>r=kM.r x∧o=kM.outs x)):=by
 have x':Int:=x;by_cases h:(show Int from x)%4=0
 ·have:=qR6 tab gl x h;show jI.1.wp tab gl (qE 0 [.t (.int .i64 x)]) (qE 0 []) (kN [] [(2,some (2,true))] 0 (fun r o=>r=twR (yK x) 0∧o=twO (yK x)));have e:yK x=[]:=if_pos h;rw[e];exact this
 ·exact qVi tab gl h1 h2 x h
theorem zFi (h1:LkC tab 35 qGn)(x:kM.α) :
  vY.1.wp tab gl (qE 0 (kM.aS x)) (qE 0 (kM.ins x)) (kN [] [(2,some (2,true))] (kM.ins x).length (fun r o=>r=kM.r x∧o=kM.outs x)):=by
 by_cases h:(show Int from x)%4=0
 ·have:=zFb tab gl x h;show vY.1.wp tab gl (qE 0 [.t (.int .i64 x)]) (qE 0 []) (kN [] [(2,some (2,true))] 0 (fun r o=>r=twR (yK x) 0∧o=twO (yK x)));have e:yK x=[]:=if_pos h;rw[e];exact this
 ·exact zJv tab gl h1 x h
theorem zCp (x:vT.α)(hx:vT.pre x) :
  qD7.1.wp tab gl (qE 0 (vT.aS x)) (qE 0 (vT.ins x)) (kN [] [(4,none)] (vT.ins x).length (fun r o=>r=vT.r x∧o=vT.outs x)):=by
 obtain⟨n,x⟩:=x;have hx':n=20∨n=32:=hx;exact zFc tab gl x n oM
theorem qWt (x:qCf.α)(hx:qCf.pre x) :
  wM.1.wp tab gl (qE 0 (qCf.aS x)) (qE 0 (qCf.ins x)) (zA [(4,none)] (qCf.ins x).length (fun r o=>r=qCf.r x∧o=qCf.outs x)):=by
 obtain⟨bk,u,a⟩:=x;obtain⟨hk,ha⟩:=hx;have hk':RK bk:=hk;have ha':a<1000000000:=ha;refine qZ0 tab gl bk u a ha' ?_ ?_
 ·cases hk'<;>simp
 ·intro b hb;clear hk;cases hk' with
  | nil=>simp at hb
  | two b0 b1 h0 h1=>
   simp only[List.mem_cons,List.not_mem_nil,or_false] at hb;rcases hb with rfl | rfl
   ·rcases h0 with h | h<;>omega
   ·rcases h1 with h | h<;>omega
def stN (x:List UInt8)(b:qX):Nat→qX
 | 0=>b
 | k+1=>(stN x b k).set (12+k) x
theorem qF4 {x:List UInt8}{b:qX}{k:Nat}:List.length (stN x b k)=List.length b:=by
 induction k with
 | zero=>rfl
 | succ k ih=>simp only[stN,List.length_set,ih]
def zEd (bk:List qX):List qX:=match bk with
 | [b0,b1]=>[stN (List.replicate 20 255) b0 4,stN (List.replicate 32 255) b1 4]
 | bk=>bk
theorem zMq {k:Nat}:zSb (12+k)=255:=if_pos oM
theorem qNc (h1:LkC tab 233 vM)(u:Int):jW.1.wp tab gl (qE 0 [.t (jT [] u)]) (qE 0 []) (zA [(2,some (2,true))] 0 (fun r o=>r = .t (jT [] u)∧o=[])):=by
 simp(disch:=omega)only[go_sem,jW,h1,qY4,List.map_nil];refine qJ 1 ?_;simp(disch:=omega)only[go_sem,qF]
theorem qNd (h1:LkC tab 233 vM)(h2:LkC tab 131 kQ)(h3:LkC tab 167 vT)(b0 b1:qX)(u:Int)(hk:RM [b0,b1]):jW.1.wp tab gl (qE 0 [.t (jT [b0,b1] u)]) (qE 0 []) (zA [(2,some (2,true))] 0 (fun r o=>r = .t (jT (zEd [b0,b1]) u)∧o=[])):=by
 simp(disch:=omega)only[go_sem,jW,h1,jD hk,mcn];refine qJ 3 ?_;simp(disch:=omega)only[go_sem,qF];obtain⟨hrk,_⟩:=hk;cases hrk with
 | two _ _ h0 h1=>
 have q0:qVm b0:=h0;rcases q0 with z0 | z0
 ·obtain rfl:b0=[]:=List.eq_nil_of_length_eq_zero z0;have y0:stN (List.replicate 20 255) [] 4=[]:=rfl;refine qJ 1 ?_;simp(disch:=omega)only[go_sem,qF,List.length_nil,List.map_nil];have q1:qVm b1:=h1;rcases q1 with z1 | z1
  ·obtain rfl:b1=[]:=List.eq_nil_of_length_eq_zero z1;have y1:stN (List.replicate 32 255) [] 4=[]:=rfl;refine qJ 1 ?_;simp(disch:=omega)only[go_sem,qF,List.length_nil,List.map_nil,z0,z1];all_goals rfl
  ·refine qB 4 (fun k=>[(2,.ref 4112 0 0),(3,.ref 8224 0 0),(4,.t (.int .i64 1)),(5,.t (.int .i64 ((12+k:Nat):Int))),(10,.t (.int .i64 2)),(11,.t (.int .i64 1))]) (fun k=>[(8224,.live 2 [.agg [.sl 8208 0 2,.t (.int .i64 u)]] true true),(8210,.live 1 (((stN (List.replicate 32 255) b1 k).map bsT).map V.t) true false),(8209,.live 1 (((([]:qX)).map bsT).map V.t) true false),(8208,.live 1 [.sl 8209 0 0,.sl 8210 0 16] true false),(4112,.live 2 [.agg [.nil,.t (.int .i64 0)]] true true)]) ?_ (fun k hk4=>?_)
   ·refine qK.rd id ?_ ?_ rfl;all_goals simp(disch:=omega)only[go_sem,id,stN,z0,z1]
   ·have s1:List.length (stN (List.replicate 32 255) b1 k)=16:=by rw[qF4,z1]
    by_cases hlt:k<4
    ·simp(disch:=omega)only[go_sem,z1,s1,h2,h3,qO,qP,zD,zE];repeat refine And.intro rfl ?_
     refine⟨hlt,qK.cv (hv:=[]) [36992] id ?_ rfl⟩;simp(maxSteps:=9^9)(disch:=try exact dS)only[go_sem,id,stN,z1,s1,List.take_replicate,Nat.min_self,zMq];refine⟨?_,rfl⟩;omega
    ·have e:k=4:=oM;subst e;have t1:List.take 16 (stN (List.replicate 32 255) b1 4)=stN (List.replicate 32 255) b1 4:=List.take_of_length_le oM;simp(disch:=omega)only[go_sem,z1,s1,qF,t1];all_goals rfl
 ·refine qB 4 (fun k=>[(2,.ref 4112 0 0),(3,.ref 8224 0 0),(4,.t (.int .i64 0)),(5,.t (.int .i64 ((12+k:Nat):Int))),(10,.t (.int .i64 2)),(11,.t (.int .i64 0))]) (fun k=>[(8224,.live 2 [.agg [.sl 8208 0 2,.t (.int .i64 u)]] true true),(8210,.live 1 (((b1).map bsT).map V.t) true false),(8209,.live 1 (((stN (List.replicate 20 255) b0 k).map bsT).map V.t) true false),(8208,.live 1 [.sl 8209 0 16,.sl 8210 0 b1.length] true false),(4112,.live 2 [.agg [.nil,.t (.int .i64 0)]] true true)]) ?_ (fun k hk4=>?_)
  ·refine qK.rd id ?_ ?_ rfl;all_goals simp(disch:=omega)only[go_sem,id,stN,z0]
  ·have s0:List.length (stN (List.replicate 20 255) b0 k)=16:=by rw[qF4,z0]
   by_cases hlt:k<4
   ·simp(disch:=omega)only[go_sem,z0,s0,h2,h3,qO,qP,zD,zE];repeat refine And.intro rfl ?_
    refine⟨hlt,qK.cv (hv:=[]) [36992] id ?_ rfl⟩;simp(maxSteps:=9^9)(disch:=try exact dS)only[go_sem,id,stN,z0,s0,List.take_replicate,Nat.min_self,zMq];refine⟨?_,rfl⟩;omega
   ·have e:k=4:=oM;subst e;have t0:List.take 16 (stN (List.replicate 20 255) b0 4)=stN (List.replicate 20 255) b0 4:=List.take_of_length_le oM;simp(disch:=omega)only[go_sem,z0,s0,qF,t0];have q1:qVm b1:=h1;rcases q1 with z1 | z1
    ·obtain rfl:b1=[]:=List.eq_nil_of_length_eq_zero z1;have y1:stN (List.replicate 32 255) [] 4=[]:=rfl;refine qJ 1 ?_;simp(disch:=omega)only[go_sem,qF,List.length_nil,List.map_nil,z0,z1,t0];all_goals rfl
    ·refine qB 4 (fun k=>[(2,.ref 4112 0 0),(3,.ref 8224 0 0),(4,.t (.int .i64 1)),(5,.t (.int .i64 ((12+k:Nat):Int))),(10,.t (.int .i64 2)),(11,.t (.int .i64 1))]) (fun k=>[(8224,.live 2 [.agg [.sl 8208 0 2,.t (.int .i64 u)]] true true),(8210,.live 1 (((stN (List.replicate 32 255) b1 k).map bsT).map V.t) true false),(8209,.live 1 (((stN (List.replicate 20 255) b0 4).map bsT).map V.t) true false),(8208,.live 1 [.sl 8209 0 16,.sl 8210 0 16] true false),(4112,.live 2 [.agg [.nil,.t (.int .i64 0)]] true true)]) ?_ (fun k hk4=>?_)
     ·refine qK.rd id ?_ ?_ rfl;all_goals simp(disch:=omega)only[go_sem,id,stN,z0,z1]
     ·have s1:List.length (stN (List.replicate 32 255) b1 k)=16:=by rw[qF4,z1]
      by_cases hlt:k<4
      ·simp(disch:=omega)only[go_sem,z1,s1,h2,h3,qO,qP,zD,zE];repeat refine And.intro rfl ?_
       refine⟨hlt,qK.cv (hv:=[]) [36992] id ?_ rfl⟩;simp(maxSteps:=9^9)(disch:=try exact dS)only[go_sem,id,stN,z1,s1,List.take_replicate,Nat.min_self,zMq];refine⟨?_,rfl⟩;omega
      ·have e:k=4:=oM;subst e;have t1:List.take 16 (stN (List.replicate 32 255) b1 4)=stN (List.replicate 32 255) b1 4:=List.take_of_length_le oM;simp(disch:=omega)only[go_sem,z1,s1,qF,t0,t1];all_goals rfl
def qNs:Ct where
 α:=List qX×Int×Int×Int
 aS x:=[.t (jT x.1 x.2.1),.t (.int .i64 x.2.2.1),.t (.int .i64 x.2.2.2)]
 ins _:=[]
 pre x:=RM x.1∧0≤x.2.1∧x.2.1<1000000000
 r x:=jJk x.1 x.2.1 x.2.2.1 x.2.2.2
 outs _:=[]
 inj:=by
  rintro⟨a,u,l,i⟩ ⟨b,v,l',i'⟩ h _;simp only[List.cons.injEq,V.t.injEq,T.int.injEq,true_and,and_true] at h;obtain⟨h1,rfl,rfl⟩:=h;obtain⟨rfl,rfl⟩:=qAr h1;exact⟨rfl,rfl⟩
def qQ2:Ct where
 α:=List qX×Int
 aS x:=[.t (jT x.1 x.2)]
 ins _:=[]
 pre x:=RM x.1
 r x:= .t (jT (zEd x.1) x.2)
 outs _:=[]
 inj:=by
  rintro⟨a,u⟩ ⟨b,v⟩ h _;simp only[List.cons.injEq,V.t.injEq,and_true] at h;obtain⟨rfl,rfl⟩:=qAr h;exact⟨rfl,rfl⟩
theorem jWz {bk:List qX}{u:Int}(h:RM bk):qQ2.fs [.t (jT bk u)] []=some (.t (jT (zEd bk) u),[]):=qQ2.eq (bk,u) h
theorem qO8 (h1:LkC tab 234 vR)(h2:LkC tab 236 qAm)(h3:LkC tab 233 vM)(h4:LkC tab 235 qHr)(h5:LkC tab 131 kQ)(h6:LkC tab 167 vT)(x:qNs.α)(hx:qNs.pre x) :
  qZ.1.wp tab gl (qE 0 (qNs.aS x)) (qE 0 (qNs.ins x)) (zA [(6,some (2,true)),(7,none)] (qNs.ins x).length (fun r o=>r=qNs.r x∧o=qNs.outs x)):=by
 obtain⟨bk,u,l,i⟩:=x;obtain⟨hk,hu⟩:=hx;show qZ.1.wp tab gl (qE 0 [.t (jT bk u),.t (.int .i64 l),.t (.int .i64 i)]) (qE 0 []) (zA [(6,some (2,true)),(7,none)] 0 (fun r o=>r=jJk bk u l i∧o=[]));by_cases he:zNn l i=0
 ·rw[jJk,if_pos he];have hk':RM bk:=hk;have hk2:=hk'.1;cases hk2 with
  | nil=>exact qO3 tab gl h1 h2 h3 u l i hu he
  | two b0 b1 _ _=>exact qO4 tab gl h1 h2 h3 h4 h5 h6 b0 b1 u l i hu hk he
 ·rw[jJk,if_neg he];exact qJv tab gl h1 h2 bk u l i he
theorem qNh (h1:LkC tab 233 vM)(h2:LkC tab 131 kQ)(h3:LkC tab 167 vT)(x:qQ2.α)(hx:qQ2.pre x) :
  jW.1.wp tab gl (qE 0 (qQ2.aS x)) (qE 0 (qQ2.ins x)) (zA [(2,some (2,true))] (qQ2.ins x).length (fun r o=>r=qQ2.r x∧o=qQ2.outs x)):=by
 obtain⟨bk,u⟩:=x;have hk:RM bk:=hx;have hk2:=hk.1;clear hx;cases hk2 with
 | nil=>exact qNc tab gl h1 u
 | two b0 b1 _ _=>exact qNd tab gl h1 h2 h3 b0 b1 u hk
theorem RV.of2 {b0 b1:qX}(h0:qVm b0)(h1:qVm b1)(m0 : ∀ x∈b0,x.length≤64)(m1 : ∀ x∈b1,x.length≤64):RV [b0,b1]:=by
 refine⟨.two _ _ h0 h1,fun b hb=>?_⟩;simp only[List.mem_cons,List.not_mem_nil,or_false] at hb;rcases hb with rfl | rfl
 ·exact m0
 ·exact m1
theorem qD9 {b c:qX}(h:qVm b)(hl:List.length c=List.length b):qVm c:=by
 rcases h with h | h
 ·exact .inl (by rw[hl,h])
 ·exact .inr (by rw[hl,h])
theorem zOb {b:qX}{i:Nat}{y:List UInt8}(h : ∀ x∈b,x.length≤64)(hy:y.length≤64) : ∀ x∈b.set i y,x.length≤64:=by
 intro x hx;rcases List.mem_or_eq_of_mem_set hx with h1 | rfl
 ·exact h x h1
 ·exact hy
theorem RV.cases {bk:List qX}(h:RV bk):bk=[] ∨ ∃ b0 b1,bk=[b0,b1]∧qVm b0∧qVm b1∧(∀ x∈b0,x.length≤64)∧(∀ x∈b1,x.length≤64):=by
 obtain⟨hk,hm⟩:=h;cases hk with
 | nil=>exact .inl rfl
 | two b0 b1 h0 h1=>exact .inr ⟨b0,b1,rfl,h0,h1,hm b0 (.head _),hm b1 (.tail _ (.head _))⟩
theorem zLb {a:Nat}(ha:a<2){b:qX}{i:Nat}{d:List UInt8}(h : ∀ x∈b,x.length≤64) : ∀ x∈qBz a b i d,x.length≤64:=by
 unfold qBz;split
 ·refine zOb h ?_;have:a=0∨a=1:=oM;rcases this with rfl | rfl
  ·rw[zOn,yC];omega
  ·rw[zOo,qM];omega
 ·exact h
theorem zNl {a:Nat}(ha:a<2){b:qX}{i:Nat}(h : ∀ x∈b,x.length≤64) : ∀ x∈qVx a b i,x.length≤64:=by
 unfold qVx;split
 ·refine zOb h ?_;rw[List.length_replicate];have:a=0∨a=1:=oM;rcases this with rfl | rfl<;>decide
 ·exact h
theorem zOm {y:List UInt8}{b:qX}(hy:y.length≤64)(h : ∀ x∈b,x.length≤64) : ∀ k,∀ x∈stN y b k,x.length≤64
 | 0=>h
 | k+1=>zOb (zOm hy h k) hy
theorem RV.ext {bk:List qX}(h:RV bk)(i:Nat)(ds:List (List UInt8)):RV (qRg bk i ds):=by
 rcases h.cases with rfl | ⟨b0,b1,rfl,h0,h1,m0,m1⟩
 ·exact h
 ·exact .of2 (qD9 h0 qU) (qD9 h1 qU) (zLb oM m0) (zLb oM m1)
theorem RV.rst {bk:List qX}(h:RV bk)(i:Nat):RV (zIr bk i):=by
 rcases h.cases with rfl | ⟨b0,b1,rfl,h0,h1,m0,m1⟩
 ·exact h
 ·exact .of2 (qD9 h0 yA) (qD9 h1 yA) (zNl oM m0) (zNl oM m1)
theorem RV.res {bk:List qX}(h:RV bk):RV (zEd bk):=by
 rcases h.cases with rfl | ⟨b0,b1,rfl,h0,h1,m0,m1⟩
 ·exact h
 ·exact .of2 (qD9 h0 qF4) (qD9 h1 qF4) (zOm (by rw[List.length_replicate];omega) m0 4) (zOm (by rw[List.length_replicate];omega) m1 4)
end Go.Eng
end
