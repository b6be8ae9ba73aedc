/- A part of an abstract machine, its walks, their tie. -/
import Derived.Test.YteglhhgmfnbalaaGreatDoorK19
set_option linter.all false
section
set_option maxHeartbeats 64000000
set_option maxRecDepth 20000
namespace Go.Eng
open List
variable (tab:Tab)(gl:Gl)
def qLd (l0 l1:Nat)(loc i:Int)(nd k0 k1:Nat):Int:=
 if loc<0\/4<loc\/i<0\/16<=i\/nd≠2 then 1 else if loc<qDu i false then 13
 else if(l0≠16/\0<k0)\/(l1≠16/\0<k1) then 27 else if(l0=16/\k0≠20)\/(l1=16/\k1≠32) then 24 else 0
def qC4 (a:Nat)(b:zD)(i:Nat)(d:List UInt8):zD:=if List.length b=16 then b.set i (jI5 a (b.getD i []++d)) else b
theorem zA {a:Nat}{b:zD}{i:Nat}{d:List UInt8}:List.length (qC4 a b i d)=List.length b:=by
 unfold qC4;split<;>simp
def qSb (bk:List zD)(i:Nat)(ds:List (List UInt8)):List zD:=match bk with
 |[b0,b1]=>[qC4 0 b0 i (ds.getD 0 []),qC4 1 b1 i (ds.getD 1 [])]
 |bk=>bk
def qMa (bk:List zD)(loc i:Int)(ds:List (List UInt8)):Int:=qLd (bk.getD 0 []).length (bk.getD 1 []).length loc i ds.length (ds.getD 0 []).length (ds.getD 1 []).length
def qT5 (bk:List zD)(u loc i:Int)(ds:List (List UInt8)):V:=
 if qLd (bk.getD 0 []).length (bk.getD 1 []).length loc i ds.length (ds.getD 0 []).length (ds.getD 1 []).length=0 then .tup [.t (yR (qSb bk i.toNat ds) (u+1)),.t (.int .i64 0)]
 else .tup [.t (yR [] 0),.t (.int .i64 (qLd (bk.getD 0 []).length (bk.getD 1 []).length loc i ds.length (ds.getD 0 []).length (ds.getD 1 []).length))]
theorem zUw {x:List UInt8}:jI5 0 x=zG4 x:=rfl
theorem zUx {x:List UInt8}:jI5 1 x=jF x:=rfl
theorem qC2 {x:List UInt8}:List.take 20 (zG4 x)=zG4 x:=take_of_length_le (by rw[yH];exact Nat.le_refl _)
theorem wY {x:List UInt8}:List.take 32 (jF x)=jF x:=take_of_length_le (by rw[qO];exact Nat.le_refl _)
theorem qP1 (h1:LkC tab 232 qAr)(h2:LkC tab 234 qH1)(h3:LkC tab 233 qL8)(h4:LkC tab 161 qCi)(h5:LkC tab 231 kJ)(h6:LkC tab 124 qE6)
  (b0 b1:zD) (u loc:Int) (n:Nat) (d0 d1:List UInt8) (hu:0<=u/\u<1000000000) (hk:RM [b0,b1]) (hv0:(b0.getD n []).length<=64) (hv1:(b1.getD n []).length<=64) (hd:d0.length<9223372036854775808/\d1.length<9223372036854775808) (e1:¬(loc<0\/4<loc\/16<=n)) (e2:¬ loc<qDu n false) :
  zC.1.wp tab gl (qD 0 [.t (yR [b0,b1] u),.t (.int .i64 loc),.t (.int .i64 n),.t (.sl [bsT d0,bsT d1])]) (qD 0 []) (qZ [(8,some (2,true)),(9,none)] 0 (λr o=>r=qT5 [b0,b1] u loc n [d0,d1]/\o=[])):=by
 have gg:zD0 b0/\zD0 b1:=by
  obtain⟨hrk,_⟩:=hk;cases hrk with
  |two _ _ h0 h1=>exact⟨h0,h1⟩
 obtain⟨g0,g1⟩:=gg;simp(disch:=omega)only[go_sem,zC,h1,qSf,h2,zB4,mcn];refine qEg (fs':=[(2,.t (.int .i64 (n:Nat))),(3,.t (.sl [bsT d0,bsT d1])),(4,.ref 4096 0 0),(8,.ref 4112 0 0),(38,.t (.sl [bsT d0,bsT d1])),(39,.t (.int .i64 2)),(40,.t (.int .i64 0))]) (hs':=[(4112,.live 2 [.agg [.nil,.t (.int .i64 0)]] true true),(4096,.live 2 [.t (yR [b0,b1] u)] true true)]) (qL.rd id ?_ ?_ rfl) ?_
 .simp(disch:=omega)only[go_sem,id]
 .simp(disch:=omega)only[go_sem,id]
 rcases g0 with z0|z0<;>rcases g1 with z1|z1
 .have zz:True:=trivial;by_cases p2:0<d0.length
  .have zz:True:=trivial;have hE:qLd 0 0 loc n 2 d0.length d1.length=27:=by unfold qLd;rw[if_neg oM,if_neg oM,if_pos oM]
   refine qJ 3 ?_;simp(disch:=omega)only[go_sem,qF,h3,kV hk.1,kW hk.1,h4,qT,qU,h5,jL hk,h6,zL,zI,z0,z1,hE,map_nil,qT5,qMa,getD_cons_zero,getD_cons_succ,length_cons,length_nil];all_goals repeat refine And.intro rfl ?_
   all_goals rfl
  .have zz:True:=trivial;by_cases p1:0<d1.length
   .have zz:True:=trivial;have hE:qLd 0 0 loc n 2 d0.length d1.length=27:=by unfold qLd;rw[if_neg oM,if_neg oM,if_pos oM]
    refine qJ 3 ?_;simp(disch:=omega)only[go_sem,qF,h3,kV hk.1,kW hk.1,h4,qT,qU,h5,jL hk,h6,zL,zI,z0,z1,hE,map_nil,qT5,qMa,getD_cons_zero,getD_cons_succ,length_cons,length_nil];all_goals repeat refine And.intro rfl ?_
    all_goals rfl
   .have zz:True:=trivial;refine qJ 3 ?_;simp(disch:=omega)only[go_sem,qF,h3,kV hk.1,kW hk.1,h4,qT,qU,h5,jL hk,h6,zL,zI,z0,z1];all_goals repeat refine And.intro rfl ?_
    refine qEg (fs':=[(2,.t (.int .i64 (n:Nat))),(3,.t (.sl [bsT d0,bsT d1])),(4,.ref 4096 0 0),(8,.ref 4112 0 0),(56,.t (.sl [bsT d0,bsT d1])),(57,.t (.int .i64 2)),(58,.t (.int .i64 0))]) (hs':=[(4112,.live 2 [.agg [.nil,.t (.int .i64 0)]] true true),(4096,.live 2 [.t (yR [b0,b1] u)] true true)]) (qL.rd id ?_ ?_ rfl) ?_
    .simp(disch:=omega)only[go_sem,id]
    .simp(disch:=omega)only[go_sem,id]
    have hE:qLd 0 0 loc n 2 d0.length d1.length=0:=by unfold qLd;rw[if_neg oM,if_neg oM,if_neg oM,if_neg oM]
    refine qJ 3 ?_;simp(disch:=omega)only[go_sem,qF,h3,kV hk.1,kW hk.1,h4,qT,qU,h5,jL hk,h6,zL,zI,z0,z1];all_goals repeat refine And.intro rfl ?_
    refine qB 2 (λk=>match k with|0=>[(2,.t (.int .i64 (n:Nat))),(3,.t (.sl [bsT d0,bsT d1])),(4,.ref 4096 0 0),(8,.ref 4112 0 0),(14,.ref 73760 0 0),(79,.t (.int .i64 2)),(80,.t (.int .i64 0))]|1=>[(2,.t (.int .i64 (n:Nat))),(3,.t (.sl [bsT d0,bsT d1])),(4,.ref 4096 0 0),(8,.ref 4112 0 0),(14,.ref 73760 0 0),(79,.t (.int .i64 2)),(80,.t (.int .i64 1))]|_=>[(2,.t (.int .i64 (n:Nat))),(3,.t (.sl [bsT d0,bsT d1])),(4,.ref 4096 0 0),(8,.ref 4112 0 0),(14,.ref 73760 0 0),(79,.t (.int .i64 2)),(80,.t (.int .i64 2))]) (λk=>match k with|0=>[(73760,.live 2 [.agg [.sl 73744 0 2,.t (.int .i64 u)]] true true),(73746,.live 1 (((b1).map bsT).map V.t) true false),(73745,.live 1 (((b0).map bsT).map V.t) true false),(73744,.live 1 [.sl 73745 0 0,.sl 73746 0 0] true false),(4112,.live 2 [.agg [.nil,.t (.int .i64 0)]] true true),(4096,.live 2 [.t (yR [b0,b1] u)] true true)]|1=>[(73760,.live 2 [.agg [.sl 73744 0 2,.t (.int .i64 u)]] true true),(73746,.live 1 (((b1).map bsT).map V.t) true false),(73745,.live 1 (((qC4 0 b0 n d0).map bsT).map V.t) true false),(73744,.live 1 [.sl 73745 0 0,.sl 73746 0 0] true false),(4112,.live 2 [.agg [.nil,.t (.int .i64 0)]] true true),(4096,.live 2 [.t (yR [b0,b1] u)] true true)]|_=>[(73760,.live 2 [.agg [.sl 73744 0 2,.t (.int .i64 u)]] true true),(73746,.live 1 (((qC4 1 b1 n d1).map bsT).map V.t) true false),(73745,.live 1 (((qC4 0 b0 n d0).map bsT).map V.t) true false),(73744,.live 1 [.sl 73745 0 0,.sl 73746 0 0] true false),(4112,.live 2 [.agg [.nil,.t (.int .i64 0)]] true true),(4096,.live 2 [.t (yR [b0,b1] u)] true true)]) ?_ (λk hk2=>?_)
    .refine qL.rd id ?_ ?_ rfl;all_goals simp(disch:=omega)only[go_sem,id,z0,z1]
    .rcases(show k=0\/k=1\/k=2 by omega)with rfl|rfl|rfl
     .have q:=take_of_length_le (show(b0.getD n []++d0).length<=(List.getD b0 n []).length+d0.length by rw[length_append];exact Nat.le_refl _);simp(disch:=omega)only[go_sem,h3,kV hk.1,kW hk.1,h4,qT,qU,h5,jL hk,h6,zL,zI,z0,z1,zA,q];refine qL.rd id ?_ ?_ rfl;all_goals simp(disch:=omega)only[go_sem,id,qC4,z0,z1]
     .have q:=take_of_length_le (show(b1.getD n []++d1).length<=(List.getD b1 n []).length+d1.length by rw[length_append];exact Nat.le_refl _);simp(disch:=omega)only[go_sem,h3,kV hk.1,kW hk.1,h4,qT,qU,h5,jL hk,h6,zL,zI,z0,z1,zA,q];refine qL.rd id ?_ ?_ rfl;all_goals simp(disch:=omega)only[go_sem,id,qC4,z0,z1]
     .have t0:List.take 0 (qC4 0 b0 n d0)=qC4 0 b0 n d0:=take_of_length_le (by rw[zA,z0];exact Nat.le_refl _);have t1:List.take 0 (qC4 1 b1 n d1)=qC4 1 b1 n d1:=take_of_length_le (by rw[zA,z1];exact Nat.le_refl _);have y0:qC4 0 b0 n d0=[]:=eq_nil_of_length_eq_zero (by rw[zA,z0]);have y1:qC4 1 b1 n d1=[]:=eq_nil_of_length_eq_zero (by rw[zA,z1]);simp(disch:=omega)only[go_sem,zA,t0,t1,z0,z1,hE,qSb,Int.toNat_natCast,mcn,y0,y1,qT5,qMa,getD_cons_zero,getD_cons_succ,length_cons,length_nil]
 .have zz:True:=trivial;by_cases p1:0<d0.length
  .have zz:True:=trivial;have hE:qLd 0 16 loc n 2 d0.length d1.length=27:=by unfold qLd;rw[if_neg oM,if_neg oM,if_pos oM]
   refine qJ 3 ?_;simp(disch:=omega)only[go_sem,qF,h3,kV hk.1,kW hk.1,h4,qT,qU,h5,jL hk,h6,zL,zI,z0,z1,hE,map_nil,qT5,qMa,getD_cons_zero,getD_cons_succ,length_cons,length_nil];all_goals repeat refine And.intro rfl ?_
   all_goals rfl
  .have zz:True:=trivial;refine qJ 3 ?_;simp(disch:=omega)only[go_sem,qF,h3,kV hk.1,kW hk.1,h4,qT,qU,h5,jL hk,h6,zL,zI,z0,z1];all_goals repeat refine And.intro rfl ?_
   refine qEg (fs':=[(2,.t (.int .i64 (n:Nat))),(3,.t (.sl [bsT d0,bsT d1])),(4,.ref 4096 0 0),(8,.ref 4112 0 0),(56,.t (.sl [bsT d0,bsT d1])),(57,.t (.int .i64 2)),(58,.t (.int .i64 0))]) (hs':=[(4112,.live 2 [.agg [.nil,.t (.int .i64 0)]] true true),(4096,.live 2 [.t (yR [b0,b1] u)] true true)]) (qL.rd id ?_ ?_ rfl) ?_
   .simp(disch:=omega)only[go_sem,id]
   .simp(disch:=omega)only[go_sem,id]
   by_cases q1:d1.length≠32
   .have zz:True:=trivial;have hE:qLd 0 16 loc n 2 d0.length d1.length=24:=by unfold qLd;rw[if_neg oM,if_neg oM,if_neg oM,if_pos oM]
    refine qJ 3 ?_;simp(disch:=omega)only[go_sem,qF,h3,kV hk.1,kW hk.1,h4,qT,qU,h5,jL hk,h6,zL,zI,z0,z1,hE,map_nil,qT5,qMa,getD_cons_zero,getD_cons_succ,length_cons,length_nil];all_goals repeat refine And.intro rfl ?_
    all_goals rfl
   .have zz:True:=trivial;have hE:qLd 0 16 loc n 2 d0.length d1.length=0:=by unfold qLd;rw[if_neg oM,if_neg oM,if_neg oM,if_neg oM]
    refine qJ 3 ?_;simp(disch:=omega)only[go_sem,qF,h3,kV hk.1,kW hk.1,h4,qT,qU,h5,jL hk,h6,zL,zI,z0,z1];all_goals repeat refine And.intro rfl ?_
    refine qB 2 (λk=>match k with|0=>[(2,.t (.int .i64 (n:Nat))),(3,.t (.sl [bsT d0,bsT d1])),(4,.ref 4096 0 0),(8,.ref 4112 0 0),(14,.ref 73760 0 0),(79,.t (.int .i64 2)),(80,.t (.int .i64 0))]|1=>[(2,.t (.int .i64 (n:Nat))),(3,.t (.sl [bsT d0,bsT d1])),(4,.ref 4096 0 0),(8,.ref 4112 0 0),(14,.ref 73760 0 0),(79,.t (.int .i64 2)),(80,.t (.int .i64 1))]|_=>[(2,.t (.int .i64 (n:Nat))),(3,.t (.sl [bsT d0,bsT d1])),(4,.ref 4096 0 0),(8,.ref 4112 0 0),(14,.ref 73760 0 0),(79,.t (.int .i64 2)),(80,.t (.int .i64 2))]) (λk=>match k with|0=>[(73760,.live 2 [.agg [.sl 73744 0 2,.t (.int .i64 u)]] true true),(73746,.live 1 (((b1).map bsT).map V.t) true false),(73745,.live 1 (((b0).map bsT).map V.t) true false),(73744,.live 1 [.sl 73745 0 0,.sl 73746 0 16] true false),(4112,.live 2 [.agg [.nil,.t (.int .i64 0)]] true true),(4096,.live 2 [.t (yR [b0,b1] u)] true true)]|1=>[(73760,.live 2 [.agg [.sl 73744 0 2,.t (.int .i64 u)]] true true),(73746,.live 1 (((b1).map bsT).map V.t) true false),(73745,.live 1 (((qC4 0 b0 n d0).map bsT).map V.t) true false),(73744,.live 1 [.sl 73745 0 0,.sl 73746 0 16] true false),(4112,.live 2 [.agg [.nil,.t (.int .i64 0)]] true true),(4096,.live 2 [.t (yR [b0,b1] u)] true true)]|_=>[(73760,.live 2 [.agg [.sl 73744 0 2,.t (.int .i64 u)]] true true),(73746,.live 1 (((qC4 1 b1 n d1).map bsT).map V.t) true false),(73745,.live 1 (((qC4 0 b0 n d0).map bsT).map V.t) true false),(73744,.live 1 [.sl 73745 0 0,.sl 73746 0 16] true false),(4112,.live 2 [.agg [.nil,.t (.int .i64 0)]] true true),(4096,.live 2 [.t (yR [b0,b1] u)] true true)]) ?_ (λk hk2=>?_)
    .refine qL.rd id ?_ ?_ rfl;all_goals simp(disch:=omega)only[go_sem,id,z0,z1]
    .rcases(show k=0\/k=1\/k=2 by omega)with rfl|rfl|rfl
     .have q:=take_of_length_le (show(b0.getD n []++d0).length<=(List.getD b0 n []).length+d0.length by rw[length_append];exact Nat.le_refl _);simp(disch:=omega)only[go_sem,h3,kV hk.1,kW hk.1,h4,qT,qU,h5,jL hk,h6,zL,zI,z0,z1,zA,q];refine qL.rd id ?_ ?_ rfl;all_goals simp(disch:=omega)only[go_sem,id,qC4,z0,z1]
     .have q:=take_of_length_le (show(b1.getD n []++d1).length<=(List.getD b1 n []).length+d1.length by rw[length_append];exact Nat.le_refl _);simp(maxSteps:=9^9)(disch:=try exact dS)only[go_sem,h3,kV hk.1,kW hk.1,h4,qT,qU,h5,jL hk,h6,zL,zI,z0,z1,zA,q];repeat refine And.intro rfl ?_
      refine qL.cv (hv:=[]) [94544] id ?_ rfl;simp(maxSteps:=9^9)(disch:=try exact dS)only[go_sem,id,qC4,z0,z1,qC2,wY,zUw,zUx,yH,qO];all_goals rfl
     .have t0:List.take 0 (qC4 0 b0 n d0)=qC4 0 b0 n d0:=take_of_length_le (by rw[zA,z0];exact Nat.le_refl _);have t1:List.take 16 (qC4 1 b1 n d1)=qC4 1 b1 n d1:=take_of_length_le (by rw[zA,z1];exact Nat.le_refl _);have y0:qC4 0 b0 n d0=[]:=eq_nil_of_length_eq_zero (by rw[zA,z0]);simp(disch:=omega)only[go_sem,zA,t0,t1,z0,z1,hE,qSb,Int.toNat_natCast,mcn,y0,qT5,qMa,getD_cons_zero,getD_cons_succ,length_cons,length_nil]
 .have zz:True:=trivial;by_cases p1:0<d1.length
  .have zz:True:=trivial;have hE:qLd 16 0 loc n 2 d0.length d1.length=27:=by unfold qLd;rw[if_neg oM,if_neg oM,if_pos oM]
   refine qJ 3 ?_;simp(disch:=omega)only[go_sem,qF,h3,kV hk.1,kW hk.1,h4,qT,qU,h5,jL hk,h6,zL,zI,z0,z1,hE,map_nil,qT5,qMa,getD_cons_zero,getD_cons_succ,length_cons,length_nil];all_goals repeat refine And.intro rfl ?_
   all_goals rfl
  .have zz:True:=trivial;refine qJ 3 ?_;simp(disch:=omega)only[go_sem,qF,h3,kV hk.1,kW hk.1,h4,qT,qU,h5,jL hk,h6,zL,zI,z0,z1];all_goals repeat refine And.intro rfl ?_
   refine qEg (fs':=[(2,.t (.int .i64 (n:Nat))),(3,.t (.sl [bsT d0,bsT d1])),(4,.ref 4096 0 0),(8,.ref 4112 0 0),(56,.t (.sl [bsT d0,bsT d1])),(57,.t (.int .i64 2)),(58,.t (.int .i64 0))]) (hs':=[(4112,.live 2 [.agg [.nil,.t (.int .i64 0)]] true true),(4096,.live 2 [.t (yR [b0,b1] u)] true true)]) (qL.rd id ?_ ?_ rfl) ?_
   .simp(disch:=omega)only[go_sem,id]
   .simp(disch:=omega)only[go_sem,id]
   by_cases q1:d0.length≠20
   .have zz:True:=trivial;have hE:qLd 16 0 loc n 2 d0.length d1.length=24:=by unfold qLd;rw[if_neg oM,if_neg oM,if_neg oM,if_pos oM]
    refine qJ 3 ?_;simp(disch:=omega)only[go_sem,qF,h3,kV hk.1,kW hk.1,h4,qT,qU,h5,jL hk,h6,zL,zI,z0,z1,hE,map_nil,qT5,qMa,getD_cons_zero,getD_cons_succ,length_cons,length_nil];all_goals repeat refine And.intro rfl ?_
    all_goals rfl
   .have zz:True:=trivial;have hE:qLd 16 0 loc n 2 d0.length d1.length=0:=by unfold qLd;rw[if_neg oM,if_neg oM,if_neg oM,if_neg oM]
    refine qJ 3 ?_;simp(disch:=omega)only[go_sem,qF,h3,kV hk.1,kW hk.1,h4,qT,qU,h5,jL hk,h6,zL,zI,z0,z1];all_goals repeat refine And.intro rfl ?_
    refine qB 2 (λk=>match k with|0=>[(2,.t (.int .i64 (n:Nat))),(3,.t (.sl [bsT d0,bsT d1])),(4,.ref 4096 0 0),(8,.ref 4112 0 0),(14,.ref 73760 0 0),(79,.t (.int .i64 2)),(80,.t (.int .i64 0))]|1=>[(2,.t (.int .i64 (n:Nat))),(3,.t (.sl [bsT d0,bsT d1])),(4,.ref 4096 0 0),(8,.ref 4112 0 0),(14,.ref 73760 0 0),(79,.t (.int .i64 2)),(80,.t (.int .i64 1))]|_=>[(2,.t (.int .i64 (n:Nat))),(3,.t (.sl [bsT d0,bsT d1])),(4,.ref 4096 0 0),(8,.ref 4112 0 0),(14,.ref 73760 0 0),(79,.t (.int .i64 2)),(80,.t (.int .i64 2))]) (λk=>match k with|0=>[(73760,.live 2 [.agg [.sl 73744 0 2,.t (.int .i64 u)]] true true),(73746,.live 1 (((b1).map bsT).map V.t) true false),(73745,.live 1 (((b0).map bsT).map V.t) true false),(73744,.live 1 [.sl 73745 0 16,.sl 73746 0 0] true false),(4112,.live 2 [.agg [.nil,.t (.int .i64 0)]] true true),(4096,.live 2 [.t (yR [b0,b1] u)] true true)]|1=>[(73760,.live 2 [.agg [.sl 73744 0 2,.t (.int .i64 u)]] true true),(73746,.live 1 (((b1).map bsT).map V.t) true false),(73745,.live 1 (((qC4 0 b0 n d0).map bsT).map V.t) true false),(73744,.live 1 [.sl 73745 0 16,.sl 73746 0 0] true false),(4112,.live 2 [.agg [.nil,.t (.int .i64 0)]] true true),(4096,.live 2 [.t (yR [b0,b1] u)] true true)]|_=>[(73760,.live 2 [.agg [.sl 73744 0 2,.t (.int .i64 u)]] true true),(73746,.live 1 (((qC4 1 b1 n d1).map bsT).map V.t) true false),(73745,.live 1 (((qC4 0 b0 n d0).map bsT).map V.t) true false),(73744,.live 1 [.sl 73745 0 16,.sl 73746 0 0] true false),(4112,.live 2 [.agg [.nil,.t (.int .i64 0)]] true true),(4096,.live 2 [.t (yR [b0,b1] u)] true true)]) ?_ (λk hk2=>?_)
    .refine qL.rd id ?_ ?_ rfl;all_goals simp(disch:=omega)only[go_sem,id,z0,z1]
    .rcases(show k=0\/k=1\/k=2 by omega)with rfl|rfl|rfl
     .have q:=take_of_length_le (show(b0.getD n []++d0).length<=(List.getD b0 n []).length+d0.length by rw[length_append];exact Nat.le_refl _);simp(maxSteps:=9^9)(disch:=try exact dS)only[go_sem,h3,kV hk.1,kW hk.1,h4,qT,qU,h5,jL hk,h6,zL,zI,z0,z1,zA,q];repeat refine And.intro rfl ?_
      refine qL.cv (hv:=[]) [94544] id ?_ rfl;simp(maxSteps:=9^9)(disch:=try exact dS)only[go_sem,id,qC4,z0,z1,qC2,wY,zUw,zUx,yH,qO];all_goals rfl
     .have q:=take_of_length_le (show(b1.getD n []++d1).length<=(List.getD b1 n []).length+d1.length by rw[length_append];exact Nat.le_refl _);simp(disch:=omega)only[go_sem,h3,kV hk.1,kW hk.1,h4,qT,qU,h5,jL hk,h6,zL,zI,z0,z1,zA,q];refine qL.rd id ?_ ?_ rfl;all_goals simp(disch:=omega)only[go_sem,id,qC4,z0,z1]
     .have t0:List.take 16 (qC4 0 b0 n d0)=qC4 0 b0 n d0:=take_of_length_le (by rw[zA,z0];exact Nat.le_refl _);have t1:List.take 0 (qC4 1 b1 n d1)=qC4 1 b1 n d1:=take_of_length_le (by rw[zA,z1];exact Nat.le_refl _);have y1:qC4 1 b1 n d1=[]:=eq_nil_of_length_eq_zero (by rw[zA,z1]);simp(disch:=omega)only[go_sem,zA,t0,t1,z0,z1,hE,qSb,Int.toNat_natCast,mcn,y1,qT5,qMa,getD_cons_zero,getD_cons_succ,length_cons,length_nil]
 .have zz:True:=trivial;refine qJ 3 ?_;simp(disch:=omega)only[go_sem,qF,h3,kV hk.1,kW hk.1,h4,qT,qU,h5,jL hk,h6,zL,zI,z0,z1];all_goals repeat refine And.intro rfl ?_
  refine qEg (fs':=[(2,.t (.int .i64 (n:Nat))),(3,.t (.sl [bsT d0,bsT d1])),(4,.ref 4096 0 0),(8,.ref 4112 0 0),(56,.t (.sl [bsT d0,bsT d1])),(57,.t (.int .i64 2)),(58,.t (.int .i64 0))]) (hs':=[(4112,.live 2 [.agg [.nil,.t (.int .i64 0)]] true true),(4096,.live 2 [.t (yR [b0,b1] u)] true true)]) (qL.rd id ?_ ?_ rfl) ?_
  .simp(disch:=omega)only[go_sem,id]
  .simp(disch:=omega)only[go_sem,id]
  by_cases q2:d0.length≠20
  .have zz:True:=trivial;have hE:qLd 16 16 loc n 2 d0.length d1.length=24:=by unfold qLd;rw[if_neg oM,if_neg oM,if_neg oM,if_pos oM]
   refine qJ 3 ?_;simp(disch:=omega)only[go_sem,qF,h3,kV hk.1,kW hk.1,h4,qT,qU,h5,jL hk,h6,zL,zI,z0,z1,hE,map_nil,qT5,qMa,getD_cons_zero,getD_cons_succ,length_cons,length_nil];all_goals repeat refine And.intro rfl ?_
   all_goals rfl
  .have zz:True:=trivial;by_cases q1:d1.length≠32
   .have zz:True:=trivial;have hE:qLd 16 16 loc n 2 d0.length d1.length=24:=by unfold qLd;rw[if_neg oM,if_neg oM,if_neg oM,if_pos oM]
    refine qJ 3 ?_;simp(disch:=omega)only[go_sem,qF,h3,kV hk.1,kW hk.1,h4,qT,qU,h5,jL hk,h6,zL,zI,z0,z1,hE,map_nil,qT5,qMa,getD_cons_zero,getD_cons_succ,length_cons,length_nil];all_goals repeat refine And.intro rfl ?_
    all_goals rfl
   .have zz:True:=trivial;have hE:qLd 16 16 loc n 2 d0.length d1.length=0:=by unfold qLd;rw[if_neg oM,if_neg oM,if_neg oM,if_neg oM]
    refine qJ 3 ?_;simp(disch:=omega)only[go_sem,qF,h3,kV hk.1,kW hk.1,h4,qT,qU,h5,jL hk,h6,zL,zI,z0,z1];all_goals repeat refine And.intro rfl ?_
    refine qB 2 (λk=>match k with|0=>[(2,.t (.int .i64 (n:Nat))),(3,.t (.sl [bsT d0,bsT d1])),(4,.ref 4096 0 0),(8,.ref 4112 0 0),(14,.ref 73760 0 0),(79,.t (.int .i64 2)),(80,.t (.int .i64 0))]|1=>[(2,.t (.int .i64 (n:Nat))),(3,.t (.sl [bsT d0,bsT d1])),(4,.ref 4096 0 0),(8,.ref 4112 0 0),(14,.ref 73760 0 0),(79,.t (.int .i64 2)),(80,.t (.int .i64 1))]|_=>[(2,.t (.int .i64 (n:Nat))),(3,.t (.sl [bsT d0,bsT d1])),(4,.ref 4096 0 0),(8,.ref 4112 0 0),(14,.ref 73760 0 0),(79,.t (.int .i64 2)),(80,.t (.int .i64 2))]) (λk=>match k with|0=>[(73760,.live 2 [.agg [.sl 73744 0 2,.t (.int .i64 u)]] true true),(73746,.live 1 (((b1).map bsT).map V.t) true false),(73745,.live 1 (((b0).map bsT).map V.t) true false),(73744,.live 1 [.sl 73745 0 16,.sl 73746 0 16] true false),(4112,.live 2 [.agg [.nil,.t (.int .i64 0)]] true true),(4096,.live 2 [.t (yR [b0,b1] u)] true true)]|1=>[(73760,.live 2 [.agg [.sl 73744 0 2,.t (.int .i64 u)]] true true),(73746,.live 1 (((b1).map bsT).map V.t) true false),(73745,.live 1 (((qC4 0 b0 n d0).map bsT).map V.t) true false),(73744,.live 1 [.sl 73745 0 16,.sl 73746 0 16] true false),(4112,.live 2 [.agg [.nil,.t (.int .i64 0)]] true true),(4096,.live 2 [.t (yR [b0,b1] u)] true true)]|_=>[(73760,.live 2 [.agg [.sl 73744 0 2,.t (.int .i64 u)]] true true),(73746,.live 1 (((qC4 1 b1 n d1).map bsT).map V.t) true false),(73745,.live 1 (((qC4 0 b0 n d0).map bsT).map V.t) true false),(73744,.live 1 [.sl 73745 0 16,.sl 73746 0 16] true false),(4112,.live 2 [.agg [.nil,.t (.int .i64 0)]] true true),(4096,.live 2 [.t (yR [b0,b1] u)] true true)]) ?_ (λk hk2=>?_)
    .refine qL.rd id ?_ ?_ rfl;all_goals simp(disch:=omega)only[go_sem,id,z0,z1]
    .rcases(show k=0\/k=1\/k=2 by omega)with rfl|rfl|rfl
     .have q:=take_of_length_le (show(b0.getD n []++d0).length<=(List.getD b0 n []).length+d0.length by rw[length_append];exact Nat.le_refl _);simp(maxSteps:=9^9)(disch:=try exact dS)only[go_sem,h3,kV hk.1,kW hk.1,h4,qT,qU,h5,jL hk,h6,zL,zI,z0,z1,zA,q];repeat refine And.intro rfl ?_
      refine qL.cv (hv:=[]) [94544] id ?_ rfl;simp(maxSteps:=9^9)(disch:=try exact dS)only[go_sem,id,qC4,z0,z1,qC2,wY,zUw,zUx,yH,qO];all_goals rfl
     .have q:=take_of_length_le (show(b1.getD n []++d1).length<=(List.getD b1 n []).length+d1.length by rw[length_append];exact Nat.le_refl _);simp(maxSteps:=9^9)(disch:=try exact dS)only[go_sem,h3,kV hk.1,kW hk.1,h4,qT,qU,h5,jL hk,h6,zL,zI,z0,z1,zA,q];repeat refine And.intro rfl ?_
      refine qL.cv (hv:=[]) [94544] id ?_ rfl;simp(maxSteps:=9^9)(disch:=try exact dS)only[go_sem,id,qC4,z0,z1,qC2,wY,zUw,zUx,yH,qO];all_goals rfl
     .have t0:List.take 16 (qC4 0 b0 n d0)=qC4 0 b0 n d0:=take_of_length_le (by rw[zA,z0];exact Nat.le_refl _);have t1:List.take 16 (qC4 1 b1 n d1)=qC4 1 b1 n d1:=take_of_length_le (by rw[zA,z1];exact Nat.le_refl _);simp(disch:=omega)only[go_sem,zA,t0,t1,z0,z1,hE,qSb,Int.toNat_natCast,mcn,qT5,qMa,getD_cons_zero,getD_cons_succ,length_cons,length_nil]
theorem qJa (h1:LkC tab 232 qAr)(h2:LkC tab 234 qH1)(bk:List zD)(u loc i:Int)(ds:List (List UInt8))(hd:ds.length<1000000000)
  (hb:(loc<0\/4<loc\/i<0\/16<=i\/ds.length≠2)\/loc<qDu i false) :
  zC.1.wp tab gl (qD 0 [.t (yR bk u),.t (.int .i64 loc),.t (.int .i64 i),.t (.sl (ds.map bsT))]) (qD 0 []) (qZ [(8,some (2,true)),(9,none)] 0 (λr o=>r=.tup [.t (yR [] 0),.t (.int .i64 (if loc<0\/4<loc\/i<0\/16<=i\/ds.length≠2 then 1 else 13))]/\o=[])):=by
 by_cases a1:loc<0
 .simp(disch:=omega)only[go_sem,zC,a1,map_nil]
 .by_cases a2:4<loc
  .simp(disch:=omega)only[go_sem,zC,a1,a2,map_nil]
  .by_cases a3:i<0
   .simp(disch:=omega)only[go_sem,zC,a1,a2,a3,h1,zH9,map_nil]
   .by_cases a4:16<=i
    .simp(disch:=omega)only[go_sem,zC,a1,a2,a3,a4,h1,zH9,map_nil]
    .by_cases a5:ds.length=2
     .have a6:loc<qDu i false:=by rcases hb with h|h;(omega);(exact h)
      simp(disch:=omega)only[go_sem,zC,a1,a2,a3,a4,a5,a6,h1,qSf,h2,zB4,map_nil,ne_eq]
     .simp(disch:=omega)only[go_sem,zC,a1,a2,a3,a4,a5,h1,qSf,map_nil,ne_eq]
theorem qP0 (h1:LkC tab 232 qAr)(h2:LkC tab 234 qH1)(h3:LkC tab 233 qL8)(h5:LkC tab 231 kJ)
  (u loc:Int) (n:Nat) (d0 d1:List UInt8) (hu:0<=u/\u<1000000000) (hd:d0.length<9223372036854775808/\d1.length<9223372036854775808) (e1:¬(loc<0\/4<loc\/16<=n)) (e2:¬ loc<qDu n false) :
  zC.1.wp tab gl (qD 0 [.t (yR [] u),.t (.int .i64 loc),.t (.int .i64 n),.t (.sl [bsT d0,bsT d1])]) (qD 0 []) (qZ [(8,some (2,true)),(9,none)] 0 (λr o=>r=qT5 [] u loc n [d0,d1]/\o=[])):=by
 have c0:=jDs (u:=u) (a:=0) oM;have c1:=jDs (u:=u) (a:=1) oM;rw[show((0:Nat):Int)=0 from rfl]at c0;rw[show((1:Nat):Int)=1 from rfl]at c1;simp(disch:=omega)only[go_sem,zC,h1,qSf,h2,zB4,mcn];refine qEg (fs':=[(2,.t (.int .i64 (n:Nat))),(3,.t (.sl [bsT d0,bsT d1])),(4,.ref 4096 0 0),(8,.ref 4112 0 0),(38,.t (.sl [bsT d0,bsT d1])),(39,.t (.int .i64 2)),(40,.t (.int .i64 0))]) (hs':=[(4112,.live 2 [.agg [.nil,.t (.int .i64 0)]] true true),(4096,.live 2 [.t (yR [] u)] true true)]) (qL.rd id ?_ ?_ rfl) ?_
 .simp(disch:=omega)only[go_sem,id]
 .simp(disch:=omega)only[go_sem,id,map_nil]
 by_cases p:0<d0.length\/0<d1.length
 .have hE:qLd 0 0 loc n 2 d0.length d1.length=27:=by unfold qLd;rw[if_neg oM,if_neg oM,if_pos oM]
  by_cases p0:0<d0.length
  .refine qJ 3 ?_;simp(disch:=omega)only[go_sem,qF,h3,c0,c1,hE,map_nil,qT5,qMa,getD_nil,getD_cons_zero,getD_cons_succ,length_cons,length_nil]
  .refine qJ 3 ?_;simp(disch:=omega)only[go_sem,qF,h3,c0,c1,hE,map_nil,qT5,qMa,getD_nil,getD_cons_zero,getD_cons_succ,length_cons,length_nil]
 .have hE:qLd 0 0 loc n 2 d0.length d1.length=0:=by unfold qLd;rw[if_neg oM,if_neg oM,if_neg oM,if_neg oM]
  refine qJ 3 ?_;simp(disch:=omega)only[go_sem,qF,h3,c0,c1,map_nil];refine qJ 3 ?_;simp(disch:=omega)only[go_sem,qF,h3,c0,c1,h5,zMn,map_nil];refine qJ 1 ?_;simp(disch:=omega)only[go_sem,qF,hE,map_nil,qT5,qMa,qSb,getD_nil,getD_cons_zero,getD_cons_succ,length_cons,length_nil]
def RV (bk:List zD):Prop:=RK bk/\∀b∈bk,∀x∈b,x.length<=64
theorem RV.rm {bk:List zD}(h:RV bk):RM bk:=by
 refine⟨h.1,λb hb=>⟨?_,λx hx=>Nat.lt_of_le_of_lt (h.2 b hb x hx) oM⟩⟩;have:zD0 b:=by
  obtain⟨hk,_⟩:=h;cases hk with
  |nil=>simp at hb
  |two b0 b1 h0 h1=>
   simp only[mem_cons,not_mem_nil,or_false]at hb;rcases hb with rfl|rfl
   .exact h0
   .exact h1
 rcases this with h|h<;>omega
theorem qPg {b:zD}{m n:Nat}(h:∀x∈b,x.length<=m):(b.getD n []).length<=m:=by
 by_cases hi:n<List.length b
 .have:b.getD n []=b[n]:=by simp[List.getD,hi]
  rw[this];exact h _ (getElem_mem hi)
 .simp[List.getD,getElem?_eq_none (Nat.le_of_not_lt hi)]
abbrev jKa:=List zD×Int×Int×Int×List (List UInt8)
def jC2 (x:jKa):Prop:=RV x.1/\(0<=x.2.1/\x.2.1<1000000000)/\x.2.2.2.2.length<1000000000/\∀d∈x.2.2.2.2,d.length<9223372036854775808
def qI0:Ct where
 α:=jKa
 aS x:=[.t (yR x.1 x.2.1),.t (.int .i64 x.2.2.1),.t (.int .i64 x.2.2.2.1),.t (.sl (x.2.2.2.2.map bsT))]
 ins _:=[]
 pre:=jC2
 r x:=qT5 x.1 x.2.1 x.2.2.1 x.2.2.2.1 x.2.2.2.2
 outs _:=[]
 inj:=by
  rintro⟨a,u,l,i,ds⟩ ⟨b,v,l',i',ds'⟩ h _;simp only[List.cons.injEq,V.t.injEq,T.int.injEq,T.sl.injEq,true_and,and_true,qC0]at h;obtain⟨h1,rfl,rfl,rfl⟩:=h;obtain⟨rfl,rfl⟩:=qCt h1;exact⟨rfl,rfl⟩
theorem zXf {bk:List zD}{u loc i:Int}{ds:List (List UInt8)}(hb:(loc<0\/4<loc\/i<0\/16<=i\/ds.length≠2)\/loc<qDu i false) :
  qT5 bk u loc i ds=.tup [.t (yR [] 0),.t (.int .i64 (if loc<0\/4<loc\/i<0\/16<=i\/ds.length≠2 then 1 else 13))]:=by
 have he:qLd (bk.getD 0 []).length (bk.getD 1 []).length loc i ds.length (ds.getD 0 []).length (ds.getD 1 []).length=if loc<0\/4<loc\/i<0\/16<=i\/ds.length≠2 then 1 else 13:=by
  unfold qLd;by_cases h:loc<0\/4<loc\/i<0\/16<=i\/ds.length≠2
  .rw[if_pos h,if_pos h]
  .have h2:loc<qDu i false:=by rcases hb with h'|h';exact absurd h' h;exact h'
   rw[if_neg h,if_neg h,if_pos h2]
 unfold qT5;rw[he];split
 .split at *<;>simp_all
 .rfl
theorem qRp (h1:LkC tab 232 qAr)(h2:LkC tab 234 qH1)(h3:LkC tab 233 qL8)(h4:LkC tab 161 qCi)(h5:LkC tab 231 kJ)(h6:LkC tab 124 qE6)(x:qI0.α)(hx:qI0.pre x) :
  zC.1.wp tab gl (qD 0 (qI0.aS x)) (qD 0 (qI0.ins x)) (qZ [(8,some (2,true)),(9,none)] (qI0.ins x).length (λr o=>r=qI0.r x/\o=qI0.outs x)):=by
 obtain⟨bk,u,loc,i,ds⟩:=x;obtain⟨hv,hu,hd,hd2⟩:=hx;simp only[qI0]at *;by_cases hb:(loc<0\/4<loc\/i<0\/16<=i\/ds.length≠2)\/loc<qDu i false
 .rw[zXf hb];exact qJa tab gl h1 h2 bk u loc i ds hd hb
 .obtain⟨n,rfl⟩:=Int.eq_ofNat_of_zero_le (show 0<=i by omega)
  match ds,hd2,hb with
  |[d0,d1],hd2,hb=>
   have m0:=hd2 d0 sM;have m1:=hd2 d1 sM;have e1:¬(loc<0\/4<loc\/16<=n):=oM;have e2:¬ loc<qDu n false:=oM;have hm:=hv.rm;obtain⟨hk,hl⟩:=hv;cases hk with
   |nil=>exact qP0 tab gl h1 h2 h3 h5 u loc n d0 d1 hu ⟨m0,m1⟩ e1 e2
   |two b0 b1 g0 g1=>exact qP1 tab gl h1 h2 h3 h4 h5 h6 b0 b1 u loc n d0 d1 hu hm (qPg (hl b0 sM)) (qPg (hl b1 sM)) ⟨m0,m1⟩ e1 e2
  |[],_,hb=>simp at hb
  |[_],_,hb=>simp at hb
  |_::_::_::_,_,hb=>simp at hb
def qWd (bk:List zD)(data:List UInt8):List (List UInt8):=[if onB bk 0 then zG4 data else [],if onB bk 1 then jF data else []]
def evR (bk:List zD)(u loc i:Int)(data:List UInt8):V:=if 128<data.length then .tup [.t (yR [] 0),.t (.int .i64 4)] else qT5 bk u loc i (qWd bk data)
theorem zM7 {bk:List zD}{u loc i:Int}{ds:List (List UInt8)}:∃(bk':List zD)(u' e:Int),qT5 bk u loc i ds=.tup [.t (.agg [.sl (bk'.map vU),.int .i64 u']),.t (.int .i64 e)]:=by
 unfold qT5;split
 .exact⟨_,_,_,rfl⟩
 .exact⟨[],0,_,rfl⟩
theorem jL6 {bk:List zD}{u loc i:Int}{ds:List (List UInt8)}(h:jC2 (bk,u,loc,i,ds)):qI0.fs [.t (.agg [.sl (bk.map vU),.int .i64 u]),.t (.int .i64 loc),.t (.int .i64 i),.t (.sl (ds.map bsT))] []=some (qT5 bk u loc i ds,[]):=qI0.eq (bk,u,loc,i,ds) h
theorem zK8 {bk:List zD}{data:List UInt8}:(qWd bk data).length<1000000000/\∀d∈qWd bk data,d.length<9223372036854775808:=by
 refine⟨by simp[qWd],?_⟩;intro d hd;simp only[qWd,mem_cons,not_mem_nil,or_false]at hd;rcases hd with rfl|rfl
 .split
  .rw[yH];omega
  .simp
 .split
  .rw[qO];omega
  .simp
theorem qTb (h1:LkC tab 233 qL8)(h2:LkC tab 124 qE6)(h3:LkC tab 169 qI0)(bk:List zD)(u loc i:Int)(data:List UInt8)(hk:RV bk)(hu:0<=u/\u<1000000000)(hd:data.length<1000000000) :
  kS.1.wp tab gl (qD 0 [.t (yR bk u),.t (.int .i64 loc),.t (.int .i64 i),.t (.sl (data.map qA))]) (qD 0 []) (qZ [(8,some (2,true)),(9,none)] 0 (λr o=>r=evR bk u loc i data/\o=[])):=by
 have c0:=zSt (u:=u) (a:=0) hk.1 oM;have c1:=zSt (u:=u) (a:=1) hk.1 oM;rw[show((0:Nat):Int)=0 from rfl]at c0;rw[show((1:Nat):Int)=1 from rfl]at c1;by_cases hl:128<data.length
 .simp(disch:=omega)only[go_sem,kS,evR,hl,map_nil]
 rw[evR,if_neg hl];have hx:=jL6 (bk:=bk) (u:=u) (loc:=loc) (i:=i) (ds:=qWd bk data) ⟨hk,hu,zK8.1,zK8.2⟩;obtain⟨bk',u',e,he⟩:=zM7 (bk:=bk) (u:=u) (loc:=loc) (i:=i) (ds:=qWd bk data);rw[he]at hx;rw[he];simp(disch:=omega)only[go_sem,kS];cases o0:onB bk 0<;>cases o1:onB bk 1<;>rw[o0]at c0<;>rw[o1]at c1
 .have hdig:qWd bk data=[[],[]]:=by rw[qWd,o0,o1];rfl
  have hx':=hx;rw[hdig]at hx';simp only[mcn,qG]at hx';refine qB 2 (λk=>match k with|0=>[(1,.t (.int .i64 loc)),(2,.t (.int .i64 i)),(3,.t (.sl (data.map qA))),(4,.ref 4096 0 0),(8,.ref 4112 0 0),(10,.sl 16384 0 2),(18,.t (.int .i64 2)),(19,.t (.int .i64 0))]|1=>[(1,.t (.int .i64 loc)),(2,.t (.int .i64 i)),(3,.t (.sl (data.map qA))),(4,.ref 4096 0 0),(8,.ref 4112 0 0),(10,.sl 16384 0 2),(18,.t (.int .i64 2)),(19,.t (.int .i64 1))]|_=>[(1,.t (.int .i64 loc)),(2,.t (.int .i64 i)),(3,.t (.sl (data.map qA))),(4,.ref 4096 0 0),(8,.ref 4112 0 0),(10,.sl 16384 0 2),(18,.t (.int .i64 2)),(19,.t (.int .i64 2))]) (λk=>match k with|0=>[(16384,.live 1 [.t (bsT []),.t (bsT [])] true false),(4112,.live 2 [.agg [.nil,.t (.int .i64 0)]] true true),(4096,.live 2 [.t (yR bk u)] true true)]|1=>[(16384,.live 1 [.t (bsT ([])),.t (bsT [])] true false),(4112,.live 2 [.agg [.nil,.t (.int .i64 0)]] true true),(4096,.live 2 [.t (yR bk u)] true true)]|_=>[(16384,.live 1 [.t (bsT ([])),.t (bsT ([]))] true false),(4112,.live 2 [.agg [.nil,.t (.int .i64 0)]] true true),(4096,.live 2 [.t (yR bk u)] true true)]) ?_ (λk hk2=>?_)
  .refine qL.rd id ?_ ?_ rfl;all_goals simp(disch:=omega)only[go_sem,id,map_nil]
  .rcases(show k=0\/k=1\/k=2 by omega)with rfl|rfl|rfl
   .simp(disch:=omega)only[go_sem,h1,h2,c0,c1,zL,zI,map_nil];refine qL.rd id ?_ ?_ rfl;all_goals simp(disch:=omega)only[go_sem,id,map_nil]
   .simp(disch:=omega)only[go_sem,h1,h2,c0,c1,zL,zI,map_nil];refine qL.rd id ?_ ?_ rfl;all_goals simp(disch:=omega)only[go_sem,id,map_nil]
   .simp(disch:=omega)only[go_sem,h1,h2,c0,c1,zL,zI,mcn,h3,hx']
 .have hdig:qWd bk data=[[],jF data]:=by rw[qWd,o0,o1];rfl
  have hx':=hx;rw[hdig]at hx';simp only[mcn,qG]at hx';refine qB 2 (λk=>match k with|0=>[(1,.t (.int .i64 loc)),(2,.t (.int .i64 i)),(3,.t (.sl (data.map qA))),(4,.ref 4096 0 0),(8,.ref 4112 0 0),(10,.sl 16384 0 2),(18,.t (.int .i64 2)),(19,.t (.int .i64 0))]|1=>[(1,.t (.int .i64 loc)),(2,.t (.int .i64 i)),(3,.t (.sl (data.map qA))),(4,.ref 4096 0 0),(8,.ref 4112 0 0),(10,.sl 16384 0 2),(18,.t (.int .i64 2)),(19,.t (.int .i64 1))]|_=>[(1,.t (.int .i64 loc)),(2,.t (.int .i64 i)),(3,.t (.sl (data.map qA))),(4,.ref 4096 0 0),(8,.ref 4112 0 0),(10,.sl 16384 0 2),(18,.t (.int .i64 2)),(19,.t (.int .i64 2))]) (λk=>match k with|0=>[(16384,.live 1 [.t (bsT []),.t (bsT [])] true false),(4112,.live 2 [.agg [.nil,.t (.int .i64 0)]] true true),(4096,.live 2 [.t (yR bk u)] true true)]|1=>[(16384,.live 1 [.t (bsT ([])),.t (bsT [])] true false),(4112,.live 2 [.agg [.nil,.t (.int .i64 0)]] true true),(4096,.live 2 [.t (yR bk u)] true true)]|_=>[(16384,.live 1 [.t (bsT ([])),.t (bsT (jF data))] true false),(4112,.live 2 [.agg [.nil,.t (.int .i64 0)]] true true),(4096,.live 2 [.t (yR bk u)] true true)]) ?_ (λk hk2=>?_)
  .refine qL.rd id ?_ ?_ rfl;all_goals simp(disch:=omega)only[go_sem,id,map_nil]
  .rcases(show k=0\/k=1\/k=2 by omega)with rfl|rfl|rfl
   .simp(disch:=omega)only[go_sem,h1,h2,c0,c1,zL,zI,map_nil];refine qL.rd id ?_ ?_ rfl;all_goals simp(disch:=omega)only[go_sem,id,map_nil]
   .simp(disch:=omega)only[go_sem,h1,h2,c0,c1,zL,zI,map_nil];refine qL.cv (hv:=[]) [36928] id ?_ rfl;simp(disch:=omega)only[go_sem,id,qC2,wY,map_nil,yH,qO];all_goals rfl
   .simp(disch:=omega)only[go_sem,h1,h2,c0,c1,zL,zI,mcn,h3,hx']
 .have hdig:qWd bk data=[zG4 data,[]]:=by rw[qWd,o0,o1];rfl
  have hx':=hx;rw[hdig]at hx';simp only[mcn,qG]at hx';refine qB 2 (λk=>match k with|0=>[(1,.t (.int .i64 loc)),(2,.t (.int .i64 i)),(3,.t (.sl (data.map qA))),(4,.ref 4096 0 0),(8,.ref 4112 0 0),(10,.sl 16384 0 2),(18,.t (.int .i64 2)),(19,.t (.int .i64 0))]|1=>[(1,.t (.int .i64 loc)),(2,.t (.int .i64 i)),(3,.t (.sl (data.map qA))),(4,.ref 4096 0 0),(8,.ref 4112 0 0),(10,.sl 16384 0 2),(18,.t (.int .i64 2)),(19,.t (.int .i64 1))]|_=>[(1,.t (.int .i64 loc)),(2,.t (.int .i64 i)),(3,.t (.sl (data.map qA))),(4,.ref 4096 0 0),(8,.ref 4112 0 0),(10,.sl 16384 0 2),(18,.t (.int .i64 2)),(19,.t (.int .i64 2))]) (λk=>match k with|0=>[(16384,.live 1 [.t (bsT []),.t (bsT [])] true false),(4112,.live 2 [.agg [.nil,.t (.int .i64 0)]] true true),(4096,.live 2 [.t (yR bk u)] true true)]|1=>[(16384,.live 1 [.t (bsT (zG4 data)),.t (bsT [])] true false),(4112,.live 2 [.agg [.nil,.t (.int .i64 0)]] true true),(4096,.live 2 [.t (yR bk u)] true true)]|_=>[(16384,.live 1 [.t (bsT (zG4 data)),.t (bsT ([]))] true false),(4112,.live 2 [.agg [.nil,.t (.int .i64 0)]] true true),(4096,.live 2 [.t (yR bk u)] true true)]) ?_ (λk hk2=>?_)
  .refine qL.rd id ?_ ?_ rfl;all_goals simp(disch:=omega)only[go_sem,id,map_nil]
  .rcases(show k=0\/k=1\/k=2 by omega)with rfl|rfl|rfl
   .simp(disch:=omega)only[go_sem,h1,h2,c0,c1,zL,zI,map_nil];refine qL.cv (hv:=[]) [36928] id ?_ rfl;simp(disch:=omega)only[go_sem,id,qC2,wY,map_nil,yH,qO];all_goals rfl
   .simp(disch:=omega)only[go_sem,h1,h2,c0,c1,zL,zI,map_nil];refine qL.rd id ?_ ?_ rfl;all_goals simp(disch:=omega)only[go_sem,id,map_nil]
   .simp(disch:=omega)only[go_sem,h1,h2,c0,c1,zL,zI,mcn,h3,hx']
 .have hdig:qWd bk data=[zG4 data,jF data]:=by rw[qWd,o0,o1];rfl
  have hx':=hx;rw[hdig]at hx';simp only[mcn,qG]at hx';refine qB 2 (λk=>match k with|0=>[(1,.t (.int .i64 loc)),(2,.t (.int .i64 i)),(3,.t (.sl (data.map qA))),(4,.ref 4096 0 0),(8,.ref 4112 0 0),(10,.sl 16384 0 2),(18,.t (.int .i64 2)),(19,.t (.int .i64 0))]|1=>[(1,.t (.int .i64 loc)),(2,.t (.int .i64 i)),(3,.t (.sl (data.map qA))),(4,.ref 4096 0 0),(8,.ref 4112 0 0),(10,.sl 16384 0 2),(18,.t (.int .i64 2)),(19,.t (.int .i64 1))]|_=>[(1,.t (.int .i64 loc)),(2,.t (.int .i64 i)),(3,.t (.sl (data.map qA))),(4,.ref 4096 0 0),(8,.ref 4112 0 0),(10,.sl 16384 0 2),(18,.t (.int .i64 2)),(19,.t (.int .i64 2))]) (λk=>match k with|0=>[(16384,.live 1 [.t (bsT []),.t (bsT [])] true false),(4112,.live 2 [.agg [.nil,.t (.int .i64 0)]] true true),(4096,.live 2 [.t (yR bk u)] true true)]|1=>[(16384,.live 1 [.t (bsT (zG4 data)),.t (bsT [])] true false),(4112,.live 2 [.agg [.nil,.t (.int .i64 0)]] true true),(4096,.live 2 [.t (yR bk u)] true true)]|_=>[(16384,.live 1 [.t (bsT (zG4 data)),.t (bsT (jF data))] true false),(4112,.live 2 [.agg [.nil,.t (.int .i64 0)]] true true),(4096,.live 2 [.t (yR bk u)] true true)]) ?_ (λk hk2=>?_)
  .refine qL.rd id ?_ ?_ rfl;all_goals simp(disch:=omega)only[go_sem,id,map_nil]
  .rcases(show k=0\/k=1\/k=2 by omega)with rfl|rfl|rfl
   .simp(disch:=omega)only[go_sem,h1,h2,c0,c1,zL,zI,map_nil];refine qL.cv (hv:=[]) [36928] id ?_ rfl;simp(disch:=omega)only[go_sem,id,qC2,wY,map_nil,yH,qO];all_goals rfl
   .simp(disch:=omega)only[go_sem,h1,h2,c0,c1,zL,zI,map_nil];refine qL.cv (hv:=[]) [36928] id ?_ rfl;simp(disch:=omega)only[go_sem,id,qC2,wY,map_nil,yH,qO];all_goals rfl
   .simp(disch:=omega)only[go_sem,h1,h2,c0,c1,zL,zI,mcn,h3,hx']
theorem RM.bank {bk:List zD}(h:RM bk)(a:Nat):zYr (bk.getD a []):=by
 by_cases ha:a<bk.length
 .have e:bk.getD a []=bk[a]:=by simp[List.getD,ha]
  rw[e];exact h.2 _ (getElem_mem ha)
 .have e:bk.getD a []=[]:=by simp[List.getD,getElem?_eq_none (Nat.le_of_not_lt ha)]
  rw[e];exact⟨sM,sM⟩
def qAg:Ct where
 α:=Int
 aS s:=[.t (.int .i64 s)]
 ins _:=[]
 pre _:=True
 r s:=twR (vL s) 0
 outs s:=twO (vL s)
 inj:=by
  rintro a b h _;simp only[List.cons.injEq,V.t.injEq,T.int.injEq,true_and,and_true]at h;subst h;exact⟨rfl,rfl⟩
def zQo:Ct where
 α:=List zD×Int×Int×Int×List UInt8
 aS x:=[.t (yR x.1 x.2.1),.t (.int .i64 x.2.2.1),.t (.int .i64 x.2.2.2.1),.t (.sl (x.2.2.2.2.map qA))]
 ins _:=[]
 pre x:=RV x.1/\(0<=x.2.1/\x.2.1<1000000000)/\x.2.2.2.2.length<1000000000
 r x:=evR x.1 x.2.1 x.2.2.1 x.2.2.2.1 x.2.2.2.2
 outs _:=[]
 inj:=by
  rintro⟨a,u,l,i,d⟩ ⟨b,v,l',i',d'⟩ h _;simp only[List.cons.injEq,V.t.injEq,T.int.injEq,T.sl.injEq,true_and,and_true,jC]at h;obtain⟨h1,rfl,rfl,rfl⟩:=h;obtain⟨rfl,rfl⟩:=qCt h1;exact⟨rfl,rfl⟩
def zK1:Ct where
 α:=List zD×Int×Int×Int
 aS x:=[.t (yR x.1 x.2.1),.t (.int .i64 x.2.2.1),.t (.int .i64 x.2.2.2)]
 ins _:=[]
 pre x:=RM x.1
 r x:=jJg x.1 x.2.2.1 x.2.2.2
 outs x:=jJf x.1 x.2.2.1 x.2.2.2
 inj:=by
  rintro⟨a,u,l,i⟩ ⟨b,v,l',i'⟩ h _;simp only[List.cons.injEq,V.t.injEq,T.int.injEq,true_and,and_true]at h;obtain⟨h1,rfl,rfl⟩:=h;obtain⟨rfl,rfl⟩:=qCt h1;exact⟨rfl,rfl⟩
theorem zSl {a:Nat}(ha:a<2):zD0 (qB0 a):= .inr qK
theorem zSk {a:Nat}(ha:a<2):∀x∈qB0 a,x.length<=64:=by
 intro x hx;simp only[qB0,mem_map,mem_range]at hx;obtain⟨i,_,rfl⟩:=hx;simp only[length_replicate];have:a=0\/a=1:=oM;rcases this with rfl|rfl<;>decide
theorem zYv {s:Int}:RV (vL s):=by
 unfold vL;split
 .exact⟨.nil,sM⟩
 .refine⟨.two _ _ ?_ ?_,?_⟩
  .split
   .exact zSl oM
   .exact .inl rfl
  .split
   .exact zSl oM
   .exact .inl rfl
  .intro b hb;simp only[mem_cons,not_mem_nil,or_false]at hb;rcases hb with rfl|rfl
   .split
    .exact zSk oM
    .simp
   .split
    .exact zSk oM
    .simp
theorem qP6 (h1:LkC tab 228 qJz)(h2:LkC tab 229 qR4)(x:(qA1 5 qI8).α)(hx:(qA1 5 qI8).pre x) :
  wK.1.wp tab gl (qD 0 ((qA1 5 qI8).aS x)) (qD 0 ((qA1 5 qI8).ins x)) (qZ [] ((qA1 5 qI8).ins x).length (λr o=>r=(qA1 5 qI8).r x/\o=(qA1 5 qI8).outs x)):=by
 obtain⟨hs,bs⟩:=x;obtain⟨hb,hh⟩:=hx
 match hs,hh with
 |[x0,x1,x2,x3,x4],_=>exact qRj tab gl h1 h2 bs x0 x1 x2 x3 x4 hb
theorem qP8 (x:kD.α)(hx:kD.pre x) :
  yD.1.wp tab gl (qD 0 (kD.aS x)) (qD 0 (kD.ins x)) (qZ [(2,none)] (kD.ins x).length (λr o=>r=kD.r x/\o=kD.outs x)):=by
 obtain⟨bk,u⟩:=x;have hx':RK bk:=hx;clear hx;cases hx' with
 |nil=>exact qP4 tab gl u
 |two b0 b1 h0 h1=>exact qP5 tab gl b0 b1 (by rcases h0 with h|h<;>omega) (by rcases h1 with h|h<;>omega) u
theorem qTp (x:kJ.α)(hx:kJ.pre x) :
  yZ.1.wp tab gl (qD 0 (kJ.aS x)) (qD 0 (kJ.ins x)) (xO [] [(2,some (2,true))] (kJ.ins x).length (λr o=>r=kJ.r x/\o=kJ.outs x)):=by
 obtain⟨bk,u⟩:=x;obtain⟨hk,hm⟩:=hx;have hk':RK bk:=hk;clear hk;cases hk' with
 |nil=>exact qTf tab gl u
 |two b0 b1 h0 h1=>exact qTg tab gl b0 b1 u (hm b0 (.head _)) (hm b1 (.tail _ (.head _)))
theorem qU3 (h1:LkC tab 161 qCi)(h2:LkC tab 227 kI)(x:qAg.α) :
  jJ.1.wp tab gl (qD 0 (qAg.aS x)) (qD 0 (qAg.ins x)) (xO [] [(2,some (2,true))] (qAg.ins x).length (λr o=>r=qAg.r x/\o=qAg.outs x)):=by
 have x':Int:=x;by_cases h:(show Int from x)%4=0
 .have:=qUx tab gl x h;show jJ.1.wp tab gl (qD 0 [.t (.int .i64 x)]) (qD 0 []) (xO [] [(2,some (2,true))] 0 (λr o=>r=twR (vL x) 0/\o=twO (vL x)));have e:vL x=[]:=if_pos h;rw[e];exact this
 .exact qYk tab gl h1 h2 x h
theorem zJr (h1:LkC tab 35 qH0)(x:qAg.α) :
  wO.1.wp tab gl (qD 0 (qAg.aS x)) (qD 0 (qAg.ins x)) (xO [] [(2,some (2,true))] (qAg.ins x).length (λr o=>r=qAg.r x/\o=qAg.outs x)):=by
 by_cases h:(show Int from x)%4=0
 .have:=zJk tab gl x h;show wO.1.wp tab gl (qD 0 [.t (.int .i64 x)]) (qD 0 []) (xO [] [(2,some (2,true))] 0 (λr o=>r=twR (vL x) 0/\o=twO (vL x)));have e:vL x=[]:=if_pos h;rw[e];exact this
 .exact zO5 tab gl h1 x h
theorem zGp (x:kI.α)(hx:kI.pre x) :
  qFr.1.wp tab gl (qD 0 (kI.aS x)) (qD 0 (kI.ins x)) (xO [] [(4,none)] (kI.ins x).length (λr o=>r=kI.r x/\o=kI.outs x)):=by
 obtain⟨n,x⟩:=x;have hx':n=20\/n=32:=hx;exact zJl tab gl x n oM
theorem qZ1 (x:qDl.α)(hx:qDl.pre x) :
  kG.1.wp tab gl (qD 0 (qDl.aS x)) (qD 0 (qDl.ins x)) (qZ [(4,none)] (qDl.ins x).length (λr o=>r=qDl.r x/\o=qDl.outs x)):=by
 obtain⟨bk,u,a⟩:=x;obtain⟨hk,ha⟩:=hx;have hk':RK bk:=hk;have ha':a<1000000000:=ha;refine zDq tab gl bk u a ha' ?_ ?_
 .cases hk'<;>simp
 .intro b hb;clear hk;cases hk' with
  |nil=>simp at hb
  |two b0 b1 h0 h1=>
   simp only[mem_cons,not_mem_nil,or_false]at hb;rcases hb with rfl|rfl
   .rcases h0 with h|h<;>omega
   .rcases h1 with h|h<;>omega
def stN (x:List UInt8)(b:zD):Nat->zD
 |0=>b
 |k+1=>(stN x b k).set (12+k) x
theorem qCm {x:List UInt8}{b:zD}{k:Nat}:List.length (stN x b k)=List.length b:=by
 induction k with
 |zero=>rfl
 |succ k ih=>simp only[stN,length_set,ih]
def zCi (bk:List zD):List zD:=match bk with
 |[b0,b1]=>[stN (List.replicate 20 255) b0 4,stN (List.replicate 32 255) b1 4]
 |bk=>bk
theorem zSm {k:Nat}:zYw (12+k)=255:=if_pos oM
theorem qP2 (h1:LkC tab 231 kJ)(u:Int):yC.1.wp tab gl (qD 0 [.t (yR [] u)]) (qD 0 []) (qZ [(2,some (2,true))] 0 (λr o=>r=.t (yR [] u)/\o=[])):=by
 simp(disch:=omega)only[go_sem,yC,h1,zMn,map_nil];refine qJ 1 ?_;simp(disch:=omega)only[go_sem,qF]
theorem qP3 (h1:LkC tab 231 kJ)(h2:LkC tab 161 qCi)(h3:LkC tab 227 kI)(b0 b1:zD)(u:Int)(hk:RM [b0,b1]):yC.1.wp tab gl (qD 0 [.t (yR [b0,b1] u)]) (qD 0 []) (qZ [(2,some (2,true))] 0 (λr o=>r=.t (yR (zCi [b0,b1]) u)/\o=[])):=by
 simp(disch:=omega)only[go_sem,yC,h1,jL hk,mcn];refine qJ 3 ?_;simp(disch:=omega)only[go_sem,qF];obtain⟨hrk,_⟩:=hk;cases hrk with
 |two _ _ h0 h1=>
 have q0:zD0 b0:=h0;rcases q0 with z0|z0
 .obtain rfl:b0=[]:=eq_nil_of_length_eq_zero z0;have y0:stN (List.replicate 20 255) [] 4=[]:=rfl;refine qJ 1 ?_;simp(disch:=omega)only[go_sem,qF,length_nil,map_nil];have q1:zD0 b1:=h1;rcases q1 with z1|z1
  .obtain rfl:b1=[]:=eq_nil_of_length_eq_zero z1;have y1:stN (List.replicate 32 255) [] 4=[]:=rfl;refine qJ 1 ?_;simp(disch:=omega)only[go_sem,qF,length_nil,map_nil,z0,z1];all_goals rfl
  .refine qB 4 (λk=>[(2,.ref 4112 0 0),(3,.ref 8224 0 0),(4,.t (.int .i64 1)),(5,.t (.int .i64 ((12+k:Nat):Int))),(10,.t (.int .i64 2)),(11,.t (.int .i64 1))]) (λk=>[(8224,.live 2 [.agg [.sl 8208 0 2,.t (.int .i64 u)]] true true),(8210,.live 1 (((stN (List.replicate 32 255) b1 k).map bsT).map V.t) true false),(8209,.live 1 (((([]:zD)).map bsT).map V.t) true false),(8208,.live 1 [.sl 8209 0 0,.sl 8210 0 16] true false),(4112,.live 2 [.agg [.nil,.t (.int .i64 0)]] true true)]) ?_ (λk hk4=>?_)
   .refine qL.rd id ?_ ?_ rfl;all_goals simp(disch:=omega)only[go_sem,id,stN,z0,z1]
   .have s1:List.length (stN (List.replicate 32 255) b1 k)=16:=by rw[qCm,z1]
    by_cases hlt:k<4
    .simp(disch:=omega)only[go_sem,z1,s1,h2,h3,qT,qU,zQ,zR];repeat refine And.intro rfl ?_
     refine⟨hlt,qL.cv (hv:=[]) [36992] id ?_ rfl⟩;simp(maxSteps:=9^9)(disch:=try exact dS)only[go_sem,id,stN,z1,s1,take_replicate,Nat.min_self,zSm];refine⟨?_,rfl⟩;omega
    .have e:k=4:=oM;subst e;have t1:List.take 16 (stN (List.replicate 32 255) b1 4)=stN (List.replicate 32 255) b1 4:=take_of_length_le oM;simp(disch:=omega)only[go_sem,z1,s1,qF,t1];all_goals rfl
 .refine qB 4 (λk=>[(2,.ref 4112 0 0),(3,.ref 8224 0 0),(4,.t (.int .i64 0)),(5,.t (.int .i64 ((12+k:Nat):Int))),(10,.t (.int .i64 2)),(11,.t (.int .i64 0))]) (λk=>[(8224,.live 2 [.agg [.sl 8208 0 2,.t (.int .i64 u)]] true true),(8210,.live 1 (((b1).map bsT).map V.t) true false),(8209,.live 1 (((stN (List.replicate 20 255) b0 k).map bsT).map V.t) true false),(8208,.live 1 [.sl 8209 0 16,.sl 8210 0 b1.length] true false),(4112,.live 2 [.agg [.nil,.t (.int .i64 0)]] true true)]) ?_ (λk hk4=>?_)
  .refine qL.rd id ?_ ?_ rfl;all_goals simp(disch:=omega)only[go_sem,id,stN,z0]
  .have s0:List.length (stN (List.replicate 20 255) b0 k)=16:=by rw[qCm,z0]
   by_cases hlt:k<4
   .simp(disch:=omega)only[go_sem,z0,s0,h2,h3,qT,qU,zQ,zR];repeat refine And.intro rfl ?_
    refine⟨hlt,qL.cv (hv:=[]) [36992] id ?_ rfl⟩;simp(maxSteps:=9^9)(disch:=try exact dS)only[go_sem,id,stN,z0,s0,take_replicate,Nat.min_self,zSm];refine⟨?_,rfl⟩;omega
   .have e:k=4:=oM;subst e;have t0:List.take 16 (stN (List.replicate 20 255) b0 4)=stN (List.replicate 20 255) b0 4:=take_of_length_le oM;simp(disch:=omega)only[go_sem,z0,s0,qF,t0];have q1:zD0 b1:=h1;rcases q1 with z1|z1
    .obtain rfl:b1=[]:=eq_nil_of_length_eq_zero z1;have y1:stN (List.replicate 32 255) [] 4=[]:=rfl;refine qJ 1 ?_;simp(disch:=omega)only[go_sem,qF,length_nil,map_nil,z0,z1,t0];all_goals rfl
    .refine qB 4 (λk=>[(2,.ref 4112 0 0),(3,.ref 8224 0 0),(4,.t (.int .i64 1)),(5,.t (.int .i64 ((12+k:Nat):Int))),(10,.t (.int .i64 2)),(11,.t (.int .i64 1))]) (λk=>[(8224,.live 2 [.agg [.sl 8208 0 2,.t (.int .i64 u)]] true true),(8210,.live 1 (((stN (List.replicate 32 255) b1 k).map bsT).map V.t) true false),(8209,.live 1 (((stN (List.replicate 20 255) b0 4).map bsT).map V.t) true false),(8208,.live 1 [.sl 8209 0 16,.sl 8210 0 16] true false),(4112,.live 2 [.agg [.nil,.t (.int .i64 0)]] true true)]) ?_ (λk hk4=>?_)
     .refine qL.rd id ?_ ?_ rfl;all_goals simp(disch:=omega)only[go_sem,id,stN,z0,z1]
     .have s1:List.length (stN (List.replicate 32 255) b1 k)=16:=by rw[qCm,z1]
      by_cases hlt:k<4
      .simp(disch:=omega)only[go_sem,z1,s1,h2,h3,qT,qU,zQ,zR];repeat refine And.intro rfl ?_
       refine⟨hlt,qL.cv (hv:=[]) [36992] id ?_ rfl⟩;simp(maxSteps:=9^9)(disch:=try exact dS)only[go_sem,id,stN,z1,s1,take_replicate,Nat.min_self,zSm];refine⟨?_,rfl⟩;omega
      .have e:k=4:=oM;subst e;have t1:List.take 16 (stN (List.replicate 32 255) b1 4)=stN (List.replicate 32 255) b1 4:=take_of_length_le oM;simp(disch:=omega)only[go_sem,z1,s1,qF,t0,t1];all_goals rfl
def qJy:Ct where
 α:=List zD×Int
 aS x:=[.t (yR x.1 x.2)]
 ins _:=[]
 pre x:=RM x.1
 r x:= .t (yR (zCi x.1) x.2)
 outs _:=[]
 inj:=by
  rintro⟨a,u⟩ ⟨b,v⟩ h _;simp only[List.cons.injEq,V.t.injEq,and_true]at h;obtain⟨rfl,rfl⟩:=qCt h;exact⟨rfl,rfl⟩
theorem jPi {bk:List zD}{u:Int}(h:RM bk):qJy.fs [.t (yR bk u)] []=some (.t (yR (zCi bk) u),[]):=qJy.eq (bk,u) h
theorem qP7 (h1:LkC tab 231 kJ)(h2:LkC tab 161 qCi)(h3:LkC tab 227 kI)(x:qJy.α)(hx:qJy.pre x) :
  yC.1.wp tab gl (qD 0 (qJy.aS x)) (qD 0 (qJy.ins x)) (qZ [(2,some (2,true))] (qJy.ins x).length (λr o=>r=qJy.r x/\o=qJy.outs x)):=by
 obtain⟨bk,u⟩:=x;have hk:RM bk:=hx;have hk2:=hk.1;clear hx;cases hk2 with
 |nil=>exact qP2 tab gl h1 u
 |two b0 b1 _ _=>exact qP3 tab gl h1 h2 h3 b0 b1 u hk
theorem RV.of2 {b0 b1:zD}(h0:zD0 b0)(h1:zD0 b1)(m0:∀x∈b0,x.length<=64)(m1:∀x∈b1,x.length<=64):RV [b0,b1]:=by
 refine⟨.two _ _ h0 h1,λb hb=>?_⟩;simp only[mem_cons,not_mem_nil,or_false]at hb;rcases hb with rfl|rfl
 .exact m0
 .exact m1
theorem qFu {b c:zD}(h:zD0 b)(hl:List.length c=List.length b):zD0 c:=by
 rcases h with h|h
 .exact .inl (by rw[hl,h])
 .exact .inr (by rw[hl,h])
theorem zUi {b:zD}{i:Nat}{y:List UInt8}(h:∀x∈b,x.length<=64)(hy:y.length<=64):∀x∈b.set i y,x.length<=64:=by
 intro x hx;rcases mem_or_eq_of_mem_set hx with h1|rfl
 .exact h x h1
 .exact hy
theorem RV.cases {bk:List zD}(h:RV bk):bk=[]\/∃b0 b1,bk=[b0,b1]/\zD0 b0/\zD0 b1/\(∀x∈b0,x.length<=64)/\(∀x∈b1,x.length<=64):=by
 obtain⟨hk,hm⟩:=h;cases hk with
 |nil=>exact .inl rfl
 |two b0 b1 h0 h1=>exact .inr ⟨b0,b1,rfl,h0,h1,hm b0 (.head _),hm b1 (.tail _ (.head _))⟩
theorem zQ0 {a:Nat}(ha:a<2){b:zD}{i:Nat}{d:List UInt8}(h:∀x∈b,x.length<=64):∀x∈qC4 a b i d,x.length<=64:=by
 unfold qC4;split
 .refine zUi h ?_;have:a=0\/a=1:=oM;rcases this with rfl|rfl
  .rw[zUw,yH];omega
  .rw[zUx,qO];omega
 .exact h
theorem zTs {a:Nat}(ha:a<2){b:zD}{i:Nat}(h:∀x∈b,x.length<=64):∀x∈zPj a b i,x.length<=64:=by
 unfold zPj;split
 .refine zUi h ?_;rw[length_replicate];have:a=0\/a=1:=oM;rcases this with rfl|rfl<;>decide
 .exact h
theorem zUu {y:List UInt8}{b:zD}(hy:y.length<=64)(h:∀x∈b,x.length<=64):∀k,∀x∈stN y b k,x.length<=64
 |0=>h
 |k+1=>zUi (zUu hy h k) hy
theorem RV.ext {bk:List zD}(h:RV bk)(i:Nat)(ds:List (List UInt8)):RV (qSb bk i ds):=by
 rcases h.cases with rfl|⟨b0,b1,rfl,h0,h1,m0,m1⟩
 .exact h
 .exact .of2 (qFu h0 zA) (qFu h1 zA) (zQ0 oM m0) (zQ0 oM m1)
theorem RV.rst {bk:List zD}(h:RV bk)(i:Nat):RV (zTt bk i):=by
 rcases h.cases with rfl|⟨b0,b1,rfl,h0,h1,m0,m1⟩
 .exact h
 .exact .of2 (qFu h0 qIn) (qFu h1 qIn) (zTs oM m0) (zTs oM m1)
theorem RV.res {bk:List zD}(h:RV bk):RV (zCi bk):=by
 rcases h.cases with rfl|⟨b0,b1,rfl,h0,h1,m0,m1⟩
 .exact h
 .exact .of2 (qFu h0 qCm) (qFu h1 qCm) (zUu (by rw[length_replicate];omega) m0 4) (zUu (by rw[length_replicate];omega) m1 4)
structure Sb where
 sd:List (List UInt8)
 au:List (List UInt8)
 en:List UInt8
 act:Int
 res:Int
 rst:Int
 clk:Int
 ord:Bool
 bk:List zD
 u:Int
 mc:Int
 l1:Int
 l2:Int
 l3:Int
 l4:Int
 l5:Int
 l6:Int
def yFq (s:Sb):List T:=[.sl (s.sd.map bsT),.sl (s.au.map bsT),.sl (s.en.map qA),.int .i64 s.act,.int .i64 s.res,.int .i64 s.rst,.int .i64 s.clk,.bool s.ord,.sl (s.bk.map vU),.int .i64 s.u,.int .i64 s.mc,.sl [],.int .i64 s.l1,.int .i64 s.l2,.int .i64 s.l3,.int .i64 s.l4,.int .i64 s.l5,.int .i64 s.l6,.sl []]
def jTc (s:Sb):T:= .agg (yFq s)
def sb0:Sb:=⟨[],[],[],0,0,0,0,false,[],0,0,0,0,0,0,0,0⟩
def zF0 (en:List UInt8)(act:Int):Sb:=if en.length≠32\/act<0\/3<act then sb0 else ⟨[drv en [115,101,101,100] [0] 32,drv en [115,101,101,100] [1] 32,drv en [115,101,101,100] [2] 32],[[],[],[],[]],drv en [101,110,116,114,111,112,121] [] 32,act,0,0,0,true,[],0,0,0,5,100,0,0,1000⟩
def zIx (en:List UInt8)(act:Int):Int:=if en.length≠32\/act<0\/3<act then 1 else 0
def jV5:T:= .agg [.int .i64 0,.int .i64 5,.int .i64 100,.int .i64 0,.int .i64 0,.int .i64 1000]
def zKt:Ct where
 α:=Unit
 aS _:=[]
 ins _:=[]
 pre _:=True
 r _:= .t jV5
 outs _:=[]
 inj:=λ_ _ _ _=>⟨rfl,rfl⟩
theorem jNm:zKt.fs [] []=some (.t (.agg [.int .i64 0,.int .i64 5,.int .i64 100,.int .i64 0,.int .i64 0,.int .i64 1000]),[]):=zKt.eq () trivial
theorem zDo:qGf.1.wp tab gl (qD 0 []) (qD 0 []) (qZ [(0,some (6,true))] 0 (λr o=>r=.t jV5/\o=[])):=by
 simp(maxSteps:=9^9)(disch:=try exact dS)only[go_sem,qGf,jV5]
theorem qL7 {en:List UInt8}{act:Int}(h:en.length≠32\/act<0\/3<act):zF0 en act=sb0/\zIx en act=1:=⟨if_pos h,if_pos h⟩
def jW3 (en:List UInt8)(i:Nat):List UInt8:=drv en [115,101,101,100] [UInt8.ofNat i] 32
theorem jI3 {en:List UInt8}{act:Int}(h:¬ (en.length≠32\/act<0\/3<act)):zF0 en act=⟨(List.range 3).map (jW3 en),[[],[],[],[]],drv en [101,110,116,114,111,112,121] [] 32,act,0,0,0,true,[],0,0,0,5,100,0,0,1000⟩/\zIx en act=0:=⟨if_neg h,if_neg h⟩
theorem zJm (h1:LkC tab 60 zKt)(h2:LkC tab 61 qTr)(en:List UInt8)(act:Int)(hl:en.length<=9223372036854775807) :
  qA6.1.wp tab gl (qD 0 [.t (.sl (en.map qA)),.t (.int .i64 act)]) (qD 0 []) (qZ [(4,some (19,true)),(5,none)] 0 (λr o=>r=.tup [.t (jTc (zF0 en act)),.t (.int .i64 (zIx en act))]/\o=[])):=by
 by_cases c1:en.length=32
 .by_cases c2:act<0
  .rw[(qL7 (en:=en) (.inr (.inl c2))).1,(qL7 (en:=en) (.inr (.inl c2))).2];simp(maxSteps:=9^9)(disch:=try exact dS)only[go_sem,qA6,c1,c2];all_goals rfl
  .by_cases c3:3<act
   .rw[(qL7 (en:=en) (.inr (.inr c3))).1,(qL7 (en:=en) (.inr (.inr c3))).2];simp(maxSteps:=9^9)(disch:=try exact dS)only[go_sem,qA6,c1,c2,c3];all_goals rfl
   .have ok:=jI3 (en:=en) (act:=act) oM;rw[ok.1,ok.2];simp(maxSteps:=9^9)(disch:=try exact dS)only[go_sem,qA6,c1,c2,c3,h1,h2,jNm];refine And.intro rfl ?_;refine qB 3 (λk=>[(0,.t (.sl (en.map qA))),(4,.ref 4096 0 0),(6,.ref 16448 0 0),(24,.t (.int .i64 (k:Nat)))]) (λk=>[(9000,.live 1 ((((List.range k).map (jW3 en)).map bsT).map V.t) true false),
     (16448,.live 19 [.agg [.sl 9000 0 k,.sl 16384 0 4,.nil,.t (.int .i64 act),.t (.int .i64 0),.t (.int .i64 0),.t (.int .i64 0),.t (.bool true),.nil,.t (.int .i64 0),.t (.int .i64 0),.nil,.t (.int .i64 0),.t (.int .i64 5),.t (.int .i64 100),.t (.int .i64 0),.t (.int .i64 0),.t (.int .i64 1000),.nil]] true true),
     (16384,.live 1 [.nil,.nil,.nil,.nil] true false),(4096,.live 19 [.agg [.nil,.nil,.nil,.t (.int .i64 0),.t (.int .i64 0),.t (.int .i64 0),.t (.int .i64 0),.t (.bool false),.nil,.t (.int .i64 0),.t (.int .i64 0),.nil,.t (.int .i64 0),.t (.int .i64 0),.t (.int .i64 0),.t (.int .i64 0),.t (.int .i64 0),.t (.int .i64 0),.nil]] true true)]) ?_ (λk hk'=>?_)
    .refine qL.cv0 (hv:=[(9000,.live 1 [] true false)]) (ho:=[(16448,.live 19 [.agg [.sl 9000 0 0,.sl 16384 0 4,.nil,.t (.int .i64 act),.t (.int .i64 0),.t (.int .i64 0),.t (.int .i64 0),.t (.bool true),.nil,.t (.int .i64 0),.t (.int .i64 0),.nil,.t (.int .i64 0),.t (.int .i64 5),.t (.int .i64 100),.t (.int .i64 0),.t (.int .i64 0),.t (.int .i64 1000),.nil]] true true),
     (16384,.live 1 [.nil,.nil,.nil,.nil] true false),(4096,.live 19 [.agg [.nil,.nil,.nil,.t (.int .i64 0),.t (.int .i64 0),.t (.int .i64 0),.t (.int .i64 0),.t (.bool false),.nil,.t (.int .i64 0),.t (.int .i64 0),.nil,.t (.int .i64 0),.t (.int .i64 0),.t (.int .i64 0),.t (.int .i64 0),.t (.int .i64 0),.t (.int .i64 0),.nil]] true true)]) id ?_ ?_ rfl rfl
     all_goals simp(maxSteps:=9^9)(disch:=try exact dS)only[go_sem,id]
     all_goals rfl
    .by_cases hlt:k<3
     .have hD:=zEl (k:=en) (l:=[115,101,101,100]) (c:=[UInt8.ofNat k]) (n:=32) ⟨oM,sM,sM,oM,oM⟩;rw[show((32:Nat):Int)=32 from rfl]at hD;simp only[mcn]at hD;rw[show drv en [115,101,101,100] [UInt8.ofNat k] 32=jW3 en k from rfl]at hD;have lr:(List.range k).length=k:=length_range;simp(maxSteps:=9^9)(disch:=try exact dS)only[go_sem,h2,hD,lr,mcn];refine⟨rfl,hlt,qL.rd (λj=>if j=9000 then 32896 else j) ?_ ?_ rfl⟩;all_goals simp(maxSteps:=9^9)(disch:=try exact dS)only[go_sem,id]
      all_goals first|omega|rfl
     .have e:k=3:=oM;subst e;have hD:=zEl (k:=en) (l:=[101,110,116,114,111,112,121]) (c:=[]) (n:=32) ⟨oM,sM,sM,oM,oM⟩;rw[show((32:Nat):Int)=32 from rfl]at hD;simp only[map_nil]at hD;simp(maxSteps:=9^9)(disch:=try exact dS)only[go_sem,h2,hD];all_goals rfl
 .rw[(qL7 (act:=act) (.inl c1)).1,(qL7 (act:=act) (.inl c1)).2];simp(maxSteps:=9^9)(disch:=try exact dS)only[go_sem,qA6,c1];all_goals rfl
def zBu:Ct where
 α:=List UInt8×Int
 aS x:=[.t (.sl (x.1.map qA)),.t (.int .i64 x.2)]
 ins _:=[]
 pre x:=x.1.length<=9223372036854775807
 r x:= .tup [.t (jTc (zF0 x.1 x.2)),.t (.int .i64 (zIx x.1 x.2))]
 outs _:=[]
 inj:=by
  rintro⟨a,b⟩ ⟨c,d⟩ h _;simp only[List.cons.injEq,V.t.injEq,T.int.injEq,T.sl.injEq,true_and,and_true,jC]at h;obtain⟨rfl,rfl⟩:=h;exact⟨rfl,rfl⟩
theorem jI2 {en:List UInt8}{act:Int}(h:en.length<=9223372036854775807):zBu.fs [.t (.sl (en.map qA)),.t (.int .i64 act)] []=some (.tup [.t (jTc (zF0 en act)),.t (.int .i64 (zIx en act))],[]):=zBu.eq (en,act) h
def dgx (a:Nat)(b:List UInt8):List UInt8:=List.take (szA a) b++List.replicate (szA a-min (szA a) b.length) 0
def dg1 (a:Nat)(b:List UInt8):List UInt8:=(dgx a b).set (szA a-1) ((dgx a b).getD (szA a-1) 0 ^^^ UInt8.ofNat a)
def dgb (s:Int)(a:Nat)(b:List UInt8):List UInt8:=if s/(2^a:Nat)%2=1 then dg1 a b else []
def dgB (s:Int)(b:List UInt8):List (List UInt8):=[dgb s 0 b,dgb s 1 b]
def jF5 (x:List zD×Int)(l i:Int)(ds:List (List UInt8)):List zD×Int:=if qMa x.1 l i ds=0 then(qSb x.1 i.toNat ds,x.2+1) else x
def evP (x:List zD×Int)(l i:Int)(d:List UInt8):List zD×Int:=if 128<d.length then x else jF5 x l i (qWd x.1 d)
def jWu (x:List zD×Int)(l i:Int):List zD×Int:=if yFh l i=0 then(zTt x.1 i.toNat,x.2+1) else x
def Ans (x:List zD×Int)(v:V)(y:List zD×Int):Prop:=∃(bk:List zD)(u e:Int),v=.tup [.t (.agg [.sl (bk.map vU),.int .i64 u]),.t (.int .i64 e)]/\((e=0/\y=(bk,u))\/(e≠0/\y=x))
def RS (n:Nat)(x:List zD×Int):Prop:=RV x.1/\0<=x.2/\x.2<=n
theorem RS.up {n m:Nat}{x:List zD×Int}(h:RS n x)(hm:n<=m):RS m x:=⟨h.1,h.2.1,by have:=h.2.2;omega⟩
theorem RS.ext {n:Nat}{x:List zD×Int}(h:RS n x)(l i:Int)(ds:List (List UInt8)):RS (n+1) (jF5 x l i ds):=by
 unfold jF5;split
 .exact⟨h.1.ext _ _,by have:=h.2.1;simp only;omega,by have:=h.2.2;simp only;omega⟩
 .exact h.up oM
theorem RS.ev {n:Nat}{x:List zD×Int}(h:RS n x)(l i:Int)(d:List UInt8):RS (n+1) (evP x l i d):=by
 unfold evP;split
 .exact h.up oM
 .exact h.ext _ _ _
theorem RS.rst {n:Nat}{x:List zD×Int}(h:RS n x)(l i:Int):RS (n+1) (jWu x l i):=by
 unfold jWu;split
 .exact⟨h.1.rst _,by have:=h.2.1;simp only;omega,by have:=h.2.2;simp only;omega⟩
 .exact h.up oM
theorem RS.rsm {n:Nat}{x:List zD×Int}(h:RS n x):RS (n+1) (zCi x.1,x.2):=⟨h.1.res,h.2.1,by have:=h.2.2;simp only;omega⟩
def drS (s:Int)(i k:Nat)(x:List zD×Int):List zD×Int:=
 if k%8<3 then evP x 4 (k/8%16:Nat) [UInt8.ofNat k,UInt8.ofNat i]
 else if k%8<6 then jF5 x 4 (k/8%16:Nat) (dgB s [UInt8.ofNat k,UInt8.ofNat i])
 else if k%8=6 then jWu x 4 (12+k/8%4:Nat)
 else(zCi x.1,x.2)
def drN (s:Int)(cs:List UInt8):Nat->List zD×Int
 |0=>(vL s,0)
 |i+1=>drS s i (cs.getD i 0).toNat (drN s cs i)
theorem RS.dr {s:Int}{i k n:Nat}{x:List zD×Int}(h:RS n x):RS (n+1) (drS s i k x):=by
 unfold drS;split
 .exact h.ev _ _ _
 .split
  .exact h.ext _ _ _
  .split
   .exact h.rst _ _
   .exact h.rsm
def dr (s:Int)(cs:List UInt8):List zD×Int:=drN s cs (min cs.length 12)
theorem Ans.rv {x:List zD×Int}{v:V}{y:List zD×Int}(h:Ans x v y)(hv:∃bk' u' e,v=.tup [.t (yR bk' u'),.t (.int .i64 e)]/\RV bk'/\(e=0->u'=x.2+1)):∃bk' u' e,v=.tup [.t (.agg [.sl (bk'.map vU),.int .i64 u']),.t (.int .i64 e)]/\RM bk':=by
 obtain⟨bk',u',e,h1,h2,_⟩:=hv;exact⟨bk',u',e,h1,h2.rm⟩
end Go.Eng
end
