/- A part of the walks. -/
import Derived.Test.YteglhhgmfnbalaaGreatDoorK33
set_option linter.all false
section
set_option maxHeartbeats 64000000
set_option maxRecDepth 100000
namespace Go.Eng
open List
section
open Go.Proofs Go.Proofs.YteglhhgmfnbalaaGreatDoor
def yF0:AF Tryz.f122 [(1,[1]),(2,[1]),(3,[1]),(5,[1]),(6,[1]),(13,[9]),(16,[1])]:=⟨_,cvG⟩
def yF7:AF Tryz.f300 []:=⟨_,cvG⟩
end
variable (tab:Tab)(gl:Gl)
theorem yF5 {s:Rd}{k:Nat}(h:qG4 s):qG4 (qAj s k).2:=by
 unfold qAj qG4 at *;split
 .exact h
 .split
  .exact h
  .exact⟨by simp only;omega,h.2⟩
theorem yF1 {s:Rd}{z:Nat}(h:qG4 s):∀n,qG4 (qDw s z n).2
 |0=>h
 |n+1=>yF5 (yF1 h n)
theorem yF4 (s:Int):(vL s=[]/\qAg.fs [.t (.int .i64 s)] []=some (.agg [.nil,.t (.int .i64 0)],[]))\/∃b0 b1:zD,vL s=[b0,b1]/\zD0 b0/\zD0 b1/\qAg.fs [.t (.int .i64 s)] []=some (.agg [.sl 0 0 2,.t (.int .i64 0)],[.live 1 [.sl 1 0 b0.length,.sl 2 0 b1.length] true false,.live 1 ((b0.map bsT).map V.t) true false,.live 1 ((b1.map bsT).map V.t) true false]):=by
 have h:=qAg.eq s trivial;rcases(zYv (s:=s)).cases with e|⟨b0,b1,e,h0,h1,_,_⟩
 .refine .inl ⟨e,h.trans ?_⟩;show some (twR (vL s) 0,twO (vL s))=_;rw[e];rfl
 .refine .inr ⟨b0,b1,e,h0,h1,h.trans ?_⟩;show some (twR (vL s) 0,twO (vL s))=_;rw[e];rfl
theorem yF3 {s:Rd}{z i:Nat}{c:List (List UInt8)}(h:i<List.length c):((qDw s z i).1++List.drop i c).set i (qAj (qDw s z i).2 z).1=(qDw s z (i+1)).1++List.drop (i+1) c:=by
 rw[set_append_right _ _ (by rw[qSl];exact Nat.le_refl _),qSl,Nat.sub_self];have e:List.drop i c=c[i]::List.drop (i+1) c:=drop_eq_getElem_cons h;rw[e,set_cons_zero];simp[qDw]
theorem yF2 (h1:LkC tab 83 qE5)(h2:LkC tab 109 qE4)(h3:LkC tab 111 qNc)(h4:LkC tab 160 qAg)(h5:LkC tab 161 qCi)(h6:LkC tab 121 zBs)(h7:LkC tab 91 qJx)(b:List UInt8)(hb:b.length<1000000000) :
  yF0.1.wp tab gl (qD 0 [.t (.sl (b.map qA))]) (qD 0 []) (qZ [(2,some (2,true)),(3,none)] 0 (λr o=>r=dcR b/\o=[])):=by
 have ok0:qG4 (b,0,0):=⟨Nat.zero_le _,hb⟩;have hN:=qIm hb;obtain⟨⟨set,b1,a1,e1⟩,hU1⟩:∃x,qI (b,0,0) 1=x:=⟨_,rfl⟩;have hI1:=wW (k:=1) ⟨ok0,oM,oM⟩;have ok1:qG4 (b1,a1,e1):=by have:=zTa (k:=1) ok0;rw[hU1]at this;exact this
 rw[hU1]at hI1;have hE1:=qW8 ok1;simp only[rdO,Int.natCast_zero,Int.natCast_one]at hN hI1 hE1;by_cases hbad:e1=0/\4<=set
 .have hr:dcR b=.tup [.t (yR [] 0),.t (.int .i64 1)]:=by
   unfold dcR zEk;simp only[hU1];rw[if_pos hbad]
  rw[hr];obtain⟨rfl,hset⟩:=hbad;simp(disch:=omega)only[go_sem,yF0,h1,h2,h3,hN,hI1,hE1,hset,map_nil]
 .have hbad':¬ ((qI (b,0,0) 1).2.2.2=0/\4<=zEk (b,0,0)):=by unfold zEk;simp only[hU1];exact hbad
  have hgo:(e1==0)=false\/((e1==0)=true/\set<4):=by
   by_cases h:e1=0
   .exact .inr ⟨by simpa using h,oM⟩
   .exact .inl (by simpa using h)
  obtain⟨⟨u,b2,a2,e2⟩,hU2⟩:∃x,qI (b1,a1,e1) 8=x:=⟨_,rfl⟩;have hI2:=wW (k:=8) ⟨ok1,oM,oM⟩;have ok2:qG4 (b2,a2,e2):=by have:=zTa (k:=8) ok1;rw[hU2]at this;exact this
  rw[hU2]at hI2;have k8:((8:Nat):Int)=8:=rfl;simp only[rdO,k8]at hI2;rcases yF4 set with⟨en,hn⟩|⟨c0,c1,en,g0,g1,hn⟩
  .have hB:dcB (b,0,0)=([],(b2,a2,e2)):=by
    unfold dcB zEk;simp only[hU1,hU2,en];rfl
   have hU:dcU (b,0,0)=u:=by unfold dcU;simp only[hU1,hU2]
   have hr:=jCp (b:=b) hbad' hB hU;have hend:=qSn ok2;simp only[rdO]at hend;rw[hr];by_cases hz:xM (b2,a2,e2)=0
   .rw[if_neg (by simp[hz])];rw[hz]at hend;rcases hgo with hgo|⟨hgo,hlt⟩
    all_goals first|simp(disch:=omega)only[go_sem,yF0,h1,h2,h3,h4,hN,hI1,hE1,hgo,hlt,hn,hI2,map_nil]|simp(disch:=omega)only[go_sem,yF0,h1,h2,h3,h4,hN,hI1,hE1,hgo,hn,hI2,map_nil]
    all_goals refine qJ 1 ?_;simp(disch:=omega)only[go_sem,qF,h7,hend,map_nil]
   .rw[if_pos hz];have hz2:(xM (b2,a2,e2)==0)=false:=by simpa using hz
    rcases hgo with hgo|⟨hgo,hlt⟩
    all_goals first|simp(disch:=omega)only[go_sem,yF0,h1,h2,h3,h4,hN,hI1,hE1,hgo,hlt,hn,hI2,map_nil]|simp(disch:=omega)only[go_sem,yF0,h1,h2,h3,h4,hN,hI1,hE1,hgo,hn,hI2,map_nil]
    all_goals refine qJ 1 ?_;simp(disch:=omega)only[go_sem,qF,h7,hend,hz2,map_nil]
  .have q0:List.length c0<=16:=by rcases g0 with h|h<;>omega
   have q1:List.length c1<=16:=by rcases g1 with h|h<;>omega
   obtain⟨⟨B0,S1⟩,hS1⟩:∃x,qDw (b2,a2,e2) 20 (List.length c0)=x:=⟨_,rfl⟩;have okS1:qG4 S1:=by have:=yF1 (z:=20) ok2 (List.length c0);rw[hS1]at this;exact this
   have lB0:List.length B0=List.length c0:=by have:=qSl (s:=(b2,a2,e2)) (z:=20) (List.length c0);rw[hS1]at this;exact this
   obtain⟨⟨B1,S2⟩,hS2⟩:∃x,qDw S1 32 (List.length c1)=x:=⟨_,rfl⟩;have okS2:qG4 S2:=by have:=yF1 (z:=32) okS1 (List.length c1);rw[hS2]at this;exact this
   have lB1:List.length B1=List.length c1:=by have:=qSl (s:=S1) (z:=32) (List.length c1);rw[hS2]at this;exact this
   have hB:dcB (b,0,0)=([B0,B1],S2):=by
    unfold dcB zEk;simp only[hU1,hU2,en,zQr,hS1,hS2]
   have hU:dcU (b,0,0)=u:=by unfold dcU;simp only[hU1,hU2]
   have hr:=jCp (b:=b) hbad' hB hU;have hend:=qSn okS2;rw[hr];rcases hgo with hgo|⟨hgo,hlt⟩;all_goals first|simp(disch:=omega)only[go_sem,yF0,h1,h2,h3,h4,hN,hI1,hE1,hgo,hlt,hn,hI2,map_nil]|simp(disch:=omega)only[go_sem,yF0,h1,h2,h3,h4,hN,hI1,hE1,hgo,hn,hI2,map_nil]
   all_goals
    refine qB 2 (λk=>[(2,.ref 4096 0 0),(4,.ref 8208 0 0),(6,.ref 24608 0 0),(29,.t (.int .i64 2)),(30,.t (.int .i64 (match k with|0=>0|1=>1|_=>2)))]) (λk=>(λ(x:List (List UInt8)×List (List UInt8)×Rd)=>[(24608,.live 2 [.agg [.sl 24592 0 2,.t (.int .i64 u)]] true true),(24592,.live 1 [.sl 24593 0 (List.length c0),.sl 24594 0 (List.length c1)] true false),(24593,.live 1 ((x.1.map bsT).map V.t) true false),(24594,.live 1 ((x.2.1.map bsT).map V.t) true false),(8208,rdO x.2.2),(4096,.live 2 [.agg [.nil,.t (.int .i64 0)]] true true)]) (match k with|0=>(c0,c1,b2,a2,e2)|1=>(B0,c1,S1)|_=>(B0,B1,S2))) ?_ (λk hk=>?_)
    .refine qL.rd id ?_ ?_ rfl;all_goals simp(disch:=omega)only[go_sem,id,rdO]
    rcases(show k=0\/k=1\/k=2 by omega)with rfl|rfl|rfl
    .simp(disch:=omega)only[go_sem,map_nil,lB0];refine qB (List.length c0) (λi=>[(2,.ref 4096 0 0),(4,.ref 8208 0 0),(6,.ref 24608 0 0),(7,.t (.int .i64 0)),(29,.t (.int .i64 2)),(30,.t (.int .i64 0)),(38,.t (.int .i64 (List.length c0))),(39,.t (.int .i64 (i:Nat)))]) (λi=>[(24608,.live 2 [.agg [.sl 24592 0 2,.t (.int .i64 u)]] true true),(24592,.live 1 [.sl 24593 0 (List.length c0),.sl 24594 0 (List.length c1)] true false),(24593,.live 1 ((((qDw (b2,a2,e2) 20 i).1++List.drop i c0).map bsT).map V.t) true false),(24594,.live 1 ((c1.map bsT).map V.t) true false),(8208,rdO (qDw (b2,a2,e2) 20 i).2),(4096,.live 2 [.agg [.nil,.t (.int .i64 0)]] true true)]) ?_ (λi hi=>?_)
     .refine qL.rd id ?_ ?_ rfl;all_goals simp(disch:=omega)only[go_sem,id,rdO,qDw,drop_zero,nil_append]
     .have oki:=yF1 (z:=20) ok2 i;have hln:=qSl (s:=(b2,a2,e2)) (z:=20) i;by_cases hlt2:i<List.length c0
      .have hraw:=zTr (k:=20) ⟨oki,oM⟩;have hset:=yF3 (s:=(b2,a2,e2)) (z:=20) hlt2;have hstep:(qDw (b2,a2,e2) 20 (i+1)).2=(qAj (qDw (b2,a2,e2) 20 i).2 20).2:=rfl;have kz:((20:Nat):Int)=20:=rfl;have hl1:=qSl (s:=(b2,a2,e2)) (z:=20) (i+1);simp only[rdO,kz]at hraw;simp(maxSteps:=9^9)(disch:=try exact dS)only[go_sem,rdO,h5,qT,h6,hraw,hset,hln,hl1,lB0];refine⟨rfl,hlt2,qL.rd id ?_ ?_ rfl⟩;all_goals simp(disch:=omega)only[go_sem,id,rdO,hstep]
      .have e:i=List.length c0:=oM;subst e;simp(disch:=omega)only[go_sem,rdO,hS1,drop_length,append_nil];refine qL.rd id ?_ ?_ rfl;all_goals simp(disch:=omega)only[go_sem,id,rdO,hS1,drop_length,append_nil,lB0]
    .simp(disch:=omega)only[go_sem,map_nil,lB0];refine qB (List.length c1) (λi=>[(2,.ref 4096 0 0),(4,.ref 8208 0 0),(6,.ref 24608 0 0),(7,.t (.int .i64 1)),(29,.t (.int .i64 2)),(30,.t (.int .i64 1)),(38,.t (.int .i64 (List.length c1))),(39,.t (.int .i64 (i:Nat)))]) (λi=>[(24608,.live 2 [.agg [.sl 24592 0 2,.t (.int .i64 u)]] true true),(24592,.live 1 [.sl 24593 0 (List.length c0),.sl 24594 0 (List.length c1)] true false),(24593,.live 1 ((B0.map bsT).map V.t) true false),(24594,.live 1 ((((qDw S1 32 i).1++List.drop i c1).map bsT).map V.t) true false),(8208,rdO (qDw S1 32 i).2),(4096,.live 2 [.agg [.nil,.t (.int .i64 0)]] true true)]) ?_ (λi hi=>?_)
     .refine qL.rd id ?_ ?_ rfl;all_goals simp(disch:=omega)only[go_sem,id,rdO,qDw,drop_zero,nil_append]
     .have oki:=yF1 (z:=32) okS1 i;have hln:=qSl (s:=S1) (z:=32) i;by_cases hlt2:i<List.length c1
      .have hraw:=zTr (k:=32) ⟨oki,oM⟩;have hset:=yF3 (s:=S1) (z:=32) hlt2;have hstep:(qDw S1 32 (i+1)).2=(qAj (qDw S1 32 i).2 32).2:=rfl;have kz:((32:Nat):Int)=32:=rfl;have hl1:=qSl (s:=S1) (z:=32) (i+1);simp only[rdO,kz]at hraw;simp(maxSteps:=9^9)(disch:=try exact dS)only[go_sem,rdO,h5,qU,h6,hraw,hset,hln,hl1,lB0];refine⟨rfl,hlt2,qL.rd id ?_ ?_ rfl⟩;all_goals simp(disch:=omega)only[go_sem,id,rdO,hstep]
      .have e:i=List.length c1:=oM;subst e;simp(disch:=omega)only[go_sem,rdO,hS2,drop_length,append_nil];refine qL.rd id ?_ ?_ rfl;all_goals simp(disch:=omega)only[go_sem,id,rdO,hS2,drop_length,append_nil,lB0,lB1]
    .simp only[rdO]at hend;have tB0:List.take (List.length c0) B0=B0:=take_of_length_le oM;have tB1:List.take (List.length c1) B1=B1:=take_of_length_le oM;by_cases hz:xM S2=0
     .rw[if_neg (by simp[hz])];rw[hz]at hend;simp(disch:=omega)only[go_sem,rdO,h7,hend,mcn,lB0,lB1,tB0,tB1]
     .rw[if_pos hz];have hz2:(xM S2==0)=false:=by simpa using hz
      simp(disch:=omega)only[go_sem,rdO,h7,hend,hz2,map_nil,lB0,lB1,tB0,tB1]
theorem yF9 {a b c:UInt8}{x:List UInt8}(h:x.length=16):yP.fs [.t (.int .i64 1),.t (.sl [.sl [qA a,qA b,qA c],.sl (x.map qA)])] []=some (.sl 0 0 32,[.live 1 (((kX 1 [[a,b,c],x]).map qA).map V.t) true false]):=by
 have hH:=jC8 (t:=1) (fs:=[[a,b,c],x]) oM (by intro x hx;simp only[mem_cons,not_mem_nil,or_false]at hx;rcases hx with rfl|rfl;simp;omega) sM;simp only[mcn,qG]at hH;exact hH
section
variable {vv:V}{oo:List Ob}
theorem yGa {l c p:Int}{x:List UInt8}(hV:vv=.t (.sl ((qYu 1 [[u8I l,u8I c,u8I p],x]).map qA)))(hO:oo=[]):qWi.K (l,c,p,x) vv oo:=⟨_,rfl,hV,hO⟩
end
theorem yF8 (h1:LkC tab 102 yP)(l c p:Int)(x:List UInt8)(hp:x.length=16) :
  yF7.1.wp tab gl (qD 0 [.t (.int .i64 l),.t (.int .i64 c),.t (.int .i64 p),.t (.sl (x.map qA))]) (qD 0 []) (qZ [(8,none)] 0 (qWi.K (l,c,p,x))):=by
 have e:=yF9 (a:=u8I l) (b:=u8I c) (c:=u8I p) hp;have lH:=qTu (t:=1) (fs:=[[u8I l,u8I c,u8I p],x]);have tH:=zEv (t:=1) (fs:=[[u8I l,u8I c,u8I p],x]);have hK:∀vv,vv=.t (.sl ((qYu 1 [[u8I l,u8I c,u8I p],x]).map qA))->qWi.K (l,c,p,x) vv []:=λvv h=>yGa h rfl
 generalize qYu 1 [[u8I l,u8I c,u8I p],x]=z at *;generalize kX 1 [[u8I l,u8I c,u8I p],x]=y at *;simp(disch:=omega)only[go_sem,yF7,h1,e,lH,u8w,tH];.repeat first|exact(hK _ rfl)|refine⟨rfl,?_⟩
end Go.Eng
end
