/- A part of an abstract machine, its walks, their tie. -/
import Derived.Test.YtlhjonbjbiafaaaGreatDoorU18
import Derived.Test.YtlhjonbjbiafaaaGreatDoorU9
set_option linter.all false
section
set_option maxHeartbeats 64000000
set_option maxRecDepth 20000
namespace Go.Eng
variable (tab:Tab) (gl:Gl)
def wD:Ct where
 α:=Int
 aS x:=[.t (.int .i64 x)]
 ins _:=[]
 pre _:=True
 r x:= .t (.bool (decide ((0:Int)≤x∧x<(16:Int))))
 outs _:=[]
 inj:=by
  intro a b h _;simp at h;subst h;exact⟨rfl,rfl⟩
theorem qGy {i:Int}(h:0≤i∧i<16):wD.fs [.t (.int .i64 i)] []=some (.t (.bool true),[]):=by
 refine (wD.eq i trivial).trans ?_;simp[wD,h]
theorem qTk {i:Int}(h : ¬ (0≤i∧i<16)):wD.fs [.t (.int .i64 i)] []=some (.t (.bool false),[]):=by
 refine (wD.eq i trivial).trans ?_;simp only[wD,decide_eq_false h]
def qHi:Ct where
 α:=List qY×Int×Nat
 aS x:=[.t (zT x.1 x.2.1),.t (.int .i64 x.2.2)]
 ins _:=[]
 pre x:=RK x.1∧x.2.2<2
 r x:= .t (.bool (onB x.1 x.2.2))
 outs _:=[]
 inj:=by
  rintro⟨a,u,i⟩ ⟨b,v,j⟩ h _;simp only[List.cons.injEq,V.t.injEq,T.int.injEq,true_and,and_true,Int.natCast_inj] at h;obtain⟨h1,rfl⟩:=h;obtain⟨rfl,rfl⟩:=xN h1;exact⟨rfl,rfl⟩
theorem zM3 {bk:List qY}{u:Int}{a:Nat}(hk:RK bk)(h:a<2):qHi.fs [.t (.agg [.sl (bk.map wQ),.int .i64 u]),.t (.int .i64 a)] []=some (.t (.bool (onB bk a)),[]):=qHi.eq (bk,u,a) ⟨hk,h⟩
theorem vX {b0 b1:qY}{u:Int}(hk:RK [b0,b1]):qHi.fs [.t (.agg [.sl [.sl (b0.map bsT),.sl (b1.map bsT)],.int .i64 u]),.t (.int .i64 0)] []=some (.t (.bool (decide (b0.length=16))),[]):=qHi.eq ([b0,b1],u,0) ⟨hk,by show 0<2;omega⟩
theorem vY {b0 b1:qY}{u:Int}(hk:RK [b0,b1]):qHi.fs [.t (.agg [.sl [.sl (b0.map bsT),.sl (b1.map bsT)],.int .i64 u]),.t (.int .i64 1)] []=some (.t (.bool (decide (b1.length=16))),[]):=qHi.eq ([b0,b1],u,1) ⟨hk,by show 1<2;omega⟩
theorem zV6 {u:Int}{a:Nat}(h:a<2):qHi.fs [.t (.agg [.sl [],.int .i64 u]),.t (.int .i64 a)] []=some (.t (.bool false),[]):=by
 refine (qHi.eq ([],u,a) ⟨.nil,h⟩).trans ?_;simp[qHi,onB]
def vE:Ct where
 α:=List qY×Int×Nat
 aS x:=[.t (zT x.1 x.2.1),.t (.int .i64 x.2.2)]
 ins _:=[]
 pre x:=RK x.1∧x.2.2<1000000000
 r x:= .t (.bool (zPg x.1 x.2.2))
 outs _:=[]
 inj:=by
  rintro⟨a,u,i⟩ ⟨b,v,j⟩ h _;simp only[List.cons.injEq,V.t.injEq,T.int.injEq,true_and,and_true,Int.natCast_inj] at h;obtain⟨h1,rfl⟩:=h;obtain⟨rfl,rfl⟩:=xN h1;exact⟨rfl,rfl⟩
theorem RK.on {bk:List qY}(h:RK bk)(a:Nat):zPg bk a=onB bk a:=by
 cases h with
 | nil=>simp[zPg,onB]
 | two b0 b1 h0 h1=>
  have key : ∀ b:qY,qRr b→decide (0<List.length b)=decide (List.length b=16):=by
   intro b hb;rcases hb with h | h<;>simp[h]
  match a with
  | 0=>simpa [zPg,onB] using key b0 h0
  | 1=>simpa [zPg,onB] using key b1 h1
  | a+2=>simp[zPg,onB]
theorem qSm {bk:List qY}{u:Int}{a:Nat}(hk:RK bk)(h:a<1000000000):vE.fs [.t (.agg [.sl (bk.map wQ),.int .i64 u]),.t (.int .i64 a)] []=some (.t (.bool (onB bk a)),[]):=by
 refine (vE.eq (bk,u,a) ⟨hk,h⟩).trans ?_;simp only[vE,hk.on]
theorem jN {b0 b1:qY}{u:Int}(hk:RK [b0,b1]):vE.fs [.t (.agg [.sl [.sl (b0.map bsT),.sl (b1.map bsT)],.int .i64 u]),.t (.int .i64 0)] []=some (.t (.bool (decide (b0.length=16))),[]):=by
 refine (vE.eq ([b0,b1],u,0) ⟨hk,by show 0<1000000000;omega⟩).trans ?_;simp only[vE,hk.on];rfl
theorem jO {b0 b1:qY}{u:Int}(hk:RK [b0,b1]):vE.fs [.t (.agg [.sl [.sl (b0.map bsT),.sl (b1.map bsT)],.int .i64 u]),.t (.int .i64 1)] []=some (.t (.bool (decide (b1.length=16))),[]):=by
 refine (vE.eq ([b0,b1],u,1) ⟨hk,by show 1<1000000000;omega⟩).trans ?_;simp only[vE,hk.on];rfl
def zDb (bk:List qY)(a i:Nat):List UInt8:=(bk.getD a []).getD i []
def zPy (bank i:Int):Prop:=bank<0∨2≤bank∨i<0∨16≤i
instance (bank i:Int):Decidable (zPy bank i):=by unfold zPy;infer_instance
def jA6 (bk:List qY)(bank i:Int):V:=if zPy bank i then .tup [.nil,.t (.int .i64 1)] else if onB bk bank.toNat then .tup [.sl 0 0 (zDb bk bank.toNat i.toNat).length,.t (.int .i64 0)] else .tup [.nil,.t (.int .i64 27)]
def jA5 (bk:List qY)(bank i:Int):List Ob:=if zPy bank i then [] else if onB bk bank.toNat then [.live 1 (((zDb bk bank.toNat i.toNat).map qA).map V.t) true false] else []
theorem RM.val {bk:List qY}(h:RM bk)(a i:Nat):(zDb bk a i).length<1000000000:=by
 by_cases ha:a<bk.length
 ·have e:bk.getD a []=bk[a]:=by simp[List.getD,ha]
  unfold zDb;rw[e];exact qNn (h.2 _ (List.getElem_mem ha)) i
 ·have e:bk.getD a []=[]:=by simp[List.getD,List.getElem?_eq_none (Nat.le_of_not_lt ha)]
  unfold zDb;rw[e];simp
theorem RK.len {bk:List qY}(h:RK bk){a:Nat}(ho:onB bk a=true):a<bk.length:=by
 simp only[onB,decide_eq_true_eq] at ho;rcases Nat.lt_or_ge a bk.length with h1 | h1
 ·exact h1
 ·rw[List.getD,List.getElem?_eq_none h1] at ho;simp at ho
theorem qP6 (h1:LkC tab 242 wD)(h2:LkC tab 243 qHi)(bk:List qY)(u bank i:Int)(hk:RM bk) :
  jT.1.wp tab gl (qF 0 [.t (zT bk u),.t (.int .i64 bank),.t (.int .i64 i)]) (qF 0 []) (kU [] [(6,none),(7,none)] 0 (fun r o=>r=jA6 bk bank i∧o=jA5 bk bank i)):=by
 by_cases hb:zPy bank i
 ·rw[jA6,jA5,if_pos hb,if_pos hb];by_cases b1:bank<0
  ·simp(disch:=omega)only[go_sem,jT,b1]
  ·by_cases b2:2≤bank
   ·simp(disch:=omega)only[go_sem,jT,b1]
   ·have hi : ¬ (0≤i∧i<16):=by unfold zPy at hb;omega
    simp(disch:=omega)only[go_sem,jT,b1,h1,qTk]
 ·rw[jA6,jA5,if_neg hb,if_neg hb];unfold zPy at hb;obtain⟨a,rfl⟩:=Int.eq_ofNat_of_zero_le (show 0≤bank by omega);obtain⟨k,rfl⟩:=Int.eq_ofNat_of_zero_le (show 0≤i by omega);have hon:=zM3 (u:=u) (a:=a) hk.1 oM;by_cases ho:onB bk a=true
  ·have hl:=hk.1.len ho;have hv:=hk.val a k;have hl2:(bk.getD a []).length=16:=by simpa [onB] using ho
   rw[ho] at hon;unfold zDb at hv;simp(disch:=omega)only[go_sem,jT,h1,h2,qGy,hon,ho,zDb]
  ·have ho':onB bk a=false:=by simpa using ho
   rw[ho'] at hon;simp(disch:=omega)only[go_sem,jT,h1,h2,qGy,hon,ho']
def qAw:Ct where
 α:=Int×Bool
 aS x:=[.t (.int .i64 x.1),.t (.bool x.2)]
 ins _:=[]
 pre _:=True
 r x:= .t (.int .i64 (yG x.1 x.2))
 outs _:=[]
 inj:=by
  rintro⟨a,b⟩ ⟨c,d⟩ h _;simp at h;obtain⟨rfl,rfl⟩:=h;exact⟨rfl,rfl⟩
theorem qJv {i:Int}{rs:Bool}:qAw.fs [.t (.int .i64 i),.t (.bool rs)] []=some (.t (.int .i64 (yG i rs)),[]):=qAw.eq (i,rs) trivial
def qDq:Ct where
 α:=Int×Bool
 aS x:=[.t (.int .i64 x.1),.t (.bool x.2)]
 ins _:=[]
 pre _:=True
 r x:= .t (.int .i64 (if yG x.1 x.2=5 then -1 else yG x.1 x.2))
 outs _:=[]
 inj:=by
  rintro⟨a,b⟩ ⟨c,d⟩ h _;simp at h;obtain⟨rfl,rfl⟩:=h;exact⟨rfl,rfl⟩
theorem qT1 {i:Int}{rs:Bool}:qDq.fs [.t (.int .i64 i),.t (.bool rs)] []=some (.t (.int .i64 (if yG i rs=5 then -1 else yG i rs)),[]):=qDq.eq (i,rs) trivial
def zNu (loc i:Int):Int:=if loc<0∨4<loc∨i<0∨16≤i then 1 else if loc<yG i true then 13 else 0
def qVi (a:Nat)(b:qY)(i:Nat):qY:=if List.length b=16 then b.set i (List.replicate (szA a) 0) else b
def zIy (bk:List qY)(i:Nat):List qY:=match bk with
 | [b0,b1]=>[qVi 0 b0 i,qVi 1 b1 i]
 | bk=>bk
def jIt (bk:List qY)(u loc i:Int):V:=if zNu loc i=0 then .tup [.t (zT (zIy bk i.toNat) (u+1)),.t (.int .i64 0)] else .tup [.t (zT [] 0),.t (.int .i64 (zNu loc i))]
theorem yE {a:Nat}{b:qY}{i:Nat}:List.length (qVi a b i)=List.length b:=by
 unfold qVi;split<;>simp
theorem qJp (h1:LkC tab 242 wD)(h2:LkC tab 244 qAw)(bk:List qY)(u loc i:Int)(he:zNu loc i≠0):zC.1.wp tab gl (qF 0 [.t (zT bk u),.t (.int .i64 loc),.t (.int .i64 i)]) (qF 0 []) (zD [(6,some (2,true)),(7,none)] 0 (fun r o=>r = .tup [.t (zT [] 0),.t (.int .i64 (zNu loc i))]∧o=[])):=by
 unfold zNu at he ⊢;by_cases a1:loc<0
 ·simp(disch:=omega)only[go_sem,zC,a1,List.map_nil]
 ·by_cases a2:4<loc
  ·simp(disch:=omega)only[go_sem,zC,a1,a2,List.map_nil]
  ·by_cases a3:i<0
   ·simp(disch:=omega)only[go_sem,zC,a1,a2,a3,h1,qTk,List.map_nil]
   ·by_cases a4:16≤i
    ·simp(disch:=omega)only[go_sem,zC,a1,a2,a3,a4,h1,qTk,List.map_nil]
    ·by_cases a5:loc<yG i true
     ·simp(disch:=omega)only[go_sem,zC,a1,a2,a3,a4,a5,h1,qGy,h2,qJv,List.map_nil]
     ·simp[a1,a2,a3,a4,a5] at he
theorem qOo (h1:LkC tab 242 wD)(h2:LkC tab 244 qAw)(h3:LkC tab 241 jF)(u loc i:Int)(hu:0≤u∧u<1000000000)(he:zNu loc i=0):zC.1.wp tab gl (qF 0 [.t (zT [] u),.t (.int .i64 loc),.t (.int .i64 i)]) (qF 0 []) (zD [(6,some (2,true)),(7,none)] 0 (fun r o=>r = .tup [.t (zT [] (u+1)),.t (.int .i64 0)]∧o=[])):=by
 unfold zNu at he;split at he
 ·omega
 ·split at he
  ·omega
  ·rename_i e1 e2;simp(disch:=omega)only[go_sem,zC,h1,qGy,h2,qJv,h3,qSd,List.map_nil];refine qG 1 ?_;simp(disch:=omega)only[go_sem,qD]
theorem qOp (h1:LkC tab 242 wD)(h2:LkC tab 244 qAw)(h3:LkC tab 241 jF)(h4:LkC tab 243 qHi)(h5:LkC tab 175 kD)(h6:LkC tab 239 wG)(b0 b1:qY)(u loc i:Int)(hu:0≤u∧u<1000000000)(hk:RM [b0,b1])(he:zNu loc i=0) :
  zC.1.wp tab gl (qF 0 [.t (zT [b0,b1] u),.t (.int .i64 loc),.t (.int .i64 i)]) (qF 0 []) (zD [(6,some (2,true)),(7,none)] 0 (fun r o=>r = .tup [.t (zT (zIy [b0,b1] i.toNat) (u+1)),.t (.int .i64 0)]∧o=[])):=by
 have gg:qRr b0∧qRr b1:=by
  obtain⟨hrk,_⟩:=hk;cases hrk with
  | two _ _ h0 h1=>exact⟨h0,h1⟩
 obtain⟨g0,g1⟩:=gg;unfold zNu at he;split at he
 ·omega
 ·split at he
  ·omega
  ·rename_i e1 e2;obtain⟨n,rfl⟩:=Int.eq_ofNat_of_zero_le (show 0≤i by omega);simp(disch:=omega)only[go_sem,zC,h1,qGy,h2,qJv,h3,qW hk,mcn];refine qB 2 (fun k=>match k with | 0=>[(2,.t (.int .i64 (n:Nat))),(3,.ref 4096 0 0),(6,.ref 4112 0 0),(8,.ref 24608 0 0),(31,.t (.int .i64 2)),(32,.t (.int .i64 0))] | 1=>[(2,.t (.int .i64 (n:Nat))),(3,.ref 4096 0 0),(6,.ref 4112 0 0),(8,.ref 24608 0 0),(31,.t (.int .i64 2)),(32,.t (.int .i64 1))] | _=>[(2,.t (.int .i64 (n:Nat))),(3,.ref 4096 0 0),(6,.ref 4112 0 0),(8,.ref 24608 0 0),(31,.t (.int .i64 2)),(32,.t (.int .i64 2))]) (fun k=>match k with | 0=>[(24608,.live 2 [.agg [.sl 24592 0 2,.t (.int .i64 u)]] true true),(24594,.live 1 (((b1).map bsT).map V.t) true false),(24593,.live 1 (((b0).map bsT).map V.t) true false),(24592,.live 1 [.sl 24593 0 (List.length b0),.sl 24594 0 (List.length b1)] true false),(4112,.live 2 [.agg [.nil,.t (.int .i64 0)]] true true),(4096,.live 2 [.t (zT [b0,b1] u)] true true)] | 1=>[(24608,.live 2 [.agg [.sl 24592 0 2,.t (.int .i64 u)]] true true),(24594,.live 1 (((b1).map bsT).map V.t) true false),(24593,.live 1 (((qVi 0 b0 n).map bsT).map V.t) true false),(24592,.live 1 [.sl 24593 0 (List.length b0),.sl 24594 0 (List.length b1)] true false),(4112,.live 2 [.agg [.nil,.t (.int .i64 0)]] true true),(4096,.live 2 [.t (zT [b0,b1] u)] true true)] | _=>[(24608,.live 2 [.agg [.sl 24592 0 2,.t (.int .i64 u)]] true true),(24594,.live 1 (((qVi 1 b1 n).map bsT).map V.t) true false),(24593,.live 1 (((qVi 0 b0 n).map bsT).map V.t) true false),(24592,.live 1 [.sl 24593 0 (List.length b0),.sl 24594 0 (List.length b1)] true false),(4112,.live 2 [.agg [.nil,.t (.int .i64 0)]] true true),(4096,.live 2 [.t (zT [b0,b1] u)] true true)]) ?_ (fun k hk2=>?_)
   ·refine qJ.rd id ?_ ?_ rfl;all_goals simp(disch:=omega)only[go_sem,id]
   ·rcases (show k=0∨k=1∨k=2 by omega) with rfl | rfl | rfl
    ·rcases g0 with z0 | z0
     ·simp(disch:=omega)only[go_sem,z0,h5,h6,qK,qL,zF,zG,h4,vX hk.1,vY hk.1,yE];refine qJ.rd id ?_ ?_ rfl;all_goals simp(disch:=omega)only[go_sem,id,qVi,z0,yE]
     ·simp(disch:=omega)only[go_sem,z0,h5,h6,qK,qL,zF,zG,h4,vX hk.1,vY hk.1,yE];repeat refine And.intro rfl ?_
      refine qJ.cv (hv:=[]) [45184] id ?_ rfl;simp(maxSteps:=9^9)(disch:=try exact dS)only[go_sem,id,qVi,z0,List.take_replicate,Nat.min_self,yE,szA];all_goals rfl
    ·rcases g1 with z1 | z1
     ·simp(disch:=omega)only[go_sem,z1,h5,h6,qK,qL,zF,zG,h4,vX hk.1,vY hk.1,yE];refine qJ.rd id ?_ ?_ rfl;all_goals simp(disch:=omega)only[go_sem,id,qVi,z1,yE]
     ·simp(disch:=omega)only[go_sem,z1,h5,h6,qK,qL,zF,zG,h4,vX hk.1,vY hk.1,yE];repeat refine And.intro rfl ?_
      refine qJ.cv (hv:=[]) [45184] id ?_ rfl;simp(maxSteps:=9^9)(disch:=try exact dS)only[go_sem,id,qVi,z1,List.take_replicate,Nat.min_self,yE,szA];all_goals rfl
    ·have t0:List.take (List.length b0) (qVi 0 b0 n)=qVi 0 b0 n:=List.take_of_length_le (by rw[yE];exact Nat.le_refl _);have t1:List.take (List.length b1) (qVi 1 b1 n)=qVi 1 b1 n:=List.take_of_length_le (by rw[yE];exact Nat.le_refl _);simp(disch:=omega)only[go_sem,yE,t0,t1];rfl
def xX (l0 l1:Nat)(loc i:Int)(nd k0 k1:Nat):Int:=
 if loc<0∨4<loc∨i<0∨16≤i∨nd≠2 then 1 else if loc<yG i false then 13
 else if (l0≠16∧0<k0)∨(l1≠16∧0<k1) then 27 else if (l0=16∧k0≠20)∨(l1=16∧k1≠32) then 24 else 0
def vH (a:Nat)(b:qY)(i:Nat)(d:List UInt8):qY:=if List.length b=16 then b.set i (zPm a (b.getD i []++d)) else b
theorem qH {a:Nat}{b:qY}{i:Nat}{d:List UInt8}:List.length (vH a b i d)=List.length b:=by
 unfold vH;split<;>simp
def qI9 (bk:List qY)(i:Nat)(ds:List (List UInt8)):List qY:=match bk with
 | [b0,b1]=>[vH 0 b0 i (ds.getD 0 []),vH 1 b1 i (ds.getD 1 [])]
 | bk=>bk
def xY (bk:List qY)(loc i:Int)(ds:List (List UInt8)):Int:=xX (bk.getD 0 []).length (bk.getD 1 []).length loc i ds.length (ds.getD 0 []).length (ds.getD 1 []).length
def qFi (bk:List qY)(u loc i:Int)(ds:List (List UInt8)):V:=
 if xX (bk.getD 0 []).length (bk.getD 1 []).length loc i ds.length (ds.getD 0 []).length (ds.getD 1 []).length=0 then .tup [.t (zT (qI9 bk i.toNat ds) (u+1)),.t (.int .i64 0)]
 else .tup [.t (zT [] 0),.t (.int .i64 (xX (bk.getD 0 []).length (bk.getD 1 []).length loc i ds.length (ds.getD 0 []).length (ds.getD 1 []).length))]
theorem qY7 {x:List UInt8}:zPm 0 x=qQt x:=rfl
theorem qY8 {x:List UInt8}:zPm 1 x=jC x:=rfl
theorem yM {x:List UInt8}:List.take 20 (qQt x)=qQt x:=List.take_of_length_le (by rw[zK];exact Nat.le_refl _)
theorem jA {x:List UInt8}:List.take 32 (jC x)=jC x:=List.take_of_length_le (by rw[qN];exact Nat.le_refl _)
theorem qMs (h1:LkC tab 242 wD)(h2:LkC tab 244 qAw)(h3:LkC tab 243 qHi)(h4:LkC tab 175 kD)(h5:LkC tab 241 jF)(h6:LkC tab 130 xV)
  (b0 b1:qY) (u loc:Int) (n:Nat) (d0 d1:List UInt8) (hu:0≤u∧u<1000000000) (hk:RM [b0,b1]) (hv0:(b0.getD n []).length≤64) (hv1:(b1.getD n []).length≤64) (hd:d0.length<9223372036854775808∧d1.length<9223372036854775808) (e1 : ¬(loc<0∨4<loc∨16≤n)) (e2 : ¬ loc<yG n false) :
  qZ.1.wp tab gl (qF 0 [.t (zT [b0,b1] u),.t (.int .i64 loc),.t (.int .i64 n),.t (.sl [bsT d0,bsT d1])]) (qF 0 []) (zD [(8,some (2,true)),(9,none)] 0 (fun r o=>r=qFi [b0,b1] u loc n [d0,d1]∧o=[])):=by
 have gg:qRr b0∧qRr b1:=by
  obtain⟨hrk,_⟩:=hk;cases hrk with
  | two _ _ h0 h1=>exact⟨h0,h1⟩
 obtain⟨g0,g1⟩:=gg;simp(disch:=omega)only[go_sem,qZ,h1,qGy,h2,qJv,mcn];refine vM (fs':=[(2,.t (.int .i64 (n:Nat))),(3,.t (.sl [bsT d0,bsT d1])),(4,.ref 4096 0 0),(8,.ref 4112 0 0),(38,.t (.sl [bsT d0,bsT d1])),(39,.t (.int .i64 2)),(40,.t (.int .i64 0))]) (hs':=[(4112,.live 2 [.agg [.nil,.t (.int .i64 0)]] true true),(4096,.live 2 [.t (zT [b0,b1] u)] true true)]) (qJ.rd id ?_ ?_ rfl) ?_
 ·simp(disch:=omega)only[go_sem,id]
 ·simp(disch:=omega)only[go_sem,id]
 rcases g0 with z0 | z0<;>rcases g1 with z1 | z1
 ·have zz:True:=trivial;by_cases p2:0<d0.length
  ·have zz:True:=trivial;have hE:xX 0 0 loc n 2 d0.length d1.length=27:=by unfold xX;rw[if_neg oM,if_neg oM,if_pos oM]
   refine qG 3 ?_;simp(disch:=omega)only[go_sem,qD,h3,vX hk.1,vY hk.1,h4,qK,qL,h5,qW hk,h6,qQ,qP,z0,z1,hE,List.map_nil,qFi,xY,List.getD_cons_zero,List.getD_cons_succ,List.length_cons,List.length_nil];all_goals repeat refine And.intro rfl ?_
   all_goals rfl
  ·have zz:True:=trivial;by_cases p1:0<d1.length
   ·have zz:True:=trivial;have hE:xX 0 0 loc n 2 d0.length d1.length=27:=by unfold xX;rw[if_neg oM,if_neg oM,if_pos oM]
    refine qG 3 ?_;simp(disch:=omega)only[go_sem,qD,h3,vX hk.1,vY hk.1,h4,qK,qL,h5,qW hk,h6,qQ,qP,z0,z1,hE,List.map_nil,qFi,xY,List.getD_cons_zero,List.getD_cons_succ,List.length_cons,List.length_nil];all_goals repeat refine And.intro rfl ?_
    all_goals rfl
   ·have zz:True:=trivial;refine qG 3 ?_;simp(disch:=omega)only[go_sem,qD,h3,vX hk.1,vY hk.1,h4,qK,qL,h5,qW hk,h6,qQ,qP,z0,z1];all_goals repeat refine And.intro rfl ?_
    refine vM (fs':=[(2,.t (.int .i64 (n:Nat))),(3,.t (.sl [bsT d0,bsT d1])),(4,.ref 4096 0 0),(8,.ref 4112 0 0),(56,.t (.sl [bsT d0,bsT d1])),(57,.t (.int .i64 2)),(58,.t (.int .i64 0))]) (hs':=[(4112,.live 2 [.agg [.nil,.t (.int .i64 0)]] true true),(4096,.live 2 [.t (zT [b0,b1] u)] true true)]) (qJ.rd id ?_ ?_ rfl) ?_
    ·simp(disch:=omega)only[go_sem,id]
    ·simp(disch:=omega)only[go_sem,id]
    have hE:xX 0 0 loc n 2 d0.length d1.length=0:=by unfold xX;rw[if_neg oM,if_neg oM,if_neg oM,if_neg oM]
    refine qG 3 ?_;simp(disch:=omega)only[go_sem,qD,h3,vX hk.1,vY hk.1,h4,qK,qL,h5,qW hk,h6,qQ,qP,z0,z1];all_goals repeat refine And.intro rfl ?_
    refine qB 2 (fun k=>match k with | 0=>[(2,.t (.int .i64 (n:Nat))),(3,.t (.sl [bsT d0,bsT d1])),(4,.ref 4096 0 0),(8,.ref 4112 0 0),(14,.ref 73760 0 0),(79,.t (.int .i64 2)),(80,.t (.int .i64 0))] | 1=>[(2,.t (.int .i64 (n:Nat))),(3,.t (.sl [bsT d0,bsT d1])),(4,.ref 4096 0 0),(8,.ref 4112 0 0),(14,.ref 73760 0 0),(79,.t (.int .i64 2)),(80,.t (.int .i64 1))] | _=>[(2,.t (.int .i64 (n:Nat))),(3,.t (.sl [bsT d0,bsT d1])),(4,.ref 4096 0 0),(8,.ref 4112 0 0),(14,.ref 73760 0 0),(79,.t (.int .i64 2)),(80,.t (.int .i64 2))]) (fun k=>match k with | 0=>[(73760,.live 2 [.agg [.sl 73744 0 2,.t (.int .i64 u)]] true true),(73746,.live 1 (((b1).map bsT).map V.t) true false),(73745,.live 1 (((b0).map bsT).map V.t) true false),(73744,.live 1 [.sl 73745 0 0,.sl 73746 0 0] true false),(4112,.live 2 [.agg [.nil,.t (.int .i64 0)]] true true),(4096,.live 2 [.t (zT [b0,b1] u)] true true)] | 1=>[(73760,.live 2 [.agg [.sl 73744 0 2,.t (.int .i64 u)]] true true),(73746,.live 1 (((b1).map bsT).map V.t) true false),(73745,.live 1 (((vH 0 b0 n d0).map bsT).map V.t) true false),(73744,.live 1 [.sl 73745 0 0,.sl 73746 0 0] true false),(4112,.live 2 [.agg [.nil,.t (.int .i64 0)]] true true),(4096,.live 2 [.t (zT [b0,b1] u)] true true)] | _=>[(73760,.live 2 [.agg [.sl 73744 0 2,.t (.int .i64 u)]] true true),(73746,.live 1 (((vH 1 b1 n d1).map bsT).map V.t) true false),(73745,.live 1 (((vH 0 b0 n d0).map bsT).map V.t) true false),(73744,.live 1 [.sl 73745 0 0,.sl 73746 0 0] true false),(4112,.live 2 [.agg [.nil,.t (.int .i64 0)]] true true),(4096,.live 2 [.t (zT [b0,b1] u)] true true)]) ?_ (fun k hk2=>?_)
    ·refine qJ.rd id ?_ ?_ rfl;all_goals simp(disch:=omega)only[go_sem,id,z0,z1]
    ·rcases (show k=0∨k=1∨k=2 by omega) with rfl | rfl | rfl
     ·have q:=List.take_of_length_le (show (b0.getD n []++d0).length≤(List.getD b0 n []).length+d0.length by rw[List.length_append];exact Nat.le_refl _);simp(disch:=omega)only[go_sem,h3,vX hk.1,vY hk.1,h4,qK,qL,h5,qW hk,h6,qQ,qP,z0,z1,qH,q];refine qJ.rd id ?_ ?_ rfl;all_goals simp(disch:=omega)only[go_sem,id,vH,z0,z1]
     ·have q:=List.take_of_length_le (show (b1.getD n []++d1).length≤(List.getD b1 n []).length+d1.length by rw[List.length_append];exact Nat.le_refl _);simp(disch:=omega)only[go_sem,h3,vX hk.1,vY hk.1,h4,qK,qL,h5,qW hk,h6,qQ,qP,z0,z1,qH,q];refine qJ.rd id ?_ ?_ rfl;all_goals simp(disch:=omega)only[go_sem,id,vH,z0,z1]
     ·have t0:List.take 0 (vH 0 b0 n d0)=vH 0 b0 n d0:=List.take_of_length_le (by rw[qH,z0];exact Nat.le_refl _);have t1:List.take 0 (vH 1 b1 n d1)=vH 1 b1 n d1:=List.take_of_length_le (by rw[qH,z1];exact Nat.le_refl _);have y0:vH 0 b0 n d0=[]:=List.eq_nil_of_length_eq_zero (by rw[qH,z0]);have y1:vH 1 b1 n d1=[]:=List.eq_nil_of_length_eq_zero (by rw[qH,z1]);simp(disch:=omega)only[go_sem,qH,t0,t1,z0,z1,hE,qI9,Int.toNat_natCast,mcn,y0,y1,qFi,xY,List.getD_cons_zero,List.getD_cons_succ,List.length_cons,List.length_nil]
 ·have zz:True:=trivial;by_cases p1:0<d0.length
  ·have zz:True:=trivial;have hE:xX 0 16 loc n 2 d0.length d1.length=27:=by unfold xX;rw[if_neg oM,if_neg oM,if_pos oM]
   refine qG 3 ?_;simp(disch:=omega)only[go_sem,qD,h3,vX hk.1,vY hk.1,h4,qK,qL,h5,qW hk,h6,qQ,qP,z0,z1,hE,List.map_nil,qFi,xY,List.getD_cons_zero,List.getD_cons_succ,List.length_cons,List.length_nil];all_goals repeat refine And.intro rfl ?_
   all_goals rfl
  ·have zz:True:=trivial;refine qG 3 ?_;simp(disch:=omega)only[go_sem,qD,h3,vX hk.1,vY hk.1,h4,qK,qL,h5,qW hk,h6,qQ,qP,z0,z1];all_goals repeat refine And.intro rfl ?_
   refine vM (fs':=[(2,.t (.int .i64 (n:Nat))),(3,.t (.sl [bsT d0,bsT d1])),(4,.ref 4096 0 0),(8,.ref 4112 0 0),(56,.t (.sl [bsT d0,bsT d1])),(57,.t (.int .i64 2)),(58,.t (.int .i64 0))]) (hs':=[(4112,.live 2 [.agg [.nil,.t (.int .i64 0)]] true true),(4096,.live 2 [.t (zT [b0,b1] u)] true true)]) (qJ.rd id ?_ ?_ rfl) ?_
   ·simp(disch:=omega)only[go_sem,id]
   ·simp(disch:=omega)only[go_sem,id]
   by_cases q1:d1.length≠32
   ·have zz:True:=trivial;have hE:xX 0 16 loc n 2 d0.length d1.length=24:=by unfold xX;rw[if_neg oM,if_neg oM,if_neg oM,if_pos oM]
    refine qG 3 ?_;simp(disch:=omega)only[go_sem,qD,h3,vX hk.1,vY hk.1,h4,qK,qL,h5,qW hk,h6,qQ,qP,z0,z1,hE,List.map_nil,qFi,xY,List.getD_cons_zero,List.getD_cons_succ,List.length_cons,List.length_nil];all_goals repeat refine And.intro rfl ?_
    all_goals rfl
   ·have zz:True:=trivial;have hE:xX 0 16 loc n 2 d0.length d1.length=0:=by unfold xX;rw[if_neg oM,if_neg oM,if_neg oM,if_neg oM]
    refine qG 3 ?_;simp(disch:=omega)only[go_sem,qD,h3,vX hk.1,vY hk.1,h4,qK,qL,h5,qW hk,h6,qQ,qP,z0,z1];all_goals repeat refine And.intro rfl ?_
    refine qB 2 (fun k=>match k with | 0=>[(2,.t (.int .i64 (n:Nat))),(3,.t (.sl [bsT d0,bsT d1])),(4,.ref 4096 0 0),(8,.ref 4112 0 0),(14,.ref 73760 0 0),(79,.t (.int .i64 2)),(80,.t (.int .i64 0))] | 1=>[(2,.t (.int .i64 (n:Nat))),(3,.t (.sl [bsT d0,bsT d1])),(4,.ref 4096 0 0),(8,.ref 4112 0 0),(14,.ref 73760 0 0),(79,.t (.int .i64 2)),(80,.t (.int .i64 1))] | _=>[(2,.t (.int .i64 (n:Nat))),(3,.t (.sl [bsT d0,bsT d1])),(4,.ref 4096 0 0),(8,.ref 4112 0 0),(14,.ref 73760 0 0),(79,.t (.int .i64 2)),(80,.t (.int .i64 2))]) (fun k=>match k with | 0=>[(73760,.live 2 [.agg [.sl 73744 0 2,.t (.int .i64 u)]] true true),(73746,.live 1 (((b1).map bsT).map V.t) true false),(73745,.live 1 (((b0).map bsT).map V.t) true false),(73744,.live 1 [.sl 73745 0 0,.sl 73746 0 16] true false),(4112,.live 2 [.agg [.nil,.t (.int .i64 0)]] true true),(4096,.live 2 [.t (zT [b0,b1] u)] true true)] | 1=>[(73760,.live 2 [.agg [.sl 73744 0 2,.t (.int .i64 u)]] true true),(73746,.live 1 (((b1).map bsT).map V.t) true false),(73745,.live 1 (((vH 0 b0 n d0).map bsT).map V.t) true false),(73744,.live 1 [.sl 73745 0 0,.sl 73746 0 16] true false),(4112,.live 2 [.agg [.nil,.t (.int .i64 0)]] true true),(4096,.live 2 [.t (zT [b0,b1] u)] true true)] | _=>[(73760,.live 2 [.agg [.sl 73744 0 2,.t (.int .i64 u)]] true true),(73746,.live 1 (((vH 1 b1 n d1).map bsT).map V.t) true false),(73745,.live 1 (((vH 0 b0 n d0).map bsT).map V.t) true false),(73744,.live 1 [.sl 73745 0 0,.sl 73746 0 16] true false),(4112,.live 2 [.agg [.nil,.t (.int .i64 0)]] true true),(4096,.live 2 [.t (zT [b0,b1] u)] true true)]) ?_ (fun k hk2=>?_)
    ·refine qJ.rd id ?_ ?_ rfl;all_goals simp(disch:=omega)only[go_sem,id,z0,z1]
    ·rcases (show k=0∨k=1∨k=2 by omega) with rfl | rfl | rfl
     ·have q:=List.take_of_length_le (show (b0.getD n []++d0).length≤(List.getD b0 n []).length+d0.length by rw[List.length_append];exact Nat.le_refl _);simp(disch:=omega)only[go_sem,h3,vX hk.1,vY hk.1,h4,qK,qL,h5,qW hk,h6,qQ,qP,z0,z1,qH,q];refine qJ.rd id ?_ ?_ rfl;all_goals simp(disch:=omega)only[go_sem,id,vH,z0,z1]
     ·have q:=List.take_of_length_le (show (b1.getD n []++d1).length≤(List.getD b1 n []).length+d1.length by rw[List.length_append];exact Nat.le_refl _);simp(maxSteps:=9^9)(disch:=try exact dS)only[go_sem,h3,vX hk.1,vY hk.1,h4,qK,qL,h5,qW hk,h6,qQ,qP,z0,z1,qH,q];repeat refine And.intro rfl ?_
      refine qJ.cv (hv:=[]) [94544] id ?_ rfl;simp(maxSteps:=9^9)(disch:=try exact dS)only[go_sem,id,vH,z0,z1,yM,jA,qY7,qY8,zK,qN];all_goals rfl
     ·have t0:List.take 0 (vH 0 b0 n d0)=vH 0 b0 n d0:=List.take_of_length_le (by rw[qH,z0];exact Nat.le_refl _);have t1:List.take 16 (vH 1 b1 n d1)=vH 1 b1 n d1:=List.take_of_length_le (by rw[qH,z1];exact Nat.le_refl _);have y0:vH 0 b0 n d0=[]:=List.eq_nil_of_length_eq_zero (by rw[qH,z0]);simp(disch:=omega)only[go_sem,qH,t0,t1,z0,z1,hE,qI9,Int.toNat_natCast,mcn,y0,qFi,xY,List.getD_cons_zero,List.getD_cons_succ,List.length_cons,List.length_nil]
 ·have zz:True:=trivial;by_cases p1:0<d1.length
  ·have zz:True:=trivial;have hE:xX 16 0 loc n 2 d0.length d1.length=27:=by unfold xX;rw[if_neg oM,if_neg oM,if_pos oM]
   refine qG 3 ?_;simp(disch:=omega)only[go_sem,qD,h3,vX hk.1,vY hk.1,h4,qK,qL,h5,qW hk,h6,qQ,qP,z0,z1,hE,List.map_nil,qFi,xY,List.getD_cons_zero,List.getD_cons_succ,List.length_cons,List.length_nil];all_goals repeat refine And.intro rfl ?_
   all_goals rfl
  ·have zz:True:=trivial;refine qG 3 ?_;simp(disch:=omega)only[go_sem,qD,h3,vX hk.1,vY hk.1,h4,qK,qL,h5,qW hk,h6,qQ,qP,z0,z1];all_goals repeat refine And.intro rfl ?_
   refine vM (fs':=[(2,.t (.int .i64 (n:Nat))),(3,.t (.sl [bsT d0,bsT d1])),(4,.ref 4096 0 0),(8,.ref 4112 0 0),(56,.t (.sl [bsT d0,bsT d1])),(57,.t (.int .i64 2)),(58,.t (.int .i64 0))]) (hs':=[(4112,.live 2 [.agg [.nil,.t (.int .i64 0)]] true true),(4096,.live 2 [.t (zT [b0,b1] u)] true true)]) (qJ.rd id ?_ ?_ rfl) ?_
   ·simp(disch:=omega)only[go_sem,id]
   ·simp(disch:=omega)only[go_sem,id]
   by_cases q1:d0.length≠20
   ·have zz:True:=trivial;have hE:xX 16 0 loc n 2 d0.length d1.length=24:=by unfold xX;rw[if_neg oM,if_neg oM,if_neg oM,if_pos oM]
    refine qG 3 ?_;simp(disch:=omega)only[go_sem,qD,h3,vX hk.1,vY hk.1,h4,qK,qL,h5,qW hk,h6,qQ,qP,z0,z1,hE,List.map_nil,qFi,xY,List.getD_cons_zero,List.getD_cons_succ,List.length_cons,List.length_nil];all_goals repeat refine And.intro rfl ?_
    all_goals rfl
   ·have zz:True:=trivial;have hE:xX 16 0 loc n 2 d0.length d1.length=0:=by unfold xX;rw[if_neg oM,if_neg oM,if_neg oM,if_neg oM]
    refine qG 3 ?_;simp(disch:=omega)only[go_sem,qD,h3,vX hk.1,vY hk.1,h4,qK,qL,h5,qW hk,h6,qQ,qP,z0,z1];all_goals repeat refine And.intro rfl ?_
    refine qB 2 (fun k=>match k with | 0=>[(2,.t (.int .i64 (n:Nat))),(3,.t (.sl [bsT d0,bsT d1])),(4,.ref 4096 0 0),(8,.ref 4112 0 0),(14,.ref 73760 0 0),(79,.t (.int .i64 2)),(80,.t (.int .i64 0))] | 1=>[(2,.t (.int .i64 (n:Nat))),(3,.t (.sl [bsT d0,bsT d1])),(4,.ref 4096 0 0),(8,.ref 4112 0 0),(14,.ref 73760 0 0),(79,.t (.int .i64 2)),(80,.t (.int .i64 1))] | _=>[(2,.t (.int .i64 (n:Nat))),(3,.t (.sl [bsT d0,bsT d1])),(4,.ref 4096 0 0),(8,.ref 4112 0 0),(14,.ref 73760 0 0),(79,.t (.int .i64 2)),(80,.t (.int .i64 2))]) (fun k=>match k with | 0=>[(73760,.live 2 [.agg [.sl 73744 0 2,.t (.int .i64 u)]] true true),(73746,.live 1 (((b1).map bsT).map V.t) true false),(73745,.live 1 (((b0).map bsT).map V.t) true false),(73744,.live 1 [.sl 73745 0 16,.sl 73746 0 0] true false),(4112,.live 2 [.agg [.nil,.t (.int .i64 0)]] true true),(4096,.live 2 [.t (zT [b0,b1] u)] true true)] | 1=>[(73760,.live 2 [.agg [.sl 73744 0 2,.t (.int .i64 u)]] true true),(73746,.live 1 (((b1).map bsT).map V.t) true false),(73745,.live 1 (((vH 0 b0 n d0).map bsT).map V.t) true false),(73744,.live 1 [.sl 73745 0 16,.sl 73746 0 0] true false),(4112,.live 2 [.agg [.nil,.t (.int .i64 0)]] true true),(4096,.live 2 [.t (zT [b0,b1] u)] true true)] | _=>[(73760,.live 2 [.agg [.sl 73744 0 2,.t (.int .i64 u)]] true true),(73746,.live 1 (((vH 1 b1 n d1).map bsT).map V.t) true false),(73745,.live 1 (((vH 0 b0 n d0).map bsT).map V.t) true false),(73744,.live 1 [.sl 73745 0 16,.sl 73746 0 0] true false),(4112,.live 2 [.agg [.nil,.t (.int .i64 0)]] true true),(4096,.live 2 [.t (zT [b0,b1] u)] true true)]) ?_ (fun k hk2=>?_)
    ·refine qJ.rd id ?_ ?_ rfl;all_goals simp(disch:=omega)only[go_sem,id,z0,z1]
    ·rcases (show k=0∨k=1∨k=2 by omega) with rfl | rfl | rfl
     ·have q:=List.take_of_length_le (show (b0.getD n []++d0).length≤(List.getD b0 n []).length+d0.length by rw[List.length_append];exact Nat.le_refl _);simp(maxSteps:=9^9)(disch:=try exact dS)only[go_sem,h3,vX hk.1,vY hk.1,h4,qK,qL,h5,qW hk,h6,qQ,qP,z0,z1,qH,q];repeat refine And.intro rfl ?_
      refine qJ.cv (hv:=[]) [94544] id ?_ rfl;simp(maxSteps:=9^9)(disch:=try exact dS)only[go_sem,id,vH,z0,z1,yM,jA,qY7,qY8,zK,qN];all_goals rfl
     ·have q:=List.take_of_length_le (show (b1.getD n []++d1).length≤(List.getD b1 n []).length+d1.length by rw[List.length_append];exact Nat.le_refl _);simp(disch:=omega)only[go_sem,h3,vX hk.1,vY hk.1,h4,qK,qL,h5,qW hk,h6,qQ,qP,z0,z1,qH,q];refine qJ.rd id ?_ ?_ rfl;all_goals simp(disch:=omega)only[go_sem,id,vH,z0,z1]
     ·have t0:List.take 16 (vH 0 b0 n d0)=vH 0 b0 n d0:=List.take_of_length_le (by rw[qH,z0];exact Nat.le_refl _);have t1:List.take 0 (vH 1 b1 n d1)=vH 1 b1 n d1:=List.take_of_length_le (by rw[qH,z1];exact Nat.le_refl _);have y1:vH 1 b1 n d1=[]:=List.eq_nil_of_length_eq_zero (by rw[qH,z1]);simp(disch:=omega)only[go_sem,qH,t0,t1,z0,z1,hE,qI9,Int.toNat_natCast,mcn,y1,qFi,xY,List.getD_cons_zero,List.getD_cons_succ,List.length_cons,List.length_nil]
 ·have zz:True:=trivial;refine qG 3 ?_;simp(disch:=omega)only[go_sem,qD,h3,vX hk.1,vY hk.1,h4,qK,qL,h5,qW hk,h6,qQ,qP,z0,z1];all_goals repeat refine And.intro rfl ?_
  refine vM (fs':=[(2,.t (.int .i64 (n:Nat))),(3,.t (.sl [bsT d0,bsT d1])),(4,.ref 4096 0 0),(8,.ref 4112 0 0),(56,.t (.sl [bsT d0,bsT d1])),(57,.t (.int .i64 2)),(58,.t (.int .i64 0))]) (hs':=[(4112,.live 2 [.agg [.nil,.t (.int .i64 0)]] true true),(4096,.live 2 [.t (zT [b0,b1] u)] true true)]) (qJ.rd id ?_ ?_ rfl) ?_
  ·simp(disch:=omega)only[go_sem,id]
  ·simp(disch:=omega)only[go_sem,id]
  by_cases q2:d0.length≠20
  ·have zz:True:=trivial;have hE:xX 16 16 loc n 2 d0.length d1.length=24:=by unfold xX;rw[if_neg oM,if_neg oM,if_neg oM,if_pos oM]
   refine qG 3 ?_;simp(disch:=omega)only[go_sem,qD,h3,vX hk.1,vY hk.1,h4,qK,qL,h5,qW hk,h6,qQ,qP,z0,z1,hE,List.map_nil,qFi,xY,List.getD_cons_zero,List.getD_cons_succ,List.length_cons,List.length_nil];all_goals repeat refine And.intro rfl ?_
   all_goals rfl
  ·have zz:True:=trivial;by_cases q1:d1.length≠32
   ·have zz:True:=trivial;have hE:xX 16 16 loc n 2 d0.length d1.length=24:=by unfold xX;rw[if_neg oM,if_neg oM,if_neg oM,if_pos oM]
    refine qG 3 ?_;simp(disch:=omega)only[go_sem,qD,h3,vX hk.1,vY hk.1,h4,qK,qL,h5,qW hk,h6,qQ,qP,z0,z1,hE,List.map_nil,qFi,xY,List.getD_cons_zero,List.getD_cons_succ,List.length_cons,List.length_nil];all_goals repeat refine And.intro rfl ?_
    all_goals rfl
   ·have zz:True:=trivial;have hE:xX 16 16 loc n 2 d0.length d1.length=0:=by unfold xX;rw[if_neg oM,if_neg oM,if_neg oM,if_neg oM]
    refine qG 3 ?_;simp(disch:=omega)only[go_sem,qD,h3,vX hk.1,vY hk.1,h4,qK,qL,h5,qW hk,h6,qQ,qP,z0,z1];all_goals repeat refine And.intro rfl ?_
    refine qB 2 (fun k=>match k with | 0=>[(2,.t (.int .i64 (n:Nat))),(3,.t (.sl [bsT d0,bsT d1])),(4,.ref 4096 0 0),(8,.ref 4112 0 0),(14,.ref 73760 0 0),(79,.t (.int .i64 2)),(80,.t (.int .i64 0))] | 1=>[(2,.t (.int .i64 (n:Nat))),(3,.t (.sl [bsT d0,bsT d1])),(4,.ref 4096 0 0),(8,.ref 4112 0 0),(14,.ref 73760 0 0),(79,.t (.int .i64 2)),(80,.t (.int .i64 1))] | _=>[(2,.t (.int .i64 (n:Nat))),(3,.t (.sl [bsT d0,bsT d1])),(4,.ref 4096 0 0),(8,.ref 4112 0 0),(14,.ref 73760 0 0),(79,.t (.int .i64 2)),(80,.t (.int .i64 2))]) (fun k=>match k with | 0=>[(73760,.live 2 [.agg [.sl 73744 0 2,.t (.int .i64 u)]] true true),(73746,.live 1 (((b1).map bsT).map V.t) true false),(73745,.live 1 (((b0).map bsT).map V.t) true false),(73744,.live 1 [.sl 73745 0 16,.sl 73746 0 16] true false),(4112,.live 2 [.agg [.nil,.t (.int .i64 0)]] true true),(4096,.live 2 [.t (zT [b0,b1] u)] true true)] | 1=>[(73760,.live 2 [.agg [.sl 73744 0 2,.t (.int .i64 u)]] true true),(73746,.live 1 (((b1).map bsT).map V.t) true false),(73745,.live 1 (((vH 0 b0 n d0).map bsT).map V.t) true false),(73744,.live 1 [.sl 73745 0 16,.sl 73746 0 16] true false),(4112,.live 2 [.agg [.nil,.t (.int .i64 0)]] true true),(4096,.live 2 [.t (zT [b0,b1] u)] true true)] | _=>[(73760,.live 2 [.agg [.sl 73744 0 2,.t (.int .i64 u)]] true true),(73746,.live 1 (((vH 1 b1 n d1).map bsT).map V.t) true false),(73745,.live 1 (((vH 0 b0 n d0).map bsT).map V.t) true false),(73744,.live 1 [.sl 73745 0 16,.sl 73746 0 16] true false),(4112,.live 2 [.agg [.nil,.t (.int .i64 0)]] true true),(4096,.live 2 [.t (zT [b0,b1] u)] true true)]) ?_ (fun k hk2=>?_)
    ·refine qJ.rd id ?_ ?_ rfl;all_goals simp(disch:=omega)only[go_sem,id,z0,z1]
    ·rcases (show k=0∨k=1∨k=2 by omega) with rfl | rfl | rfl
     ·have q:=List.take_of_length_le (show (b0.getD n []++d0).length≤(List.getD b0 n []).length+d0.length by rw[List.length_append];exact Nat.le_refl _);simp(maxSteps:=9^9)(disch:=try exact dS)only[go_sem,h3,vX hk.1,vY hk.1,h4,qK,qL,h5,qW hk,h6,qQ,qP,z0,z1,qH,q];repeat refine And.intro rfl ?_
      refine qJ.cv (hv:=[]) [94544] id ?_ rfl;simp(maxSteps:=9^9)(disch:=try exact dS)only[go_sem,id,vH,z0,z1,yM,jA,qY7,qY8,zK,qN];all_goals rfl
     ·have q:=List.take_of_length_le (show (b1.getD n []++d1).length≤(List.getD b1 n []).length+d1.length by rw[List.length_append];exact Nat.le_refl _);simp(maxSteps:=9^9)(disch:=try exact dS)only[go_sem,h3,vX hk.1,vY hk.1,h4,qK,qL,h5,qW hk,h6,qQ,qP,z0,z1,qH,q];repeat refine And.intro rfl ?_
      refine qJ.cv (hv:=[]) [94544] id ?_ rfl;simp(maxSteps:=9^9)(disch:=try exact dS)only[go_sem,id,vH,z0,z1,yM,jA,qY7,qY8,zK,qN];all_goals rfl
     ·have t0:List.take 16 (vH 0 b0 n d0)=vH 0 b0 n d0:=List.take_of_length_le (by rw[qH,z0];exact Nat.le_refl _);have t1:List.take 16 (vH 1 b1 n d1)=vH 1 b1 n d1:=List.take_of_length_le (by rw[qH,z1];exact Nat.le_refl _);simp(disch:=omega)only[go_sem,qH,t0,t1,z0,z1,hE,qI9,Int.toNat_natCast,mcn,qFi,xY,List.getD_cons_zero,List.getD_cons_succ,List.length_cons,List.length_nil]
theorem qWa (h2:LkC tab 64 qDq)(h3:LkC tab 20 vE)(h4:LkC tab 58 kD)(h5:LkC tab 65 jF)(h7:LkC tab 67 qKz)(h6:LkC tab 66 xV)
  (b0 b1:qY) (u loc:Int) (n:Nat) (d0 d1:List UInt8) (hu:0≤u∧u<1000000000) (hk:RM [b0,b1]) (hv0:(b0.getD n []).length≤64) (hv1:(b1.getD n []).length≤64) (hd:d0.length<9223372036854775808∧d1.length<9223372036854775808) (e1 : ¬(loc<0∨4<loc∨16≤n)) (e2 : ¬ loc<yG n false) :
  zS.1.wp tab gl (qF 0 [.t (zT [b0,b1] u),.t (.int .i64 loc),.t (.int .i64 n),.t (.sl [bsT d0,bsT d1])]) (qF 0 []) (zD [(8,some (2,true)),(9,none)] 0 (fun r o=>r=qFi [b0,b1] u loc n [d0,d1]∧o=[])):=by
 have gg:qRr b0∧qRr b1:=by
  obtain⟨hrk,_⟩:=hk;cases hrk with
  | two _ _ h0 h1=>exact⟨h0,h1⟩
 obtain⟨g0,g1⟩:=gg;have a6 : ¬ yG (n:Int) false=5:=by unfold yG;split<;>(try split)<;>(try split)<;>simp_all
 simp(disch:=omega)only[go_sem,zS,h2,qT1,a6,mcn];refine vM (fs':=[(2,.t (.int .i64 (n:Nat))),(3,.t (.sl [bsT d0,bsT d1])),(4,.ref 4096 0 0),(8,.ref 4112 0 0),(10,.t (.int .i64 0))]) (hs':=[(4112,.live 2 [.agg [.nil,.t (.int .i64 0)]] true true),(4096,.live 2 [.t (zT [b0,b1] u)] true true)]) (qJ.rd id ?_ ?_ rfl) ?_
 ·simp(disch:=omega)only[go_sem,id]
 ·simp(disch:=omega)only[go_sem,id]
 rcases g0 with z0 | z0<;>rcases g1 with z1 | z1
 ·have zz:True:=trivial;by_cases p2:0<d0.length
  ·have zz:True:=trivial;have hE:xX 0 0 loc n 2 d0.length d1.length=27:=by unfold xX;rw[if_neg oM,if_neg oM,if_pos oM]
   refine qG 3 ?_;simp(disch:=omega)only[go_sem,qD,h3,jN hk.1,jO hk.1,h4,qK,qL,h5,qW hk,h7,jL,h6,qQ,qP,z0,z1,hE,List.map_nil,qFi,xY,List.getD_cons_zero,List.getD_cons_succ,List.length_cons,List.length_nil];all_goals repeat refine And.intro rfl ?_
   all_goals rfl
  ·have zz:True:=trivial;by_cases p1:0<d1.length
   ·have zz:True:=trivial;have hE:xX 0 0 loc n 2 d0.length d1.length=27:=by unfold xX;rw[if_neg oM,if_neg oM,if_pos oM]
    refine qG 3 ?_;simp(disch:=omega)only[go_sem,qD,h3,jN hk.1,jO hk.1,h4,qK,qL,h5,qW hk,h7,jL,h6,qQ,qP,z0,z1,hE,List.map_nil,qFi,xY,List.getD_cons_zero,List.getD_cons_succ,List.length_cons,List.length_nil];all_goals repeat refine And.intro rfl ?_
    all_goals rfl
   ·have zz:True:=trivial;refine qG 3 ?_;simp(disch:=omega)only[go_sem,qD,h3,jN hk.1,jO hk.1,h4,qK,qL,h5,qW hk,h7,jL,h6,qQ,qP,z0,z1];all_goals repeat refine And.intro rfl ?_
    refine vM (fs':=[(2,.t (.int .i64 (n:Nat))),(3,.t (.sl [bsT d0,bsT d1])),(4,.ref 4096 0 0),(8,.ref 4112 0 0),(11,.t (.int .i64 0))]) (hs':=[(4112,.live 2 [.agg [.nil,.t (.int .i64 0)]] true true),(4096,.live 2 [.t (zT [b0,b1] u)] true true)]) (qJ.rd id ?_ ?_ rfl) ?_
    ·simp(disch:=omega)only[go_sem,id]
    ·simp(disch:=omega)only[go_sem,id]
    have hE:xX 0 0 loc n 2 d0.length d1.length=0:=by unfold xX;rw[if_neg oM,if_neg oM,if_neg oM,if_neg oM]
    refine qG 3 ?_;simp(disch:=omega)only[go_sem,qD,h3,jN hk.1,jO hk.1,h4,qK,qL,h5,qW hk,h7,jL,h6,qQ,qP,z0,z1];all_goals repeat refine And.intro rfl ?_
    refine qB 2 (fun k=>match k with | 0=>[(2,.t (.int .i64 (n:Nat))),(3,.t (.sl [bsT d0,bsT d1])),(4,.ref 4096 0 0),(8,.ref 4112 0 0),(12,.ref 65568 0 0),(13,.t (.int .i64 0))] | 1=>[(2,.t (.int .i64 (n:Nat))),(3,.t (.sl [bsT d0,bsT d1])),(4,.ref 4096 0 0),(8,.ref 4112 0 0),(12,.ref 65568 0 0),(13,.t (.int .i64 1))] | _=>[(2,.t (.int .i64 (n:Nat))),(3,.t (.sl [bsT d0,bsT d1])),(4,.ref 4096 0 0),(8,.ref 4112 0 0),(12,.ref 65568 0 0),(13,.t (.int .i64 2))]) (fun k=>match k with | 0=>[(65568,.live 2 [.agg [.sl 65552 0 2,.t (.int .i64 u)]] true true),(65554,.live 1 (((b1).map bsT).map V.t) true false),(65553,.live 1 (((b0).map bsT).map V.t) true false),(65552,.live 1 [.sl 65553 0 0,.sl 65554 0 0] true false),(4112,.live 2 [.agg [.nil,.t (.int .i64 0)]] true true),(4096,.live 2 [.t (zT [b0,b1] u)] true true)] | 1=>[(65568,.live 2 [.agg [.sl 65552 0 2,.t (.int .i64 u)]] true true),(65554,.live 1 (((b1).map bsT).map V.t) true false),(65553,.live 1 (((vH 0 b0 n d0).map bsT).map V.t) true false),(65552,.live 1 [.sl 65553 0 0,.sl 65554 0 0] true false),(4112,.live 2 [.agg [.nil,.t (.int .i64 0)]] true true),(4096,.live 2 [.t (zT [b0,b1] u)] true true)] | _=>[(65568,.live 2 [.agg [.sl 65552 0 2,.t (.int .i64 u)]] true true),(65554,.live 1 (((vH 1 b1 n d1).map bsT).map V.t) true false),(65553,.live 1 (((vH 0 b0 n d0).map bsT).map V.t) true false),(65552,.live 1 [.sl 65553 0 0,.sl 65554 0 0] true false),(4112,.live 2 [.agg [.nil,.t (.int .i64 0)]] true true),(4096,.live 2 [.t (zT [b0,b1] u)] true true)]) ?_ (fun k hk2=>?_)
    ·refine qJ.rd id ?_ ?_ rfl;all_goals simp(disch:=omega)only[go_sem,id,z0,z1]
    ·rcases (show k=0∨k=1∨k=2 by omega) with rfl | rfl | rfl
     ·have q:=List.take_of_length_le (show (b0.getD n []++d0).length≤(List.getD b0 n []).length+d0.length by rw[List.length_append];exact Nat.le_refl _);simp(disch:=omega)only[go_sem,h3,jN hk.1,jO hk.1,h4,qK,qL,h5,qW hk,h7,jL,h6,qQ,qP,z0,z1,qH,q];refine qJ.rd id ?_ ?_ rfl;all_goals simp(disch:=omega)only[go_sem,id,vH,z0,z1]
     ·have q:=List.take_of_length_le (show (b1.getD n []++d1).length≤(List.getD b1 n []).length+d1.length by rw[List.length_append];exact Nat.le_refl _);simp(disch:=omega)only[go_sem,h3,jN hk.1,jO hk.1,h4,qK,qL,h5,qW hk,h7,jL,h6,qQ,qP,z0,z1,qH,q];refine qJ.rd id ?_ ?_ rfl;all_goals simp(disch:=omega)only[go_sem,id,vH,z0,z1]
     ·have t0:List.take 0 (vH 0 b0 n d0)=vH 0 b0 n d0:=List.take_of_length_le (by rw[qH,z0];exact Nat.le_refl _);have t1:List.take 0 (vH 1 b1 n d1)=vH 1 b1 n d1:=List.take_of_length_le (by rw[qH,z1];exact Nat.le_refl _);have y0:vH 0 b0 n d0=[]:=List.eq_nil_of_length_eq_zero (by rw[qH,z0]);have y1:vH 1 b1 n d1=[]:=List.eq_nil_of_length_eq_zero (by rw[qH,z1]);simp(disch:=omega)only[go_sem,qH,t0,t1,z0,z1,hE,qI9,Int.toNat_natCast,mcn,y0,y1,qFi,xY,List.getD_cons_zero,List.getD_cons_succ,List.length_cons,List.length_nil]
 ·have zz:True:=trivial;by_cases p1:0<d0.length
  ·have zz:True:=trivial;have hE:xX 0 16 loc n 2 d0.length d1.length=27:=by unfold xX;rw[if_neg oM,if_neg oM,if_pos oM]
   refine qG 3 ?_;simp(disch:=omega)only[go_sem,qD,h3,jN hk.1,jO hk.1,h4,qK,qL,h5,qW hk,h7,jL,h6,qQ,qP,z0,z1,hE,List.map_nil,qFi,xY,List.getD_cons_zero,List.getD_cons_succ,List.length_cons,List.length_nil];all_goals repeat refine And.intro rfl ?_
   all_goals rfl
  ·have zz:True:=trivial;refine qG 3 ?_;simp(disch:=omega)only[go_sem,qD,h3,jN hk.1,jO hk.1,h4,qK,qL,h5,qW hk,h7,jL,h6,qQ,qP,z0,z1];all_goals repeat refine And.intro rfl ?_
   refine vM (fs':=[(2,.t (.int .i64 (n:Nat))),(3,.t (.sl [bsT d0,bsT d1])),(4,.ref 4096 0 0),(8,.ref 4112 0 0),(11,.t (.int .i64 0))]) (hs':=[(4112,.live 2 [.agg [.nil,.t (.int .i64 0)]] true true),(4096,.live 2 [.t (zT [b0,b1] u)] true true)]) (qJ.rd id ?_ ?_ rfl) ?_
   ·simp(disch:=omega)only[go_sem,id]
   ·simp(disch:=omega)only[go_sem,id]
   by_cases q1:d1.length≠32
   ·have zz:True:=trivial;have hE:xX 0 16 loc n 2 d0.length d1.length=24:=by unfold xX;rw[if_neg oM,if_neg oM,if_neg oM,if_pos oM]
    refine qG 3 ?_;simp(disch:=omega)only[go_sem,qD,h3,jN hk.1,jO hk.1,h4,qK,qL,h5,qW hk,h7,jL,h6,qQ,qP,z0,z1,hE,List.map_nil,qFi,xY,List.getD_cons_zero,List.getD_cons_succ,List.length_cons,List.length_nil];all_goals repeat refine And.intro rfl ?_
    all_goals rfl
   ·have zz:True:=trivial;have hE:xX 0 16 loc n 2 d0.length d1.length=0:=by unfold xX;rw[if_neg oM,if_neg oM,if_neg oM,if_neg oM]
    refine qG 3 ?_;simp(disch:=omega)only[go_sem,qD,h3,jN hk.1,jO hk.1,h4,qK,qL,h5,qW hk,h7,jL,h6,qQ,qP,z0,z1];all_goals repeat refine And.intro rfl ?_
    refine qB 2 (fun k=>match k with | 0=>[(2,.t (.int .i64 (n:Nat))),(3,.t (.sl [bsT d0,bsT d1])),(4,.ref 4096 0 0),(8,.ref 4112 0 0),(12,.ref 65568 0 0),(13,.t (.int .i64 0))] | 1=>[(2,.t (.int .i64 (n:Nat))),(3,.t (.sl [bsT d0,bsT d1])),(4,.ref 4096 0 0),(8,.ref 4112 0 0),(12,.ref 65568 0 0),(13,.t (.int .i64 1))] | _=>[(2,.t (.int .i64 (n:Nat))),(3,.t (.sl [bsT d0,bsT d1])),(4,.ref 4096 0 0),(8,.ref 4112 0 0),(12,.ref 65568 0 0),(13,.t (.int .i64 2))]) (fun k=>match k with | 0=>[(65568,.live 2 [.agg [.sl 65552 0 2,.t (.int .i64 u)]] true true),(65554,.live 1 (((b1).map bsT).map V.t) true false),(65553,.live 1 (((b0).map bsT).map V.t) true false),(65552,.live 1 [.sl 65553 0 0,.sl 65554 0 16] true false),(4112,.live 2 [.agg [.nil,.t (.int .i64 0)]] true true),(4096,.live 2 [.t (zT [b0,b1] u)] true true)] | 1=>[(65568,.live 2 [.agg [.sl 65552 0 2,.t (.int .i64 u)]] true true),(65554,.live 1 (((b1).map bsT).map V.t) true false),(65553,.live 1 (((vH 0 b0 n d0).map bsT).map V.t) true false),(65552,.live 1 [.sl 65553 0 0,.sl 65554 0 16] true false),(4112,.live 2 [.agg [.nil,.t (.int .i64 0)]] true true),(4096,.live 2 [.t (zT [b0,b1] u)] true true)] | _=>[(65568,.live 2 [.agg [.sl 65552 0 2,.t (.int .i64 u)]] true true),(65554,.live 1 (((vH 1 b1 n d1).map bsT).map V.t) true false),(65553,.live 1 (((vH 0 b0 n d0).map bsT).map V.t) true false),(65552,.live 1 [.sl 65553 0 0,.sl 65554 0 16] true false),(4112,.live 2 [.agg [.nil,.t (.int .i64 0)]] true true),(4096,.live 2 [.t (zT [b0,b1] u)] true true)]) ?_ (fun k hk2=>?_)
    ·refine qJ.rd id ?_ ?_ rfl;all_goals simp(disch:=omega)only[go_sem,id,z0,z1]
    ·rcases (show k=0∨k=1∨k=2 by omega) with rfl | rfl | rfl
     ·have q:=List.take_of_length_le (show (b0.getD n []++d0).length≤(List.getD b0 n []).length+d0.length by rw[List.length_append];exact Nat.le_refl _);simp(disch:=omega)only[go_sem,h3,jN hk.1,jO hk.1,h4,qK,qL,h5,qW hk,h7,jL,h6,qQ,qP,z0,z1,qH,q];refine qJ.rd id ?_ ?_ rfl;all_goals simp(disch:=omega)only[go_sem,id,vH,z0,z1]
     ·have q:=List.take_of_length_le (show (b1.getD n []++d1).length≤(List.getD b1 n []).length+d1.length by rw[List.length_append];exact Nat.le_refl _);simp(maxSteps:=9^9)(disch:=try exact dS)only[go_sem,h3,jN hk.1,jO hk.1,h4,qK,qL,h5,qW hk,h7,jL,h6,qQ,qP,z0,z1,qH,q];repeat refine And.intro rfl ?_
      refine qJ.cv (hv:=[]) [86352] id ?_ rfl;simp(maxSteps:=9^9)(disch:=try exact dS)only[go_sem,id,vH,z0,z1,yM,jA,qY7,qY8,zK,qN];all_goals rfl
     ·have t0:List.take 0 (vH 0 b0 n d0)=vH 0 b0 n d0:=List.take_of_length_le (by rw[qH,z0];exact Nat.le_refl _);have t1:List.take 16 (vH 1 b1 n d1)=vH 1 b1 n d1:=List.take_of_length_le (by rw[qH,z1];exact Nat.le_refl _);have y0:vH 0 b0 n d0=[]:=List.eq_nil_of_length_eq_zero (by rw[qH,z0]);simp(disch:=omega)only[go_sem,qH,t0,t1,z0,z1,hE,qI9,Int.toNat_natCast,mcn,y0,qFi,xY,List.getD_cons_zero,List.getD_cons_succ,List.length_cons,List.length_nil]
 ·have zz:True:=trivial;by_cases p1:0<d1.length
  ·have zz:True:=trivial;have hE:xX 16 0 loc n 2 d0.length d1.length=27:=by unfold xX;rw[if_neg oM,if_neg oM,if_pos oM]
   refine qG 3 ?_;simp(disch:=omega)only[go_sem,qD,h3,jN hk.1,jO hk.1,h4,qK,qL,h5,qW hk,h7,jL,h6,qQ,qP,z0,z1,hE,List.map_nil,qFi,xY,List.getD_cons_zero,List.getD_cons_succ,List.length_cons,List.length_nil];all_goals repeat refine And.intro rfl ?_
   all_goals rfl
  ·have zz:True:=trivial;refine qG 3 ?_;simp(disch:=omega)only[go_sem,qD,h3,jN hk.1,jO hk.1,h4,qK,qL,h5,qW hk,h7,jL,h6,qQ,qP,z0,z1];all_goals repeat refine And.intro rfl ?_
   refine vM (fs':=[(2,.t (.int .i64 (n:Nat))),(3,.t (.sl [bsT d0,bsT d1])),(4,.ref 4096 0 0),(8,.ref 4112 0 0),(11,.t (.int .i64 0))]) (hs':=[(4112,.live 2 [.agg [.nil,.t (.int .i64 0)]] true true),(4096,.live 2 [.t (zT [b0,b1] u)] true true)]) (qJ.rd id ?_ ?_ rfl) ?_
   ·simp(disch:=omega)only[go_sem,id]
   ·simp(disch:=omega)only[go_sem,id]
   by_cases q1:d0.length≠20
   ·have zz:True:=trivial;have hE:xX 16 0 loc n 2 d0.length d1.length=24:=by unfold xX;rw[if_neg oM,if_neg oM,if_neg oM,if_pos oM]
    refine qG 3 ?_;simp(disch:=omega)only[go_sem,qD,h3,jN hk.1,jO hk.1,h4,qK,qL,h5,qW hk,h7,jL,h6,qQ,qP,z0,z1,hE,List.map_nil,qFi,xY,List.getD_cons_zero,List.getD_cons_succ,List.length_cons,List.length_nil];all_goals repeat refine And.intro rfl ?_
    all_goals rfl
   ·have zz:True:=trivial;have hE:xX 16 0 loc n 2 d0.length d1.length=0:=by unfold xX;rw[if_neg oM,if_neg oM,if_neg oM,if_neg oM]
    refine qG 3 ?_;simp(disch:=omega)only[go_sem,qD,h3,jN hk.1,jO hk.1,h4,qK,qL,h5,qW hk,h7,jL,h6,qQ,qP,z0,z1];all_goals repeat refine And.intro rfl ?_
    refine qB 2 (fun k=>match k with | 0=>[(2,.t (.int .i64 (n:Nat))),(3,.t (.sl [bsT d0,bsT d1])),(4,.ref 4096 0 0),(8,.ref 4112 0 0),(12,.ref 65568 0 0),(13,.t (.int .i64 0))] | 1=>[(2,.t (.int .i64 (n:Nat))),(3,.t (.sl [bsT d0,bsT d1])),(4,.ref 4096 0 0),(8,.ref 4112 0 0),(12,.ref 65568 0 0),(13,.t (.int .i64 1))] | _=>[(2,.t (.int .i64 (n:Nat))),(3,.t (.sl [bsT d0,bsT d1])),(4,.ref 4096 0 0),(8,.ref 4112 0 0),(12,.ref 65568 0 0),(13,.t (.int .i64 2))]) (fun k=>match k with | 0=>[(65568,.live 2 [.agg [.sl 65552 0 2,.t (.int .i64 u)]] true true),(65554,.live 1 (((b1).map bsT).map V.t) true false),(65553,.live 1 (((b0).map bsT).map V.t) true false),(65552,.live 1 [.sl 65553 0 16,.sl 65554 0 0] true false),(4112,.live 2 [.agg [.nil,.t (.int .i64 0)]] true true),(4096,.live 2 [.t (zT [b0,b1] u)] true true)] | 1=>[(65568,.live 2 [.agg [.sl 65552 0 2,.t (.int .i64 u)]] true true),(65554,.live 1 (((b1).map bsT).map V.t) true false),(65553,.live 1 (((vH 0 b0 n d0).map bsT).map V.t) true false),(65552,.live 1 [.sl 65553 0 16,.sl 65554 0 0] true false),(4112,.live 2 [.agg [.nil,.t (.int .i64 0)]] true true),(4096,.live 2 [.t (zT [b0,b1] u)] true true)] | _=>[(65568,.live 2 [.agg [.sl 65552 0 2,.t (.int .i64 u)]] true true),(65554,.live 1 (((vH 1 b1 n d1).map bsT).map V.t) true false),(65553,.live 1 (((vH 0 b0 n d0).map bsT).map V.t) true false),(65552,.live 1 [.sl 65553 0 16,.sl 65554 0 0] true false),(4112,.live 2 [.agg [.nil,.t (.int .i64 0)]] true true),(4096,.live 2 [.t (zT [b0,b1] u)] true true)]) ?_ (fun k hk2=>?_)
    ·refine qJ.rd id ?_ ?_ rfl;all_goals simp(disch:=omega)only[go_sem,id,z0,z1]
    ·rcases (show k=0∨k=1∨k=2 by omega) with rfl | rfl | rfl
     ·have q:=List.take_of_length_le (show (b0.getD n []++d0).length≤(List.getD b0 n []).length+d0.length by rw[List.length_append];exact Nat.le_refl _);simp(maxSteps:=9^9)(disch:=try exact dS)only[go_sem,h3,jN hk.1,jO hk.1,h4,qK,qL,h5,qW hk,h7,jL,h6,qQ,qP,z0,z1,qH,q];repeat refine And.intro rfl ?_
      refine qJ.cv (hv:=[]) [86352] id ?_ rfl;simp(maxSteps:=9^9)(disch:=try exact dS)only[go_sem,id,vH,z0,z1,yM,jA,qY7,qY8,zK,qN];all_goals rfl
     ·have q:=List.take_of_length_le (show (b1.getD n []++d1).length≤(List.getD b1 n []).length+d1.length by rw[List.length_append];exact Nat.le_refl _);simp(disch:=omega)only[go_sem,h3,jN hk.1,jO hk.1,h4,qK,qL,h5,qW hk,h7,jL,h6,qQ,qP,z0,z1,qH,q];refine qJ.rd id ?_ ?_ rfl;all_goals simp(disch:=omega)only[go_sem,id,vH,z0,z1]
     ·have t0:List.take 16 (vH 0 b0 n d0)=vH 0 b0 n d0:=List.take_of_length_le (by rw[qH,z0];exact Nat.le_refl _);have t1:List.take 0 (vH 1 b1 n d1)=vH 1 b1 n d1:=List.take_of_length_le (by rw[qH,z1];exact Nat.le_refl _);have y1:vH 1 b1 n d1=[]:=List.eq_nil_of_length_eq_zero (by rw[qH,z1]);simp(disch:=omega)only[go_sem,qH,t0,t1,z0,z1,hE,qI9,Int.toNat_natCast,mcn,y1,qFi,xY,List.getD_cons_zero,List.getD_cons_succ,List.length_cons,List.length_nil]
 ·have zz:True:=trivial;refine qG 3 ?_;simp(disch:=omega)only[go_sem,qD,h3,jN hk.1,jO hk.1,h4,qK,qL,h5,qW hk,h7,jL,h6,qQ,qP,z0,z1];all_goals repeat refine And.intro rfl ?_
  refine vM (fs':=[(2,.t (.int .i64 (n:Nat))),(3,.t (.sl [bsT d0,bsT d1])),(4,.ref 4096 0 0),(8,.ref 4112 0 0),(11,.t (.int .i64 0))]) (hs':=[(4112,.live 2 [.agg [.nil,.t (.int .i64 0)]] true true),(4096,.live 2 [.t (zT [b0,b1] u)] true true)]) (qJ.rd id ?_ ?_ rfl) ?_
  ·simp(disch:=omega)only[go_sem,id]
  ·simp(disch:=omega)only[go_sem,id]
  by_cases q2:d0.length≠20
  ·have zz:True:=trivial;have hE:xX 16 16 loc n 2 d0.length d1.length=24:=by unfold xX;rw[if_neg oM,if_neg oM,if_neg oM,if_pos oM]
   refine qG 3 ?_;simp(disch:=omega)only[go_sem,qD,h3,jN hk.1,jO hk.1,h4,qK,qL,h5,qW hk,h7,jL,h6,qQ,qP,z0,z1,hE,List.map_nil,qFi,xY,List.getD_cons_zero,List.getD_cons_succ,List.length_cons,List.length_nil];all_goals repeat refine And.intro rfl ?_
   all_goals rfl
  ·have zz:True:=trivial;by_cases q1:d1.length≠32
   ·have zz:True:=trivial;have hE:xX 16 16 loc n 2 d0.length d1.length=24:=by unfold xX;rw[if_neg oM,if_neg oM,if_neg oM,if_pos oM]
    refine qG 3 ?_;simp(disch:=omega)only[go_sem,qD,h3,jN hk.1,jO hk.1,h4,qK,qL,h5,qW hk,h7,jL,h6,qQ,qP,z0,z1,hE,List.map_nil,qFi,xY,List.getD_cons_zero,List.getD_cons_succ,List.length_cons,List.length_nil];all_goals repeat refine And.intro rfl ?_
    all_goals rfl
   ·have zz:True:=trivial;have hE:xX 16 16 loc n 2 d0.length d1.length=0:=by unfold xX;rw[if_neg oM,if_neg oM,if_neg oM,if_neg oM]
    refine qG 3 ?_;simp(disch:=omega)only[go_sem,qD,h3,jN hk.1,jO hk.1,h4,qK,qL,h5,qW hk,h7,jL,h6,qQ,qP,z0,z1];all_goals repeat refine And.intro rfl ?_
    refine qB 2 (fun k=>match k with | 0=>[(2,.t (.int .i64 (n:Nat))),(3,.t (.sl [bsT d0,bsT d1])),(4,.ref 4096 0 0),(8,.ref 4112 0 0),(12,.ref 65568 0 0),(13,.t (.int .i64 0))] | 1=>[(2,.t (.int .i64 (n:Nat))),(3,.t (.sl [bsT d0,bsT d1])),(4,.ref 4096 0 0),(8,.ref 4112 0 0),(12,.ref 65568 0 0),(13,.t (.int .i64 1))] | _=>[(2,.t (.int .i64 (n:Nat))),(3,.t (.sl [bsT d0,bsT d1])),(4,.ref 4096 0 0),(8,.ref 4112 0 0),(12,.ref 65568 0 0),(13,.t (.int .i64 2))]) (fun k=>match k with | 0=>[(65568,.live 2 [.agg [.sl 65552 0 2,.t (.int .i64 u)]] true true),(65554,.live 1 (((b1).map bsT).map V.t) true false),(65553,.live 1 (((b0).map bsT).map V.t) true false),(65552,.live 1 [.sl 65553 0 16,.sl 65554 0 16] true false),(4112,.live 2 [.agg [.nil,.t (.int .i64 0)]] true true),(4096,.live 2 [.t (zT [b0,b1] u)] true true)] | 1=>[(65568,.live 2 [.agg [.sl 65552 0 2,.t (.int .i64 u)]] true true),(65554,.live 1 (((b1).map bsT).map V.t) true false),(65553,.live 1 (((vH 0 b0 n d0).map bsT).map V.t) true false),(65552,.live 1 [.sl 65553 0 16,.sl 65554 0 16] true false),(4112,.live 2 [.agg [.nil,.t (.int .i64 0)]] true true),(4096,.live 2 [.t (zT [b0,b1] u)] true true)] | _=>[(65568,.live 2 [.agg [.sl 65552 0 2,.t (.int .i64 u)]] true true),(65554,.live 1 (((vH 1 b1 n d1).map bsT).map V.t) true false),(65553,.live 1 (((vH 0 b0 n d0).map bsT).map V.t) true false),(65552,.live 1 [.sl 65553 0 16,.sl 65554 0 16] true false),(4112,.live 2 [.agg [.nil,.t (.int .i64 0)]] true true),(4096,.live 2 [.t (zT [b0,b1] u)] true true)]) ?_ (fun k hk2=>?_)
    ·refine qJ.rd id ?_ ?_ rfl;all_goals simp(disch:=omega)only[go_sem,id,z0,z1]
    ·rcases (show k=0∨k=1∨k=2 by omega) with rfl | rfl | rfl
     ·have q:=List.take_of_length_le (show (b0.getD n []++d0).length≤(List.getD b0 n []).length+d0.length by rw[List.length_append];exact Nat.le_refl _);simp(maxSteps:=9^9)(disch:=try exact dS)only[go_sem,h3,jN hk.1,jO hk.1,h4,qK,qL,h5,qW hk,h7,jL,h6,qQ,qP,z0,z1,qH,q];repeat refine And.intro rfl ?_
      refine qJ.cv (hv:=[]) [86352] id ?_ rfl;simp(maxSteps:=9^9)(disch:=try exact dS)only[go_sem,id,vH,z0,z1,yM,jA,qY7,qY8,zK,qN];all_goals rfl
     ·have q:=List.take_of_length_le (show (b1.getD n []++d1).length≤(List.getD b1 n []).length+d1.length by rw[List.length_append];exact Nat.le_refl _);simp(maxSteps:=9^9)(disch:=try exact dS)only[go_sem,h3,jN hk.1,jO hk.1,h4,qK,qL,h5,qW hk,h7,jL,h6,qQ,qP,z0,z1,qH,q];repeat refine And.intro rfl ?_
      refine qJ.cv (hv:=[]) [86352] id ?_ rfl;simp(maxSteps:=9^9)(disch:=try exact dS)only[go_sem,id,vH,z0,z1,yM,jA,qY7,qY8,zK,qN];all_goals rfl
     ·have t0:List.take 16 (vH 0 b0 n d0)=vH 0 b0 n d0:=List.take_of_length_le (by rw[qH,z0];exact Nat.le_refl _);have t1:List.take 16 (vH 1 b1 n d1)=vH 1 b1 n d1:=List.take_of_length_le (by rw[qH,z1];exact Nat.le_refl _);simp(disch:=omega)only[go_sem,qH,t0,t1,z0,z1,hE,qI9,Int.toNat_natCast,mcn,qFi,xY,List.getD_cons_zero,List.getD_cons_succ,List.length_cons,List.length_nil]
end Go.Eng
end
