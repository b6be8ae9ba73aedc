/- A part of an abstract machine, its walks, their tie. -/
import Derived.Test.YteglhhgmfnbalaaGreatDoorK18
set_option linter.all false
section
set_option maxHeartbeats 16000000
set_option maxRecDepth 20000
namespace Go.Eng
open List
variable (tab:Tab)(gl:Gl)
def qAd:Ct where
 α:=Rd×Nat
 aS x:=[.ref 0 0 0,.t (.int .i64 x.2)]
 ins x:=[yS x.1]
 pre x:=qG4 x.1/\x.2<=1000000000
 r x:= .t (.bool (decide (x.1.2.2=0) && !decide (x.1.1.length<x.1.2.1+x.2)))
 outs x:=[yS (x.1.1,x.1.2.1,if x.1.2.2=0/\x.1.1.length<x.1.2.1+x.2 then 2 else x.1.2.2)]
 inj:=by
  rintro⟨s,a⟩ ⟨t,c⟩ h1 h2;simp[Int.natCast_inj]at h1;simp only[List.cons.injEq,and_true]at h2;subst h1;cases wD h2;exact⟨rfl,rfl⟩
theorem zIf {b:List UInt8}{a k:Nat}(h:a<=b.length/\b.length<1000000000/\a+k<=b.length):qAd.fs [.ref 0 0 0,.t (.int .i64 k)] [.live 3 [.t (.agg [.sl (b.map qA),.int .i64 (a:Int),.int .i64 0])] true true] =
  some (.t (.bool true),[.live 3 [.t (.agg [.sl (b.map qA),.int .i64 (a:Int),.int .i64 0])] true true]):=by
 refine(qAd.eq ((b,a,0),k) ⟨⟨h.1,h.2.1⟩,?_⟩).trans ?_
 .simp only;omega
 .have:¬ b.length<a+k:=oM;simp[qAd,zK,this]
theorem zIe {b:List UInt8}{a k:Nat}(h:a<=b.length/\b.length<1000000000/\k<=1000000000/\b.length<a+k):qAd.fs [.ref 0 0 0,.t (.int .i64 k)] [.live 3 [.t (.agg [.sl (b.map qA),.int .i64 (a:Int),.int .i64 0])] true true] =
  some (.t (.bool false),[.live 3 [.t (.agg [.sl (b.map qA),.int .i64 (a:Int),.int .i64 2])] true true]):=by
 refine(qAd.eq ((b,a,0),k) ⟨⟨h.1,h.2.1⟩,h.2.2.1⟩).trans ?_;have:=h.2.2.2;simp[qAd,zK,this]
theorem qRm (h1:LkC tab 31 qAd)(s:Rd)(hs:qG4 s)(k:Nat)(hk:1<=k/\k<=8) :
  vD.1.wp tab gl (qD 0 [.ref 0 0 0,.t (.int .i64 k)]) (qD 0 [yS s]) (qZ [(4,none)] 1 (λr o=>r=.t (.int .i64 (qI s k).1)/\o=[yS (qI s k).2])):=by
 obtain⟨b,a,e⟩:=s;have ha:a<=b.length/\b.length<1000000000:=hs;by_cases he:e=0
 .subst he;by_cases hl:b.length<a+k
  .simp(disch:=omega)only[go_sem,vD,zK,h1,zIe,qI,ne_eq,hl];repeat refine And.intro rfl ?_
   all_goals trivial
  .have hc:(List.take k (List.drop a b)).length=k:=by simp only[length_take,length_drop];omega
   simp(disch:=omega)only[go_sem,vD,zK,h1,zIf];repeat refine And.intro rfl ?_
   generalize hC:List.take k (List.drop a b)=c at hc;have hget:∀i,i<k->b.getD (a+i) 0=c.getD i 0:=by
    intro i hi;rw[<-hC];simp[List.getD,getElem?_take,hi]
   refine qB k (λi=>[(6,.t (.int .i64 i)),(5,.t (.int .u64 (beV (c.take i)))),(0,.ref 0 0 0),(1,.t (.int .i64 k))])
    (λ_=>[(0,.live 3 [.t (.agg [.sl (b.map qA),.int .i64 (a:Int),.int .i64 0])] true true)]) ?_ (λi hi=>?_)
   .refine qL.rd id ?_ ?_ rfl;all_goals simp(disch:=omega)only[go_sem,id,beV,foldl_nil]
   .by_cases hlt:i<k
    .have hb:beV (c.take i)<72057594037927936:=zP0 (by rw[length_take];omega);have ht:=zKc (bs:=c) (k:=i) oM;simp(disch:=omega)only[go_sem,hc,hget i hlt];repeat refine And.intro rfl ?_
     refine⟨hlt,qL.rd id ?_ ?_ rfl⟩;all_goals simp(disch:=omega)only[go_sem,id,ht]
    .have e:i=k:=oM;subst e;have ht:List.take i c=c:=take_of_length_le oM;have hb8:beV c<18446744073709551616:=zP1 oM;by_cases hbig:9223372036854775808<=beV c
     .simp(disch:=omega)only[go_sem,hc,ht,qI,zK,hl,hbig,ne_eq,hC]
     .simp(disch:=omega)only[go_sem,hc,ht,qI,zK,hl,hbig,ne_eq,hC]
 .simp(disch:=omega)only[go_sem,vD,zK,qI,ne_eq,he];repeat refine And.intro rfl ?_
  all_goals trivial
theorem qRr (s:Rd)(hs:qG4 s):qAy.1.wp tab gl (qD 0 [.ref 0 0 0]) (qD 0 [yS s]) (qZ [(2,none)] 1 (λr o=>r=.t (.int .i64 (s.1.length-s.2.1:Nat))/\o=[yS s])):=by
 obtain⟨b,a,e⟩:=s;have ha:a<=b.length/\b.length<1000000000:=hs;simp(disch:=omega)only[go_sem,qAy,zK];repeat refine And.intro rfl ?_
 all_goals trivial
theorem qRl (s:Rd)(hs:qG4 s):qAu.1.wp tab gl (qD 0 [.ref 0 0 0]) (qD 0 [yS s]) (qZ [(2,none)] 1 (λr o=>r=.t (.int .i64 (s.1.length-s.2.1:Nat))/\o=[yS s])):=by
 obtain⟨b,a,e⟩:=s;have ha:a<=b.length/\b.length<1000000000:=hs;simp(disch:=omega)only[go_sem,qAu,zK];repeat refine And.intro rfl ?_
 all_goals trivial
theorem qTn (s:Rd)(hs:qG4 s):qBp.1.wp tab gl (qD 0 [.ref 0 0 0]) (qD 0 [yS s]) (qZ [(2,none)] 1 (λr o=>r=.t (.int .i64 s.2.2)/\o=[yS s])):=by
 obtain⟨b,a,e⟩:=s;simp(disch:=omega)only[go_sem,qBp,zK]
def qR2:Ct where
 α:=Rd
 aS _:=[.ref 0 0 0]
 ins x:=[yS x]
 pre x:=qG4 x
 r x:= .t (.int .i64 (x.1.length-x.2.1:Nat))
 outs x:=[yS x]
 inj:=by
  intro s t _ h2;simp only[List.cons.injEq,and_true]at h2;cases wD h2;exact⟨rfl,rfl⟩
theorem zB5 {b:List UInt8}{a:Nat}{e:Int}(h:a<=b.length/\b.length<1000000000):qR2.fs [.ref 0 0 0] [.live 3 [.t (.agg [.sl (b.map qA),.int .i64 (a:Int),.int .i64 e])] true true] =
  some (.t (.int .i64 (b.length-a:Nat)),[.live 3 [.t (.agg [.sl (b.map qA),.int .i64 (a:Int),.int .i64 e])] true true]):=qR2.eq (b,a,e) h
theorem qTm (h1:LkC tab 123 qR2)(s:Rd)(hs:qG4 s):vS.1.wp tab gl (qD 0 [.ref 0 0 0]) (qD 0 [yS s]) (qZ [(2,none)] 1 (λr o=>r=.t (.int .i64 (xM s))/\o=[yS s])):=by
 obtain⟨b,a,e⟩:=s;have ha:a<=b.length/\b.length<1000000000:=hs;by_cases he:e=0
 .subst he;by_cases hl:a<b.length
  .simp(disch:=omega)only[go_sem,vS,zK,h1,zB5,xM,hl];repeat refine And.intro rfl ?_
   all_goals trivial
  .simp(disch:=omega)only[go_sem,vS,zK,h1,zB5,xM,hl];repeat refine And.intro rfl ?_
   all_goals trivial
 .simp(disch:=omega)only[go_sem,vS,zK,xM,he];repeat refine And.intro rfl ?_
  all_goals trivial
theorem qTa (h1:LkC tab 80 qR2)(s:Rd)(hs:qG4 s):vQ.1.wp tab gl (qD 0 [.ref 0 0 0]) (qD 0 [yS s]) (qZ [(2,none)] 1 (λr o=>r=.t (.int .i64 (xM s))/\o=[yS s])):=by
 obtain⟨b,a,e⟩:=s;have ha:a<=b.length/\b.length<1000000000:=hs;by_cases he:e=0
 .subst he;by_cases hl:a<b.length
  .simp(disch:=omega)only[go_sem,vQ,zK,h1,zB5,xM,hl];repeat refine And.intro rfl ?_
   all_goals trivial
  .simp(disch:=omega)only[go_sem,vQ,zK,h1,zB5,xM,hl];repeat refine And.intro rfl ?_
   all_goals trivial
 .simp(disch:=omega)only[go_sem,vQ,zK,xM,he];repeat refine And.intro rfl ?_
  all_goals trivial
theorem zGf (n:Int)(hn:n=20\/n=32):qD0.1.wp tab gl (qD 0 [.t (.int .u64 1),.t (.int .u64 n)]) (qD 0 []) (qZ [(4,none),(5,none)] 0 (λr o=>r=.tup [.t (.int .u64 0),.t (.int .u64 n)]/\o=[])):=by
 rcases hn with rfl|rfl
 .simp(disch:=omega)only[go_sem,qD0,BitVec.reduceOfInt,BitVec.reduceAnd,BitVec.reduceToNat,Int.reduceFDiv]
 .simp(disch:=omega)only[go_sem,qD0,BitVec.reduceOfInt,BitVec.reduceAnd,BitVec.reduceToNat,Int.reduceFDiv]
def qL1:Ct where
 α:=Int
 aS x:=[.t (.int .u64 1),.t (.int .u64 x)]
 ins _:=[]
 pre x:=x=20\/x=32
 r x:= .tup [.t (.int .u64 0),.t (.int .u64 x)]
 outs _:=[]
 inj:=by
  intro a b h _;simp at h;subst h;exact⟨rfl,rfl⟩
theorem zLn {n:Int}(h:n=20\/n=32):qL1.fs [.t (.int .u64 1),.t (.int .u64 n)] []=some (.tup [.t (.int .u64 0),.t (.int .u64 n)],[]):=qL1.eq n h
theorem zO0 (h2:LkC tab 311 qL1)(n:Int)(hn:n=20\/n=32):qM1.1.wp tab gl (qD 0 [.t (.int .u64 1),.t (.int .u64 n)]) (qD 0 []) (qZ [(4,none),(5,none)] 0 (λr o=>r=.tup [.t (.int .u64 0),.t (.int .u64 n)]/\o=[])):=by
 simp(disch:=omega)only[go_sem,qM1,h2,zLn]
def zEg:Ct where
 α:=Int
 aS x:=[.t (.int .i64 x)]
 ins _:=[]
 pre x:=x=20\/x=32
 r x:= .sl 0 0 x.toNat
 outs _:=[.live 1 [] true false]
 inj:=by
  intro a b h _;simp at h;subst h;exact⟨rfl,rfl⟩
theorem jN3 {n:Int}(h:n=20\/n=32):zEg.fs [.t (.int .i64 n)] []=some (.sl 0 0 n.toNat,[.live 1 [] true false]):=zEg.eq n h
theorem zFy {α:Type}{l xs:List α}:zY l l.length xs=l++xs:=by simp[zY]
theorem qZr (h1:LkC tab 296 qL1)(h2:LkC tab 297 zEg)(x:UInt8)(n:Nat)(hn:n=20\/n=32) :
  qEi.1.wp tab gl (qD 0 [.t (.sl ([x].map qA)),.t (.int .i64 n)]) (qD 0 []) (xO [] [(4,none)] 0 (λr o=>r=.sl 0 0 n/\o=[.live 1 (((List.replicate n x).map qA).map V.t) true false])):=by
 have hn2:(n:Int)=20\/(n:Int)=32:=oM;have ht1:∀v:V,List.take n [v]=[v]:=λv=>take_of_length_le (by simp only[length_cons,length_nil];omega)
 simp(disch:=omega)only[go_sem,qEi,h1,h2,zLn,jN3,ht1];refine qLk (ι := { p:Nat // 1<=p/\p<=n }) (λp=>([(7,.t (.int .i64 n)),(8,.t (.int .i64 n)),(9,.sl 69648 0 n),(10,.t (.int .i64 p.1))],[(69648,.live 1 (((List.replicate p.1 x).map qA).map V.t) true false)])) (λp=>n-p.1) ⟨1,oM⟩ ?_ (λp=>?_)
 .refine qL.rd id ?_ ?_ rfl;all_goals simp(disch:=omega)only[go_sem,id,mcn]
 .obtain⟨p,hp1,hp2⟩:=p;by_cases hlt:p<n
  .have hse:∀xs,zY (List.map V.t (List.map qA (List.replicate p x))) p xs=List.map V.t (List.map qA (List.replicate p x))++xs:=by
    intro xs;have:=zFy (l:=List.map V.t (List.map qA (List.replicate p x))) (xs:=xs);simpa using this
   have hm:(if(n:Int)<(p:Int) then(n:Int) else(p:Int))=p:=if_neg oM;by_cases hd:p<=n-p
   .simp(disch:=omega)only[go_sem,hse,take_replicate,hm];refine⟨rfl,⟨p+p,oM⟩,by simp only;omega,qL.rd id ?_ ?_ rfl⟩;all_goals simp(disch:=omega)only[go_sem,id,replicate_append_replicate]
   .simp(disch:=omega)only[go_sem,hse,take_replicate,hm];refine⟨rfl,⟨p+(n-p),oM⟩,by simp only;omega,qL.rd id ?_ ?_ rfl⟩;all_goals simp(disch:=omega)only[go_sem,id,replicate_append_replicate]
  .have e:p=n:=oM;subst e;simp(disch:=omega)only[go_sem]
def qQf:Ct where
 α:=UInt8×Nat
 aS x:=[.t (.sl ([x.1].map qA)),.t (.int .i64 x.2)]
 ins _:=[]
 pre x:=x.2=20\/x.2=32
 r x:= .sl 0 0 x.2
 outs x:=[.live 1 (((List.replicate x.2 x.1).map qA).map V.t) true false]
 inj:=by
  rintro⟨a,b⟩ ⟨c,d⟩ h _;simp[qQb,Int.natCast_inj]at h;obtain⟨rfl,rfl⟩:=h;exact⟨rfl,rfl⟩
theorem zTj {x:UInt8}{n:Nat}(h:n=20\/n=32):qQf.fs [.t (.sl [qA x]),.t (.int .i64 n)] []=some (.sl 0 0 n,[.live 1 (((List.replicate n x).map qA).map V.t) true false]):=qQf.eq (x,n) h
theorem qUy (h1:LkC tab 268 qQf)(x:UInt8)(n:Nat)(hn:n=20\/n=32):qCd.1.wp tab gl (qD 0 [.t (.int .i64 n),.t (qA x)]) (qD 0 []) (xO [] [(4,none)] 0 (λr o=>r=.sl 0 0 n/\o=[.live 1 (((List.replicate n x).map qA).map V.t) true false])):=by
 simp(disch:=omega)only[go_sem,qCd,h1,zTj]
theorem jAw {α:Type}{x d:α}{n k:Nat}(h:k<n):(List.replicate k x++List.replicate (n-k) d).set k x=List.replicate (k+1) x++List.replicate (n-(k+1)) d:=by
 rw[show n-k=(n-(k+1))+1 by omega,replicate_succ,set_append_right _ _ sM];simp[replicate_succ']
theorem zJl (x:UInt8)(n:Nat)(hn:n<1000000000):qFr.1.wp tab gl (qD 0 [.t (.int .i64 n),.t (qA x)]) (qD 0 []) (xO [] [(4,none)] 0 (λr o=>r=.sl 0 0 n/\o=[.live 1 (((List.replicate n x).map qA).map V.t) true false])):=by
 simp(disch:=omega)only[go_sem,qFr];refine qB n (λk=>[(0,.t (.int .i64 n)),(1,.t (qA x)),(5,.sl 8208 0 n),(6,.t (.int .i64 k))]) (λk=>[(8208,.live 1 (((List.replicate k x++List.replicate (n-k) 0).map qA).map V.t) true false)]) ?_ (λk hk=>?_)
 .refine qL.rd id ?_ ?_ rfl;all_goals simp(disch:=omega)only[go_sem,id]
 .by_cases hlt:k<n
  .simp(maxSteps:=9^9)(disch:=try exact dS)only[go_sem];refine⟨hlt,qL.rd id ?_ ?_ rfl⟩;all_goals simp(disch:=omega)only[go_sem,id,jAw hlt]
  .have e:k=n:=oM;subst e;simp(disch:=omega)only[go_sem,Nat.sub_self,append_nil]
abbrev zD:=List (List UInt8)
def vU (b:zD):T:= .sl (b.map bsT)
def yR (bk:List zD)(u:Int):T:= .agg [.sl (bk.map vU),.int .i64 u]
theorem zD7 {b:zD}:vU b=.sl (b.map bsT):=eR
theorem zZu {bk:List zD}{u:Int}:yR bk u=.agg [.sl (bk.map vU),.int .i64 u]:=eR
attribute [go_sem] zD7 zZu
def zD0 (b:zD):Prop:=b.length=0\/b.length=16
def zDy (b0 b1:zD):Int:=(if b0.length=16 then 1 else 0)+(if b1.length=16 then 2 else 0)
theorem qP4 (u:Int):yD.1.wp tab gl (qD 0 [.t (yR [] u)]) (qD 0 []) (qZ [(2,none)] 0 (λr o=>r=.t (.int .i64 0)/\o=[])):=by
 simp(disch:=omega)only[go_sem,yD,mcn];refine qJ 1 ?_;simp(disch:=omega)only[go_sem,qF]
theorem qP5 (b0 b1:zD)(h0:b0.length<1000000000)(h1:b1.length<1000000000)(u:Int):yD.1.wp tab gl (qD 0 [.t (yR [b0,b1] u)]) (qD 0 []) (qZ [(2,none)] 0 (λr o=>r=.t (.int .i64 (zDy b0 b1))/\o=[])):=by
 simp(disch:=omega)only[go_sem,yD,mcn];refine qJ 3 ?_;by_cases e0:b0.length=16
 .by_cases e1:b1.length=16
  .simp(disch:=omega)only[go_sem,qF,zDy,e0,e1,BitVec.reduceOfInt,BitVec.reduceOr,BitVec.reduceToNat]
  .simp(disch:=omega)only[go_sem,qF,zDy,e0,e1,BitVec.reduceOfInt,BitVec.reduceOr,BitVec.reduceToNat]
 .by_cases e1:b1.length=16
  .simp(disch:=omega)only[go_sem,qF,zDy,e0,e1,BitVec.reduceOfInt,BitVec.reduceOr,BitVec.reduceToNat]
  .simp(disch:=omega)only[go_sem,qF,zDy,e0,e1,BitVec.reduceOfInt,BitVec.reduceOr,BitVec.reduceToNat]
inductive RK:List zD->Prop
 |nil:RK []
 |two (b0 b1:zD) (h0:zD0 b0) (h1:zD0 b1):RK [b0,b1]
def qZ6:List zD->Int
 |[b0,b1]=>zDy b0 b1
 |_=>0
theorem qV0 {a b:zD}(h:vU a=vU b):a=b:=by
 simpa [vU,qC0]using h
theorem qCt {a b:List zD}{u v:Int}(h:yR a u=yR b v):a=b/\u=v:=by
 simp only[yR,T.agg.injEq,List.cons.injEq,T.sl.injEq,T.int.injEq,true_and,and_true]at h;exact⟨qBv (λ_ _=>qV0) h.1,h.2⟩
def kD:Ct where
 α:=List zD×Int
 aS x:=[.t (yR x.1 x.2)]
 ins _:=[]
 pre x:=RK x.1
 r x:= .t (.int .i64 (qZ6 x.1))
 outs _:=[]
 inj:=by
  rintro⟨a,u⟩ ⟨b,v⟩ h _;simp only[List.cons.injEq,V.t.injEq,and_true]at h;obtain⟨rfl,rfl⟩:=qCt h;exact⟨rfl,rfl⟩
theorem zD3 {bk:List zD}{u:Int}(h:RK bk):kD.fs [.t (.agg [.sl (bk.map vU),.int .i64 u])] []=some (.t (.int .i64 (qZ6 bk)),[]):=kD.eq (bk,u) h
def onB (bk:List zD)(a:Nat):Bool:=decide ((bk.getD a []).length=16)
theorem qZ0 (h1:LkC tab 105 kD)(bk:List zD)(u:Int)(hk:RK bk)(a:Nat)(ha:a<2):qEy.1.wp tab gl (qD 0 [.t (yR bk u),.t (.int .i64 a)]) (qD 0 []) (qZ [(4,none)] 0 (λr o=>r=.t (.bool (onB bk a))/\o=[])):=by
 have he:=zD3 (u:=u) hk;have hv:qZ6 bk=0\/qZ6 bk=1\/qZ6 bk=2\/qZ6 bk=3:=by
  cases hk with
  |nil=>left;rfl
  |two b0 b1 h0 h1=>simp only[qZ6,zDy];split<;>split<;>simp
 have hon:onB bk a=decide ((qZ6 bk).toNat/2^a%2=1):=by
  cases hk with
  |nil=>
   rcases(show a=0\/a=1 by omega)with rfl|rfl<;>simp[onB,qZ6]
  |two b0 b1 h0 h1=>
   rcases(show a=0\/a=1 by omega)with rfl|rfl
   .simp only[onB,qZ6,zDy,getD_cons_zero];split<;>split<;>simp_all
   .simp only[onB,qZ6,zDy,getD_cons_succ,getD_cons_zero];split<;>split<;>simp_all
 rw[hon];rcases(show a=0\/a=1 by omega)with rfl|rfl<;>rcases hv with hv|hv|hv|hv<;>rw[hv]at he<;>simp only[hv];all_goals simp(disch:=omega)only[go_sem,qEy,h1,he,Int.reduceFDiv,Int.reduceToNat,Nat.reduceDiv,Nat.reduceMod,Int.reduceBEq]
theorem qTd (i:Int):vR.1.wp tab gl (qD 0 [.t (.int .i64 i)]) (qD 0 []) (qZ [(2,none)] 0 (λr o=>r=.t (.bool (decide (0<=i/\i<16)))/\o=[])):=by
 by_cases h:0<=i
 .by_cases h2:i<16
  .simp(disch:=omega)only[go_sem,vR,h,h2]
  .simp(disch:=omega)only[go_sem,vR,h,h2]
 .simp(disch:=omega)only[go_sem,vR,h]
def qDu (i:Int)(reset:Bool):Int:=if reset=true/\i<12 then 5 else if i=14 then(if reset then 3 else 2) else if i=15 then(if reset then 4 else 3) else 0
theorem qTe (i:Int)(rs:Bool):qBk.1.wp tab gl (qD 0 [.t (.int .i64 i),.t (.bool rs)]) (qD 0 []) (qZ [(4,none)] 0 (λr o=>r=.t (.int .i64 (qDu i rs))/\o=[])):=by
 cases rs<;>by_cases h12:i<12<;>by_cases h14:i=14<;>by_cases h15:i=15;all_goals try omega
 all_goals simp(disch:=omega)only[go_sem,qBk,qDu,h12,h14,h15]
def zVr (bk:List zD)(a:Nat):Bool:=decide (a<bk.length)&&decide (0<(bk.getD a []).length)
theorem zDq (bk:List zD)(u:Int)(a:Nat)(ha:a<1000000000)(hb:bk.length<1000000000)(hm:∀b∈bk,b.length<1000000000):kG.1.wp tab gl (qD 0 [.t (yR bk u),.t (.int .i64 a)]) (qD 0 []) (qZ [(4,none)] 0 (λr o=>r=.t (.bool (zVr bk a))/\o=[])):=by
 by_cases h:a<bk.length
 .have hg:bk[a]?=some (bk.getD a []):=by simp[List.getD,h]
  have hl:(bk.getD a []).length<1000000000:=by
   have:bk.getD a []=bk[a]:=by simp[List.getD,h]
   rw[this];exact hm _ (getElem_mem h)
  by_cases h0:0<(bk.getD a []).length
  .simp(disch:=omega)only[go_sem,kG,zVr,h,hg,h0]
  .simp(disch:=omega)only[go_sem,kG,zVr,h,hg,h0]
 .simp(disch:=omega)only[go_sem,kG,zVr,h]
theorem qTf (u:Int):yZ.1.wp tab gl (qD 0 [.t (yR [] u)]) (qD 0 []) (xO [] [(2,some (2,true))] 0 (λr o=>r=.agg [.nil,.t (.int .i64 u)]/\o=[])):=by
 simp(disch:=omega)only[go_sem,yZ,map_nil,Int.natCast_zero];refine qJ 1 ?_;simp(disch:=omega)only[go_sem,qF]
theorem qTg (b0 b1:zD)(u:Int)(m0:zYr b0)(m1:zYr b1):yZ.1.wp tab gl (qD 0 [.t (yR [b0,b1] u)]) (qD 0 []) (xO [] [(2,some (2,true))] 0 (λr o=>r=.agg [.sl 0 0 2,.t (.int .i64 u)]/\o=[.live 1 [.sl 1 0 b0.length,.sl 2 0 b1.length] true false,.live 1 ((b0.map bsT).map V.t) true false,.live 1 ((b1.map bsT).map V.t) true false])):=by
 simp(disch:=omega)only[go_sem,yZ,mcn];have hl0:=m0.1;have hl1:=m1.1;refine qB 2 (λk=>match k with|0=>[(2,.ref 4112 0 0),(3,.ref 8240 0 0),(15,.t (.int .i64 0)),(13,.t (T.sl [T.sl (List.map bsT b0),T.sl (List.map bsT b1)])),(14,.t (.int .i64 2))]|1=>[(2,.ref 4112 0 0),(3,.ref 8240 0 0),(15,.t (.int .i64 1)),(13,.t (T.sl [T.sl (List.map bsT b0),T.sl (List.map bsT b1)])),(14,.t (.int .i64 2))]|_=>[(2,.ref 4112 0 0),(3,.ref 8240 0 0),(15,.t (.int .i64 2)),(13,.t (T.sl [T.sl (List.map bsT b0),T.sl (List.map bsT b1)])),(14,.t (.int .i64 2))]) (λk=>match k with|0=>[(8240,.live 2 [.agg [.nil,.t (.int .i64 u)]] true true),(4112,.live 2 [.agg [.nil,.t (.int .i64 0)]] true true)]|1=>[(8240,.live 2 [.agg [.sl 9000 0 1,.t (.int .i64 u)]] true true),(9000,.live 1 [.sl 9001 0 b0.length] true false),(9001,.live 1 ((b0.map bsT).map V.t) true false),(4112,.live 2 [.agg [.nil,.t (.int .i64 0)]] true true)]|_=>[(8240,.live 2 [.agg [.sl 9000 0 2,.t (.int .i64 u)]] true true),(9000,.live 1 [.sl 9001 0 b0.length,.sl 9002 0 b1.length] true false),(9001,.live 1 ((b0.map bsT).map V.t) true false),(9002,.live 1 ((b1.map bsT).map V.t) true false),(4112,.live 2 [.agg [.nil,.t (.int .i64 0)]] true true)]) ?_ (λk hk=>?_)
 .refine qL.rd id ?_ ?_ rfl;all_goals simp(disch:=omega)only[go_sem,id]
 .rcases(show k=0\/k=1\/k=2 by omega)with rfl|rfl|rfl
  .simp(disch:=omega)only[go_sem];refine qB b0.length (λi=>[(2,.ref 4112 0 0),(3,.ref 8240 0 0),(15,.t (.int .i64 0)),(13,.t (T.sl [T.sl (List.map bsT b0),T.sl (List.map bsT b1)])),(14,.t (.int .i64 2)),(6,.sl 9100 0 i),(21,.t (.int .i64 (i:Nat))),(19,.t (.sl (b0.map bsT))),(20,.t (.int .i64 b0.length))]) (λi=>[(9100,.live 1 (((b0.take i).map bsT).map V.t) true false),(8240,.live 2 [.agg [.nil,.t (.int .i64 u)]] true true),(4112,.live 2 [.agg [.nil,.t (.int .i64 0)]] true true)]) ?_ (λi hi=>?_)
   .refine qL.cv0 (hv:=[(9100,.live 1 [] true false)]) (ho:=[(8240,.live 2 [.agg [.nil,.t (.int .i64 u)]] true true),(4112,.live 2 [.agg [.nil,.t (.int .i64 0)]] true true)]) id ?_ ?_ rfl rfl;all_goals simp(disch:=omega)only[go_sem,id,mcn]
   .have hm:=zB6 m0 i;by_cases hlt:i<b0.length
    .simp(disch:=omega)only[go_sem];refine⟨hlt,qL.cv (hv:=[]) [40992] (λj=>if j=9100 then 41024 else j) ?_ rfl⟩;simp(disch:=omega)only[go_sem,qLr (d:=[]) hlt];rfl
    .have e:i=b0.length:=oM;subst e;simp(disch:=omega)only[go_sem];refine qL.rd (λj=>if j=9000 then 49216 else if j=9001 then 9100 else j) ?_ ?_ rfl;all_goals simp(disch:=omega)only[go_sem]
  .simp(disch:=omega)only[go_sem];refine qB b1.length (λi=>[(2,.ref 4112 0 0),(3,.ref 8240 0 0),(15,.t (.int .i64 1)),(13,.t (T.sl [T.sl (List.map bsT b0),T.sl (List.map bsT b1)])),(14,.t (.int .i64 2)),(6,.sl 9100 0 i),(21,.t (.int .i64 (i:Nat))),(19,.t (.sl (b1.map bsT))),(20,.t (.int .i64 b1.length))]) (λi=>[(9100,.live 1 (((b1.take i).map bsT).map V.t) true false),(8240,.live 2 [.agg [.sl 9000 0 1,.t (.int .i64 u)]] true true),(9000,.live 1 [.sl 9001 0 b0.length] true false),(9001,.live 1 ((b0.map bsT).map V.t) true false),(4112,.live 2 [.agg [.nil,.t (.int .i64 0)]] true true)]) ?_ (λi hi=>?_)
   .refine qL.cv0 (hv:=[(9100,.live 1 [] true false)]) (ho:=[(8240,.live 2 [.agg [.sl 9000 0 1,.t (.int .i64 u)]] true true),(9000,.live 1 [.sl 9001 0 b0.length] true false),(9001,.live 1 ((b0.map bsT).map V.t) true false),(4112,.live 2 [.agg [.nil,.t (.int .i64 0)]] true true)]) id ?_ ?_ rfl rfl;all_goals simp(disch:=omega)only[go_sem,id,mcn]
   .have hm:=zB6 m1 i;by_cases hlt:i<b1.length
    .simp(disch:=omega)only[go_sem];refine⟨hlt,qL.cv (hv:=[]) [40992] (λj=>if j=9100 then 41024 else j) ?_ rfl⟩;simp(disch:=omega)only[go_sem,qLr (d:=[]) hlt];rfl
    .have e:i=b1.length:=oM;subst e;simp(disch:=omega)only[go_sem];refine qL.rd (λj=>if j=9000 then 49216 else if j=9002 then 9100 else j) ?_ ?_ rfl;all_goals simp(disch:=omega)only[go_sem]
  .simp(disch:=omega)only[go_sem]
def twR (bk:List zD)(u:Int):V:=match bk with
 |[_,_]=>.agg [.sl 0 0 2,.t (.int .i64 u)]
 |_=>.agg [.nil,.t (.int .i64 u)]
def twO (bk:List zD):List Ob:=match bk with
 |[b0,b1]=>[.live 1 [.sl 1 0 b0.length,.sl 2 0 b1.length] true false,.live 1 ((b0.map bsT).map V.t) true false,.live 1 ((b1.map bsT).map V.t) true false]
 |_=>[]
def RM (bk:List zD):Prop:=RK bk/\∀b∈bk,zYr b
def kJ:Ct where
 α:=List zD×Int
 aS x:=[.t (yR x.1 x.2)]
 ins _:=[]
 pre x:=RM x.1
 r x:=twR x.1 x.2
 outs x:=twO x.1
 inj:=by
  rintro⟨a,u⟩ ⟨b,v⟩ h _;simp only[List.cons.injEq,V.t.injEq,and_true]at h;obtain⟨rfl,rfl⟩:=qCt h;exact⟨rfl,rfl⟩
theorem zMn {u:Int}:kJ.fs [.t (.agg [.sl [],.int .i64 u])] []=some (.agg [.nil,.t (.int .i64 u)],[]):=kJ.eq ([],u) ⟨.nil,sM⟩
theorem jL {b0 b1:zD}{u:Int}(h:RM [b0,b1]):kJ.fs [.t (.agg [.sl [.sl (b0.map bsT),.sl (b1.map bsT)],.int .i64 u])] [] =
  some (.agg [.sl 0 0 2,.t (.int .i64 u)],[.live 1 [.sl 1 0 b0.length,.sl 2 0 b1.length] true false,.live 1 ((b0.map bsT).map V.t) true false,.live 1 ((b1.map bsT).map V.t) true false]):=kJ.eq ([b0,b1],u) h
def zYw (i:Nat):UInt8:=if 12<=i then 255 else 0
theorem zE8 {i:Nat}(h:i<12):zYw i=0:=if_neg oM
theorem zE9 {i:Nat}(h:¬ i<12):zYw i=255:=if_pos oM
def qB0 (a:Nat):zD:=(List.range 16).map λi=>List.replicate (szA a) (zYw i)
theorem kE {a i:Nat}(h:i<16):(qB0 a).take (i+1)=(qB0 a).take i++[List.replicate (szA a) (zYw i)]:=by
 rw[qLr (d:=[]) (by simp[qB0];omega)];congr 2;simp[qB0,List.getD,h]
theorem qFy {a:Nat}:(qB0 a).take 16=qB0 a:=take_of_length_le (by simp[qB0])
theorem qK {a:Nat}:List.length (qB0 a)=16:=by simp[qB0]
def vL (s:Int):List zD:=if s%4=0 then [] else [if s%2=1 then qB0 0 else [],if s/2%2=1 then qB0 1 else []]
theorem qEa {s:Int}(h:¬ s%4=0):vL s=[if s%2=1 then qB0 0 else [],if s/2%2=1 then qB0 1 else []]:=if_neg h
def qCi:Ct where
 α:=Int
 aS x:=[.t (.int .i64 x)]
 ins _:=[]
 pre _:=True
 r x:= .t (.int .i64 (if x=0 then 20 else if x=1 then 32 else 0))
 outs _:=[]
 inj:=by
  intro a b h _;simp at h;subst h;exact⟨rfl,rfl⟩
theorem qT:qCi.fs [.t (.int .i64 0)] []=some (.t (.int .i64 20),[]):=qCi.eq (0:Int) trivial
theorem qU:qCi.fs [.t (.int .i64 1)] []=some (.t (.int .i64 32),[]):=qCi.eq (1:Int) trivial
def kI:Ct where
 α:=Nat×UInt8
 aS x:=[.t (.int .i64 x.1),.t (qA x.2)]
 ins _:=[]
 pre x:=x.1=20\/x.1=32
 r x:= .sl 0 0 x.1
 outs x:=[.live 1 (((List.replicate x.1 x.2).map qA).map V.t) true false]
 inj:=by
  rintro⟨a,b⟩ ⟨c,d⟩ h _;simp[qQb,Int.natCast_inj]at h;obtain⟨rfl,rfl⟩:=h;exact⟨rfl,rfl⟩
theorem zQ {x:UInt8}:kI.fs [.t (.int .i64 20),.t (qA x)] []=some (.sl 0 0 20,[.live 1 (((List.replicate 20 x).map qA).map V.t) true false]):=kI.eq (20,x) (.inl rfl)
theorem zR {x:UInt8}:kI.fs [.t (.int .i64 32),.t (qA x)] []=some (.sl 0 0 32,[.live 1 (((List.replicate 32 x).map qA).map V.t) true false]):=kI.eq (32,x) (.inr rfl)
theorem qZy (h1:LkC tab 57 qCi)(h2:LkC tab 56 kI)(a:Nat)(ha:a<2)(i:Nat):qEw.1.wp tab gl (qD 0 [.t (.int .i64 a),.t (.int .i64 i)]) (qD 0 []) (xO [] [(4,none)] 0 (λr o=>r=.sl 0 0 (szA a)/\o=[.live 1 (((List.replicate (szA a) (zYw i)).map qA).map V.t) true false])):=by
 rcases(show a=0\/a=1 by omega)with rfl|rfl<;>by_cases hi:i<12;all_goals simp(disch:=omega)only[go_sem,qEw,h1,h2,qT,qU,zQ,zR,szA]
 all_goals first|rw[zE8 hi]|rw[zE9 hi]
def qH0:Ct where
 α:=Nat×Nat
 aS x:=[.t (.int .i64 x.1),.t (.int .i64 x.2)]
 ins _:=[]
 pre x:=x.1<2
 r x:= .sl 0 0 (szA x.1)
 outs x:=[.live 1 (((List.replicate (szA x.1) (zYw x.2)).map qA).map V.t) true false]
 inj:=by
  rintro⟨a,b⟩ ⟨c,d⟩ h _;simp[Int.natCast_inj]at h;obtain⟨rfl,rfl⟩:=h;exact⟨rfl,rfl⟩
theorem yW {i:Nat}:qH0.fs [.t (.int .i64 0),.t (.int .i64 i)] []=some (.sl 0 0 20,[.live 1 (((List.replicate 20 (zYw i)).map qA).map V.t) true false]):=qH0.eq (0,i) (by simp[qH0])
theorem yX {i:Nat}:qH0.fs [.t (.int .i64 1),.t (.int .i64 i)] []=some (.sl 0 0 32,[.live 1 (((List.replicate 32 (zYw i)).map qA).map V.t) true false]):=qH0.eq (1,i) (by simp[qH0])
theorem qUx (s:Int)(h3:s%4=0):jJ.1.wp tab gl (qD 0 [.t (.int .i64 s)]) (qD 0 []) (xO [] [(2,some (2,true))] 0 (λr o=>r=.agg [.nil,.t (.int .i64 0)]/\o=[])):=by
 simp(disch:=omega)only[go_sem,jJ,h3]
theorem zJk (s:Int)(h3:s%4=0):wO.1.wp tab gl (qD 0 [.t (.int .i64 s)]) (qD 0 []) (xO [] [(2,some (2,true))] 0 (λr o=>r=.agg [.nil,.t (.int .i64 0)]/\o=[])):=by
 simp(disch:=omega)only[go_sem,wO,h3]
theorem qYk (h1:LkC tab 161 qCi)(h2:LkC tab 227 kI)(s:Int)(h3:¬ s%4=0):jJ.1.wp tab gl (qD 0 [.t (.int .i64 s)]) (qD 0 []) (xO [] [(2,some (2,true))] 0 (λr o=>r=twR (vL s) 0/\o=twO (vL s))):=by
 have h4:(s%4==0)=false:=by simpa using h3
 have hf1:s.fdiv 1=s:=Int.fdiv_one s;have hf2:s.fdiv 2=s/2:=Int.fdiv_eq_ediv_of_nonneg s oM;have hc0:s%2=0\/s%2=1:=oM;have hc1:s/2%2=0\/s/2%2=1:=oM;rcases hc0 with c0|c0<;>rcases hc1 with c1|c1
 .exact absurd oM h3
 .rw[qEa h3,if_neg oM,if_pos oM];simp(disch:=omega)only[go_sem,jJ,h4,hf1,hf2];refine qB 2 (λk=>match k with|0=>[(0,.t (.int .i64 s)),(2,.ref 4096 0 0),(3,.ref 16384 0 0),(12,.t (.int .i64 0))]|1=>[(0,.t (.int .i64 s)),(2,.ref 4096 0 0),(3,.ref 16384 0 0),(12,.t (.int .i64 1))]|_=>[(0,.t (.int .i64 s)),(2,.ref 4096 0 0),(3,.ref 16384 0 0),(12,.t (.int .i64 2))]) (λk=>match k with|0=>[(16384,.live 2 [.agg [.nil,.t (.int .i64 0)]] true true),(4096,.live 2 [.agg [.nil,.t (.int .i64 0)]] true true)]|1=>[(16384,.live 2 [.agg [.sl 9000 0 1,.t (.int .i64 0)]] true true),(9000,.live 1 [.sl 9001 0 0] true false),(9001,.live 1 ((([]:zD).map bsT).map V.t) true false),(4096,.live 2 [.agg [.nil,.t (.int .i64 0)]] true true)]|_=>[(16384,.live 2 [.agg [.sl 9000 0 2,.t (.int .i64 0)]] true true),(9000,.live 1 [.sl 9001 0 0,.sl 9002 0 16] true false),(9001,.live 1 ((([]:zD).map bsT).map V.t) true false),(9002,.live 1 (((qB0 1:zD).map bsT).map V.t) true false),(4096,.live 2 [.agg [.nil,.t (.int .i64 0)]] true true)]) ?_ (λk hk=>?_)
  .refine qL.rd id ?_ ?_ rfl;all_goals simp(disch:=omega)only[go_sem,id]
  .rcases(show k=0\/k=1\/k=2 by omega)with rfl|rfl|rfl
   .simp(disch:=omega)only[go_sem,c0,c1,qK,h1,h2,qT,qU,zQ,zR,hf1,hf2];refine qJ 1 ?_;simp(disch:=omega)only[go_sem,qF,c0,c1,qK,h1,h2,qT,qU,zQ,zR,hf1,hf2];refine qL.trans (fs':=[(0,.t (.int .i64 s)),(2,.ref 4096 0 0),(3,.ref 16384 0 0),(12,.t (.int .i64 1))]) (qL.cv0 (hv:=[(9001,.live 1 [] true false)]) (ho:=[(16384,.live 2 [.agg [.sl 9000 0 1,.t (.int .i64 0)]] true true),(9000,.live 1 [.sl 9001 0 0] true false),(4096,.live 2 [.agg [.nil,.t (.int .i64 0)]] true true)]) (λj=>if j=9000 then 65600 else j) ?_ ?_ rfl rfl) (qL.rd id ?_ ?_ rfl);all_goals simp(disch:=omega)only[go_sem,mcn,id]
   .simp(disch:=omega)only[go_sem,c0,c1,qK,h1,h2,qT,qU,zQ,zR,hf1,hf2];refine qB 16 (λi=>[(0,.t (.int .i64 s)),(2,.ref 4096 0 0),(3,.ref 16384 0 0),(12,.t (.int .i64 1)),(4,.t (.int .i64 1)),(5,.sl 9100 0 i),(6,.t (.int .i64 (i:Nat)))]) (λi=>[(9100,.live 1 ((((qB0 1).take i).map bsT).map V.t) true false),(16384,.live 2 [.agg [.sl 9000 0 1,.t (.int .i64 0)]] true true),(9000,.live 1 [.sl 9001 0 0] true false),(9001,.live 1 ((([]:zD).map bsT).map V.t) true false),(4096,.live 2 [.agg [.nil,.t (.int .i64 0)]] true true)]) ?_ (λi hi=>?_)
    .refine qL.cv0 (hv:=[(9100,.live 1 [] true false)]) (ho:=[(16384,.live 2 [.agg [.sl 9000 0 1,.t (.int .i64 0)]] true true),(9000,.live 1 [.sl 9001 0 0] true false),(9001,.live 1 ((([]:zD).map bsT).map V.t) true false),(4096,.live 2 [.agg [.nil,.t (.int .i64 0)]] true true)]) id ?_ ?_ rfl rfl;all_goals simp(disch:=omega)only[go_sem,mcn,id]
    .by_cases hlt:i<16
     .by_cases h12:i<12
      .simp(disch:=omega)only[go_sem,c0,c1,qK,h1,h2,qT,qU,zQ,zR,hf1,hf2];refine⟨hlt,qL.cv (hv:=[]) [61504] (λj=>if j=9100 then 61536 else j) ?_ rfl⟩;simp(disch:=omega)only[go_sem,kE hlt,szA,take_replicate,Nat.min_self,zE8 h12];rfl
      .simp(disch:=omega)only[go_sem,c0,c1,qK,h1,h2,qT,qU,zQ,zR,hf1,hf2];refine⟨hlt,qL.cv (hv:=[]) [61504] (λj=>if j=9100 then 61536 else j) ?_ rfl⟩;simp(disch:=omega)only[go_sem,kE hlt,szA,take_replicate,Nat.min_self,zE9 h12];rfl
     .have e:i=16:=oM;subst e;simp(disch:=omega)only[go_sem,c0,c1,qK,h1,h2,qT,qU,zQ,zR,hf1,hf2];refine qL.rd (λj=>if j=9000 then 65600 else if j=9002 then 9100 else j) ?_ ?_ rfl;all_goals simp(disch:=omega)only[go_sem,qFy]
   .simp(disch:=omega)only[go_sem,c0,c1,qK,h1,h2,qT,qU,zQ,zR,hf1,hf2];exact⟨rfl,rfl⟩
 .rw[qEa h3,if_pos oM,if_neg oM];simp(disch:=omega)only[go_sem,jJ,h4,hf1,hf2];refine qB 2 (λk=>match k with|0=>[(0,.t (.int .i64 s)),(2,.ref 4096 0 0),(3,.ref 16384 0 0),(12,.t (.int .i64 0))]|1=>[(0,.t (.int .i64 s)),(2,.ref 4096 0 0),(3,.ref 16384 0 0),(12,.t (.int .i64 1))]|_=>[(0,.t (.int .i64 s)),(2,.ref 4096 0 0),(3,.ref 16384 0 0),(12,.t (.int .i64 2))]) (λk=>match k with|0=>[(16384,.live 2 [.agg [.nil,.t (.int .i64 0)]] true true),(4096,.live 2 [.agg [.nil,.t (.int .i64 0)]] true true)]|1=>[(16384,.live 2 [.agg [.sl 9000 0 1,.t (.int .i64 0)]] true true),(9000,.live 1 [.sl 9001 0 16] true false),(9001,.live 1 (((qB0 0:zD).map bsT).map V.t) true false),(4096,.live 2 [.agg [.nil,.t (.int .i64 0)]] true true)]|_=>[(16384,.live 2 [.agg [.sl 9000 0 2,.t (.int .i64 0)]] true true),(9000,.live 1 [.sl 9001 0 16,.sl 9002 0 0] true false),(9001,.live 1 (((qB0 0:zD).map bsT).map V.t) true false),(9002,.live 1 ((([]:zD).map bsT).map V.t) true false),(4096,.live 2 [.agg [.nil,.t (.int .i64 0)]] true true)]) ?_ (λk hk=>?_)
  .refine qL.rd id ?_ ?_ rfl;all_goals simp(disch:=omega)only[go_sem,id]
  .rcases(show k=0\/k=1\/k=2 by omega)with rfl|rfl|rfl
   .simp(disch:=omega)only[go_sem,c0,c1,qK,h1,h2,qT,qU,zQ,zR,hf1,hf2];refine qB 16 (λi=>[(0,.t (.int .i64 s)),(2,.ref 4096 0 0),(3,.ref 16384 0 0),(12,.t (.int .i64 0)),(4,.t (.int .i64 0)),(5,.sl 9100 0 i),(6,.t (.int .i64 (i:Nat)))]) (λi=>[(9100,.live 1 ((((qB0 0).take i).map bsT).map V.t) true false),(16384,.live 2 [.agg [.nil,.t (.int .i64 0)]] true true),(4096,.live 2 [.agg [.nil,.t (.int .i64 0)]] true true)]) ?_ (λi hi=>?_)
    .refine qL.cv0 (hv:=[(9100,.live 1 [] true false)]) (ho:=[(16384,.live 2 [.agg [.nil,.t (.int .i64 0)]] true true),(4096,.live 2 [.agg [.nil,.t (.int .i64 0)]] true true)]) id ?_ ?_ rfl rfl;all_goals simp(disch:=omega)only[go_sem,mcn,id]
    .by_cases hlt:i<16
     .by_cases h12:i<12
      .simp(disch:=omega)only[go_sem,c0,c1,qK,h1,h2,qT,qU,zQ,zR,hf1,hf2];refine⟨hlt,qL.cv (hv:=[]) [61504] (λj=>if j=9100 then 61536 else j) ?_ rfl⟩;simp(disch:=omega)only[go_sem,kE hlt,szA,take_replicate,Nat.min_self,zE8 h12];rfl
      .simp(disch:=omega)only[go_sem,c0,c1,qK,h1,h2,qT,qU,zQ,zR,hf1,hf2];refine⟨hlt,qL.cv (hv:=[]) [61504] (λj=>if j=9100 then 61536 else j) ?_ rfl⟩;simp(disch:=omega)only[go_sem,kE hlt,szA,take_replicate,Nat.min_self,zE9 h12];rfl
     .have e:i=16:=oM;subst e;simp(disch:=omega)only[go_sem,c0,c1,qK,h1,h2,qT,qU,zQ,zR,hf1,hf2];refine qL.rd (λj=>if j=9000 then 65600 else if j=9001 then 9100 else j) ?_ ?_ rfl;all_goals simp(disch:=omega)only[go_sem,qFy]
   .simp(disch:=omega)only[go_sem,c0,c1,qK,h1,h2,qT,qU,zQ,zR,hf1,hf2];refine qJ 1 ?_;simp(disch:=omega)only[go_sem,qF,c0,c1,qK,h1,h2,qT,qU,zQ,zR,hf1,hf2];refine qL.trans (fs':=[(0,.t (.int .i64 s)),(2,.ref 4096 0 0),(3,.ref 16384 0 0),(12,.t (.int .i64 2))]) (qL.cv0 (hv:=[(9002,.live 1 [] true false)]) (ho:=[(16384,.live 2 [.agg [.sl 9000 0 2,.t (.int .i64 0)]] true true),(9000,.live 1 [.sl 9001 0 16,.sl 9002 0 0] true false),(9001,.live 1 (((qB0 0:zD).map bsT).map V.t) true false),(4096,.live 2 [.agg [.nil,.t (.int .i64 0)]] true true)]) (λj=>if j=9000 then 65600 else j) ?_ ?_ rfl rfl) (qL.rd id ?_ ?_ rfl);all_goals simp(disch:=omega)only[go_sem,mcn,id]
   .simp(disch:=omega)only[go_sem,c0,c1,qK,h1,h2,qT,qU,zQ,zR,hf1,hf2];exact⟨rfl,rfl⟩
 .rw[qEa h3,if_pos oM,if_pos oM];simp(disch:=omega)only[go_sem,jJ,h4,hf1,hf2];refine qB 2 (λk=>match k with|0=>[(0,.t (.int .i64 s)),(2,.ref 4096 0 0),(3,.ref 16384 0 0),(12,.t (.int .i64 0))]|1=>[(0,.t (.int .i64 s)),(2,.ref 4096 0 0),(3,.ref 16384 0 0),(12,.t (.int .i64 1))]|_=>[(0,.t (.int .i64 s)),(2,.ref 4096 0 0),(3,.ref 16384 0 0),(12,.t (.int .i64 2))]) (λk=>match k with|0=>[(16384,.live 2 [.agg [.nil,.t (.int .i64 0)]] true true),(4096,.live 2 [.agg [.nil,.t (.int .i64 0)]] true true)]|1=>[(16384,.live 2 [.agg [.sl 9000 0 1,.t (.int .i64 0)]] true true),(9000,.live 1 [.sl 9001 0 16] true false),(9001,.live 1 (((qB0 0:zD).map bsT).map V.t) true false),(4096,.live 2 [.agg [.nil,.t (.int .i64 0)]] true true)]|_=>[(16384,.live 2 [.agg [.sl 9000 0 2,.t (.int .i64 0)]] true true),(9000,.live 1 [.sl 9001 0 16,.sl 9002 0 16] true false),(9001,.live 1 (((qB0 0:zD).map bsT).map V.t) true false),(9002,.live 1 (((qB0 1:zD).map bsT).map V.t) true false),(4096,.live 2 [.agg [.nil,.t (.int .i64 0)]] true true)]) ?_ (λk hk=>?_)
  .refine qL.rd id ?_ ?_ rfl;all_goals simp(disch:=omega)only[go_sem,id]
  .rcases(show k=0\/k=1\/k=2 by omega)with rfl|rfl|rfl
   .simp(disch:=omega)only[go_sem,c0,c1,qK,h1,h2,qT,qU,zQ,zR,hf1,hf2];refine qB 16 (λi=>[(0,.t (.int .i64 s)),(2,.ref 4096 0 0),(3,.ref 16384 0 0),(12,.t (.int .i64 0)),(4,.t (.int .i64 0)),(5,.sl 9100 0 i),(6,.t (.int .i64 (i:Nat)))]) (λi=>[(9100,.live 1 ((((qB0 0).take i).map bsT).map V.t) true false),(16384,.live 2 [.agg [.nil,.t (.int .i64 0)]] true true),(4096,.live 2 [.agg [.nil,.t (.int .i64 0)]] true true)]) ?_ (λi hi=>?_)
    .refine qL.cv0 (hv:=[(9100,.live 1 [] true false)]) (ho:=[(16384,.live 2 [.agg [.nil,.t (.int .i64 0)]] true true),(4096,.live 2 [.agg [.nil,.t (.int .i64 0)]] true true)]) id ?_ ?_ rfl rfl;all_goals simp(disch:=omega)only[go_sem,mcn,id]
    .by_cases hlt:i<16
     .by_cases h12:i<12
      .simp(disch:=omega)only[go_sem,c0,c1,qK,h1,h2,qT,qU,zQ,zR,hf1,hf2];refine⟨hlt,qL.cv (hv:=[]) [61504] (λj=>if j=9100 then 61536 else j) ?_ rfl⟩;simp(disch:=omega)only[go_sem,kE hlt,szA,take_replicate,Nat.min_self,zE8 h12];rfl
      .simp(disch:=omega)only[go_sem,c0,c1,qK,h1,h2,qT,qU,zQ,zR,hf1,hf2];refine⟨hlt,qL.cv (hv:=[]) [61504] (λj=>if j=9100 then 61536 else j) ?_ rfl⟩;simp(disch:=omega)only[go_sem,kE hlt,szA,take_replicate,Nat.min_self,zE9 h12];rfl
     .have e:i=16:=oM;subst e;simp(disch:=omega)only[go_sem,c0,c1,qK,h1,h2,qT,qU,zQ,zR,hf1,hf2];refine qL.rd (λj=>if j=9000 then 65600 else if j=9001 then 9100 else j) ?_ ?_ rfl;all_goals simp(disch:=omega)only[go_sem,qFy]
   .simp(disch:=omega)only[go_sem,c0,c1,qK,h1,h2,qT,qU,zQ,zR,hf1,hf2];refine qB 16 (λi=>[(0,.t (.int .i64 s)),(2,.ref 4096 0 0),(3,.ref 16384 0 0),(12,.t (.int .i64 1)),(4,.t (.int .i64 1)),(5,.sl 9100 0 i),(6,.t (.int .i64 (i:Nat)))]) (λi=>[(9100,.live 1 ((((qB0 1).take i).map bsT).map V.t) true false),(16384,.live 2 [.agg [.sl 9000 0 1,.t (.int .i64 0)]] true true),(9000,.live 1 [.sl 9001 0 16] true false),(9001,.live 1 (((qB0 0:zD).map bsT).map V.t) true false),(4096,.live 2 [.agg [.nil,.t (.int .i64 0)]] true true)]) ?_ (λi hi=>?_)
    .refine qL.cv0 (hv:=[(9100,.live 1 [] true false)]) (ho:=[(16384,.live 2 [.agg [.sl 9000 0 1,.t (.int .i64 0)]] true true),(9000,.live 1 [.sl 9001 0 16] true false),(9001,.live 1 (((qB0 0:zD).map bsT).map V.t) true false),(4096,.live 2 [.agg [.nil,.t (.int .i64 0)]] true true)]) id ?_ ?_ rfl rfl;all_goals simp(disch:=omega)only[go_sem,mcn,id]
    .by_cases hlt:i<16
     .by_cases h12:i<12
      .simp(disch:=omega)only[go_sem,c0,c1,qK,h1,h2,qT,qU,zQ,zR,hf1,hf2];refine⟨hlt,qL.cv (hv:=[]) [61504] (λj=>if j=9100 then 61536 else j) ?_ rfl⟩;simp(disch:=omega)only[go_sem,kE hlt,szA,take_replicate,Nat.min_self,zE8 h12];rfl
      .simp(disch:=omega)only[go_sem,c0,c1,qK,h1,h2,qT,qU,zQ,zR,hf1,hf2];refine⟨hlt,qL.cv (hv:=[]) [61504] (λj=>if j=9100 then 61536 else j) ?_ rfl⟩;simp(disch:=omega)only[go_sem,kE hlt,szA,take_replicate,Nat.min_self,zE9 h12];rfl
     .have e:i=16:=oM;subst e;simp(disch:=omega)only[go_sem,c0,c1,qK,h1,h2,qT,qU,zQ,zR,hf1,hf2];refine qL.rd (λj=>if j=9000 then 65600 else if j=9002 then 9100 else j) ?_ ?_ rfl;all_goals simp(disch:=omega)only[go_sem,qFy]
   .simp(disch:=omega)only[go_sem,c0,c1,qK,h1,h2,qT,qU,zQ,zR,hf1,hf2];exact⟨rfl,rfl⟩
theorem zO5 (h1:LkC tab 35 qH0)(s:Int)(h3:¬ s%4=0):wO.1.wp tab gl (qD 0 [.t (.int .i64 s)]) (qD 0 []) (xO [] [(2,some (2,true))] 0 (λr o=>r=twR (vL s) 0/\o=twO (vL s))):=by
 have h4:(s%4==0)=false:=by simpa using h3
 have hf1:s.fdiv 1=s:=Int.fdiv_one s;have hf2:s.fdiv 2=s/2:=Int.fdiv_eq_ediv_of_nonneg s oM;have hc0:s%2=0\/s%2=1:=oM;have hc1:s/2%2=0\/s/2%2=1:=oM;rcases hc0 with c0|c0<;>rcases hc1 with c1|c1
 .exact absurd oM h3
 .rw[qEa h3,if_neg oM,if_pos oM];simp(disch:=omega)only[go_sem,wO,h4,hf1,hf2];refine qB 2 (λk=>match k with|0=>[(0,.t (.int .i64 s)),(2,.ref 4096 0 0),(3,.ref 8208 0 0),(4,.t (.int .i64 0))]|1=>[(0,.t (.int .i64 s)),(2,.ref 4096 0 0),(3,.ref 8208 0 0),(4,.t (.int .i64 1))]|_=>[(0,.t (.int .i64 s)),(2,.ref 4096 0 0),(3,.ref 8208 0 0),(4,.t (.int .i64 2))]) (λk=>match k with|0=>[(8208,.live 2 [.agg [.nil,.t (.int .i64 0)]] true true),(4096,.live 2 [.agg [.nil,.t (.int .i64 0)]] true true)]|1=>[(8208,.live 2 [.agg [.sl 9000 0 1,.t (.int .i64 0)]] true true),(9000,.live 1 [.sl 9001 0 0] true false),(9001,.live 1 ((([]:zD).map bsT).map V.t) true false),(4096,.live 2 [.agg [.nil,.t (.int .i64 0)]] true true)]|_=>[(8208,.live 2 [.agg [.sl 9000 0 2,.t (.int .i64 0)]] true true),(9000,.live 1 [.sl 9001 0 0,.sl 9002 0 16] true false),(9001,.live 1 ((([]:zD).map bsT).map V.t) true false),(9002,.live 1 (((qB0 1:zD).map bsT).map V.t) true false),(4096,.live 2 [.agg [.nil,.t (.int .i64 0)]] true true)]) ?_ (λk hk=>?_)
  .refine qL.rd id ?_ ?_ rfl;all_goals simp(disch:=omega)only[go_sem,id]
  .rcases(show k=0\/k=1\/k=2 by omega)with rfl|rfl|rfl
   .simp(disch:=omega)only[go_sem,c0,c1,qK,h1,yW,yX,hf1,hf2];refine qJ 1 ?_;simp(disch:=omega)only[go_sem,qF,c0,c1,qK,h1,yW,yX,hf1,hf2];refine qL.trans (fs':=[(0,.t (.int .i64 s)),(2,.ref 4096 0 0),(3,.ref 8208 0 0),(4,.t (.int .i64 1))]) (qL.cv0 (hv:=[(9001,.live 1 [] true false)]) (ho:=[(8208,.live 2 [.agg [.sl 9000 0 1,.t (.int .i64 0)]] true true),(9000,.live 1 [.sl 9001 0 0] true false),(4096,.live 2 [.agg [.nil,.t (.int .i64 0)]] true true)]) (λj=>if j=9000 then 53312 else j) ?_ ?_ rfl rfl) (qL.rd id ?_ ?_ rfl);all_goals simp(disch:=omega)only[go_sem,mcn,id]
   .simp(disch:=omega)only[go_sem,c0,c1,qK,h1,yW,yX,hf1,hf2];refine qB 16 (λi=>[(0,.t (.int .i64 s)),(2,.ref 4096 0 0),(3,.ref 8208 0 0),(4,.t (.int .i64 1)),(5,.sl 9100 0 i),(6,.t (.int .i64 (i:Nat)))]) (λi=>[(9100,.live 1 ((((qB0 1).take i).map bsT).map V.t) true false),(8208,.live 2 [.agg [.sl 9000 0 1,.t (.int .i64 0)]] true true),(9000,.live 1 [.sl 9001 0 0] true false),(9001,.live 1 ((([]:zD).map bsT).map V.t) true false),(4096,.live 2 [.agg [.nil,.t (.int .i64 0)]] true true)]) ?_ (λi hi=>?_)
    .refine qL.cv0 (hv:=[(9100,.live 1 [] true false)]) (ho:=[(8208,.live 2 [.agg [.sl 9000 0 1,.t (.int .i64 0)]] true true),(9000,.live 1 [.sl 9001 0 0] true false),(9001,.live 1 ((([]:zD).map bsT).map V.t) true false),(4096,.live 2 [.agg [.nil,.t (.int .i64 0)]] true true)]) id ?_ ?_ rfl rfl;all_goals simp(disch:=omega)only[go_sem,mcn,id]
    .by_cases hlt:i<16
     .simp(disch:=omega)only[go_sem,c0,c1,qK,h1,yW,yX,hf1,hf2];refine⟨hlt,qL.cv (hv:=[]) [49200] (λj=>if j=9100 then 49232 else j) ?_ rfl⟩;simp(disch:=omega)only[go_sem,kE hlt,szA,take_replicate,Nat.min_self];rfl
     .have e:i=16:=oM;subst e;simp(disch:=omega)only[go_sem,c0,c1,qK,h1,yW,yX,hf1,hf2];refine qL.rd (λj=>if j=9000 then 53312 else if j=9002 then 9100 else j) ?_ ?_ rfl;all_goals simp(disch:=omega)only[go_sem,qFy]
   .simp(disch:=omega)only[go_sem,c0,c1,qK,h1,yW,yX,hf1,hf2];exact⟨rfl,rfl⟩
 .rw[qEa h3,if_pos oM,if_neg oM];simp(disch:=omega)only[go_sem,wO,h4,hf1,hf2];refine qB 2 (λk=>match k with|0=>[(0,.t (.int .i64 s)),(2,.ref 4096 0 0),(3,.ref 8208 0 0),(4,.t (.int .i64 0))]|1=>[(0,.t (.int .i64 s)),(2,.ref 4096 0 0),(3,.ref 8208 0 0),(4,.t (.int .i64 1))]|_=>[(0,.t (.int .i64 s)),(2,.ref 4096 0 0),(3,.ref 8208 0 0),(4,.t (.int .i64 2))]) (λk=>match k with|0=>[(8208,.live 2 [.agg [.nil,.t (.int .i64 0)]] true true),(4096,.live 2 [.agg [.nil,.t (.int .i64 0)]] true true)]|1=>[(8208,.live 2 [.agg [.sl 9000 0 1,.t (.int .i64 0)]] true true),(9000,.live 1 [.sl 9001 0 16] true false),(9001,.live 1 (((qB0 0:zD).map bsT).map V.t) true false),(4096,.live 2 [.agg [.nil,.t (.int .i64 0)]] true true)]|_=>[(8208,.live 2 [.agg [.sl 9000 0 2,.t (.int .i64 0)]] true true),(9000,.live 1 [.sl 9001 0 16,.sl 9002 0 0] true false),(9001,.live 1 (((qB0 0:zD).map bsT).map V.t) true false),(9002,.live 1 ((([]:zD).map bsT).map V.t) true false),(4096,.live 2 [.agg [.nil,.t (.int .i64 0)]] true true)]) ?_ (λk hk=>?_)
  .refine qL.rd id ?_ ?_ rfl;all_goals simp(disch:=omega)only[go_sem,id]
  .rcases(show k=0\/k=1\/k=2 by omega)with rfl|rfl|rfl
   .simp(disch:=omega)only[go_sem,c0,c1,qK,h1,yW,yX,hf1,hf2];refine qB 16 (λi=>[(0,.t (.int .i64 s)),(2,.ref 4096 0 0),(3,.ref 8208 0 0),(4,.t (.int .i64 0)),(5,.sl 9100 0 i),(6,.t (.int .i64 (i:Nat)))]) (λi=>[(9100,.live 1 ((((qB0 0).take i).map bsT).map V.t) true false),(8208,.live 2 [.agg [.nil,.t (.int .i64 0)]] true true),(4096,.live 2 [.agg [.nil,.t (.int .i64 0)]] true true)]) ?_ (λi hi=>?_)
    .refine qL.cv0 (hv:=[(9100,.live 1 [] true false)]) (ho:=[(8208,.live 2 [.agg [.nil,.t (.int .i64 0)]] true true),(4096,.live 2 [.agg [.nil,.t (.int .i64 0)]] true true)]) id ?_ ?_ rfl rfl;all_goals simp(disch:=omega)only[go_sem,mcn,id]
    .by_cases hlt:i<16
     .simp(disch:=omega)only[go_sem,c0,c1,qK,h1,yW,yX,hf1,hf2];refine⟨hlt,qL.cv (hv:=[]) [49200] (λj=>if j=9100 then 49232 else j) ?_ rfl⟩;simp(disch:=omega)only[go_sem,kE hlt,szA,take_replicate,Nat.min_self];rfl
     .have e:i=16:=oM;subst e;simp(disch:=omega)only[go_sem,c0,c1,qK,h1,yW,yX,hf1,hf2];refine qL.rd (λj=>if j=9000 then 53312 else if j=9001 then 9100 else j) ?_ ?_ rfl;all_goals simp(disch:=omega)only[go_sem,qFy]
   .simp(disch:=omega)only[go_sem,c0,c1,qK,h1,yW,yX,hf1,hf2];refine qJ 1 ?_;simp(disch:=omega)only[go_sem,qF,c0,c1,qK,h1,yW,yX,hf1,hf2];refine qL.trans (fs':=[(0,.t (.int .i64 s)),(2,.ref 4096 0 0),(3,.ref 8208 0 0),(4,.t (.int .i64 2))]) (qL.cv0 (hv:=[(9002,.live 1 [] true false)]) (ho:=[(8208,.live 2 [.agg [.sl 9000 0 2,.t (.int .i64 0)]] true true),(9000,.live 1 [.sl 9001 0 16,.sl 9002 0 0] true false),(9001,.live 1 (((qB0 0:zD).map bsT).map V.t) true false),(4096,.live 2 [.agg [.nil,.t (.int .i64 0)]] true true)]) (λj=>if j=9000 then 53312 else j) ?_ ?_ rfl rfl) (qL.rd id ?_ ?_ rfl);all_goals simp(disch:=omega)only[go_sem,mcn,id]
   .simp(disch:=omega)only[go_sem,c0,c1,qK,h1,yW,yX,hf1,hf2];exact⟨rfl,rfl⟩
 .rw[qEa h3,if_pos oM,if_pos oM];simp(disch:=omega)only[go_sem,wO,h4,hf1,hf2];refine qB 2 (λk=>match k with|0=>[(0,.t (.int .i64 s)),(2,.ref 4096 0 0),(3,.ref 8208 0 0),(4,.t (.int .i64 0))]|1=>[(0,.t (.int .i64 s)),(2,.ref 4096 0 0),(3,.ref 8208 0 0),(4,.t (.int .i64 1))]|_=>[(0,.t (.int .i64 s)),(2,.ref 4096 0 0),(3,.ref 8208 0 0),(4,.t (.int .i64 2))]) (λk=>match k with|0=>[(8208,.live 2 [.agg [.nil,.t (.int .i64 0)]] true true),(4096,.live 2 [.agg [.nil,.t (.int .i64 0)]] true true)]|1=>[(8208,.live 2 [.agg [.sl 9000 0 1,.t (.int .i64 0)]] true true),(9000,.live 1 [.sl 9001 0 16] true false),(9001,.live 1 (((qB0 0:zD).map bsT).map V.t) true false),(4096,.live 2 [.agg [.nil,.t (.int .i64 0)]] true true)]|_=>[(8208,.live 2 [.agg [.sl 9000 0 2,.t (.int .i64 0)]] true true),(9000,.live 1 [.sl 9001 0 16,.sl 9002 0 16] true false),(9001,.live 1 (((qB0 0:zD).map bsT).map V.t) true false),(9002,.live 1 (((qB0 1:zD).map bsT).map V.t) true false),(4096,.live 2 [.agg [.nil,.t (.int .i64 0)]] true true)]) ?_ (λk hk=>?_)
  .refine qL.rd id ?_ ?_ rfl;all_goals simp(disch:=omega)only[go_sem,id]
  .rcases(show k=0\/k=1\/k=2 by omega)with rfl|rfl|rfl
   .simp(disch:=omega)only[go_sem,c0,c1,qK,h1,yW,yX,hf1,hf2];refine qB 16 (λi=>[(0,.t (.int .i64 s)),(2,.ref 4096 0 0),(3,.ref 8208 0 0),(4,.t (.int .i64 0)),(5,.sl 9100 0 i),(6,.t (.int .i64 (i:Nat)))]) (λi=>[(9100,.live 1 ((((qB0 0).take i).map bsT).map V.t) true false),(8208,.live 2 [.agg [.nil,.t (.int .i64 0)]] true true),(4096,.live 2 [.agg [.nil,.t (.int .i64 0)]] true true)]) ?_ (λi hi=>?_)
    .refine qL.cv0 (hv:=[(9100,.live 1 [] true false)]) (ho:=[(8208,.live 2 [.agg [.nil,.t (.int .i64 0)]] true true),(4096,.live 2 [.agg [.nil,.t (.int .i64 0)]] true true)]) id ?_ ?_ rfl rfl;all_goals simp(disch:=omega)only[go_sem,mcn,id]
    .by_cases hlt:i<16
     .simp(disch:=omega)only[go_sem,c0,c1,qK,h1,yW,yX,hf1,hf2];refine⟨hlt,qL.cv (hv:=[]) [49200] (λj=>if j=9100 then 49232 else j) ?_ rfl⟩;simp(disch:=omega)only[go_sem,kE hlt,szA,take_replicate,Nat.min_self];rfl
     .have e:i=16:=oM;subst e;simp(disch:=omega)only[go_sem,c0,c1,qK,h1,yW,yX,hf1,hf2];refine qL.rd (λj=>if j=9000 then 53312 else if j=9001 then 9100 else j) ?_ ?_ rfl;all_goals simp(disch:=omega)only[go_sem,qFy]
   .simp(disch:=omega)only[go_sem,c0,c1,qK,h1,yW,yX,hf1,hf2];refine qB 16 (λi=>[(0,.t (.int .i64 s)),(2,.ref 4096 0 0),(3,.ref 8208 0 0),(4,.t (.int .i64 1)),(5,.sl 9100 0 i),(6,.t (.int .i64 (i:Nat)))]) (λi=>[(9100,.live 1 ((((qB0 1).take i).map bsT).map V.t) true false),(8208,.live 2 [.agg [.sl 9000 0 1,.t (.int .i64 0)]] true true),(9000,.live 1 [.sl 9001 0 16] true false),(9001,.live 1 (((qB0 0:zD).map bsT).map V.t) true false),(4096,.live 2 [.agg [.nil,.t (.int .i64 0)]] true true)]) ?_ (λi hi=>?_)
    .refine qL.cv0 (hv:=[(9100,.live 1 [] true false)]) (ho:=[(8208,.live 2 [.agg [.sl 9000 0 1,.t (.int .i64 0)]] true true),(9000,.live 1 [.sl 9001 0 16] true false),(9001,.live 1 (((qB0 0:zD).map bsT).map V.t) true false),(4096,.live 2 [.agg [.nil,.t (.int .i64 0)]] true true)]) id ?_ ?_ rfl rfl;all_goals simp(disch:=omega)only[go_sem,mcn,id]
    .by_cases hlt:i<16
     .simp(disch:=omega)only[go_sem,c0,c1,qK,h1,yW,yX,hf1,hf2];refine⟨hlt,qL.cv (hv:=[]) [49200] (λj=>if j=9100 then 49232 else j) ?_ rfl⟩;simp(disch:=omega)only[go_sem,kE hlt,szA,take_replicate,Nat.min_self];rfl
     .have e:i=16:=oM;subst e;simp(disch:=omega)only[go_sem,c0,c1,qK,h1,yW,yX,hf1,hf2];refine qL.rd (λj=>if j=9000 then 53312 else if j=9002 then 9100 else j) ?_ ?_ rfl;all_goals simp(disch:=omega)only[go_sem,qFy]
   .simp(disch:=omega)only[go_sem,c0,c1,qK,h1,yW,yX,hf1,hf2];exact⟨rfl,rfl⟩
def qAr:Ct where
 α:=Int
 aS x:=[.t (.int .i64 x)]
 ins _:=[]
 pre _:=True
 r x:= .t (.bool (decide ((0:Int)<=x/\x<(16:Int))))
 outs _:=[]
 inj:=by
  intro a b h _;simp at h;subst h;exact⟨rfl,rfl⟩
theorem qSf {i:Int}(h:0<=i/\i<16):qAr.fs [.t (.int .i64 i)] []=some (.t (.bool true),[]):=by
 refine(qAr.eq i trivial).trans ?_;simp[qAr,h]
theorem zH9 {i:Int}(h:¬ (0<=i/\i<16)):qAr.fs [.t (.int .i64 i)] []=some (.t (.bool false),[]):=by
 refine(qAr.eq i trivial).trans ?_;simp only[qAr,decide_eq_false h]
def qL8:Ct where
 α:=List zD×Int×Nat
 aS x:=[.t (yR x.1 x.2.1),.t (.int .i64 x.2.2)]
 ins _:=[]
 pre x:=RK x.1/\x.2.2<2
 r x:= .t (.bool (onB x.1 x.2.2))
 outs _:=[]
 inj:=by
  rintro⟨a,u,i⟩ ⟨b,v,j⟩ h _;simp only[List.cons.injEq,V.t.injEq,T.int.injEq,true_and,and_true,Int.natCast_inj]at h;obtain⟨h1,rfl⟩:=h;obtain⟨rfl,rfl⟩:=qCt h1;exact⟨rfl,rfl⟩
theorem zSt {bk:List zD}{u:Int}{a:Nat}(hk:RK bk)(h:a<2):qL8.fs [.t (.agg [.sl (bk.map vU),.int .i64 u]),.t (.int .i64 a)] []=some (.t (.bool (onB bk a)),[]):=qL8.eq (bk,u,a) ⟨hk,h⟩
theorem kV {b0 b1:zD}{u:Int}(hk:RK [b0,b1]):qL8.fs [.t (.agg [.sl [.sl (b0.map bsT),.sl (b1.map bsT)],.int .i64 u]),.t (.int .i64 0)] []=some (.t (.bool (decide (b0.length=16))),[]):=qL8.eq ([b0,b1],u,0) ⟨hk,by show 0<2;omega⟩
theorem kW {b0 b1:zD}{u:Int}(hk:RK [b0,b1]):qL8.fs [.t (.agg [.sl [.sl (b0.map bsT),.sl (b1.map bsT)],.int .i64 u]),.t (.int .i64 1)] []=some (.t (.bool (decide (b1.length=16))),[]):=qL8.eq ([b0,b1],u,1) ⟨hk,by show 1<2;omega⟩
theorem jDs {u:Int}{a:Nat}(h:a<2):qL8.fs [.t (.agg [.sl [],.int .i64 u]),.t (.int .i64 a)] []=some (.t (.bool false),[]):=by
 refine(qL8.eq ([],u,a) ⟨.nil,h⟩).trans ?_;simp[qL8,onB]
def qDl:Ct where
 α:=List zD×Int×Nat
 aS x:=[.t (yR x.1 x.2.1),.t (.int .i64 x.2.2)]
 ins _:=[]
 pre x:=RK x.1/\x.2.2<1000000000
 r x:= .t (.bool (zVr x.1 x.2.2))
 outs _:=[]
 inj:=by
  rintro⟨a,u,i⟩ ⟨b,v,j⟩ h _;simp only[List.cons.injEq,V.t.injEq,T.int.injEq,true_and,and_true,Int.natCast_inj]at h;obtain⟨h1,rfl⟩:=h;obtain⟨rfl,rfl⟩:=qCt h1;exact⟨rfl,rfl⟩
theorem RK.on {bk:List zD}(h:RK bk)(a:Nat):zVr bk a=onB bk a:=by
 cases h with
 |nil=>simp[zVr,onB]
 |two b0 b1 h0 h1=>
  have key:∀b:zD,zD0 b->decide (0<List.length b)=decide (List.length b=16):=by
   intro b hb;rcases hb with h|h<;>simp[h]
  match a with
  |0=>simpa [zVr,onB]using key b0 h0
  |1=>simpa [zVr,onB]using key b1 h1
  |a+2=>simp[zVr,onB]
theorem zPp {bk:List zD}{u:Int}{a:Nat}(hk:RK bk)(h:a<1000000000):qDl.fs [.t (.agg [.sl (bk.map vU),.int .i64 u]),.t (.int .i64 a)] []=some (.t (.bool (onB bk a)),[]):=by
 refine(qDl.eq (bk,u,a) ⟨hk,h⟩).trans ?_;simp only[qDl,hk.on]
def zG6 (bk:List zD)(a i:Nat):List UInt8:=(bk.getD a []).getD i []
def zWd (bank i:Int):Prop:=bank<0\/2<=bank\/i<0\/16<=i
instance (bank i:Int):Decidable (zWd bank i):=by unfold zWd;infer_instance
def jJg (bk:List zD)(bank i:Int):V:=if zWd bank i then .tup [.nil,.t (.int .i64 1)] else if onB bk bank.toNat then .tup [.sl 0 0 (zG6 bk bank.toNat i.toNat).length,.t (.int .i64 0)] else .tup [.nil,.t (.int .i64 27)]
def jJf (bk:List zD)(bank i:Int):List Ob:=if zWd bank i then [] else if onB bk bank.toNat then [.live 1 (((zG6 bk bank.toNat i.toNat).map qA).map V.t) true false] else []
theorem RM.val {bk:List zD}(h:RM bk)(a i:Nat):(zG6 bk a i).length<1000000000:=by
 by_cases ha:a<bk.length
 .have e:bk.getD a []=bk[a]:=by simp[List.getD,ha]
  unfold zG6;rw[e];exact zB6 (h.2 _ (getElem_mem ha)) i
 .have e:bk.getD a []=[]:=by simp[List.getD,getElem?_eq_none (Nat.le_of_not_lt ha)]
  unfold zG6;rw[e];simp
theorem RK.len {bk:List zD}(h:RK bk){a:Nat}(ho:onB bk a=true):a<bk.length:=by
 simp only[onB,decide_eq_true_eq]at ho;rcases Nat.lt_or_ge a bk.length with h1|h1
 .exact h1
 .rw[List.getD,getElem?_eq_none h1]at ho;simp at ho
theorem qTc (h1:LkC tab 232 qAr)(h2:LkC tab 233 qL8)(bk:List zD)(u bank i:Int)(hk:RM bk) :
  jX.1.wp tab gl (qD 0 [.t (yR bk u),.t (.int .i64 bank),.t (.int .i64 i)]) (qD 0 []) (xO [] [(6,none),(7,none)] 0 (λr o=>r=jJg bk bank i/\o=jJf bk bank i)):=by
 by_cases hb:zWd bank i
 .rw[jJg,jJf,if_pos hb,if_pos hb];by_cases b1:bank<0
  .simp(disch:=omega)only[go_sem,jX,b1]
  .by_cases b2:2<=bank
   .simp(disch:=omega)only[go_sem,jX,b1]
   .have hi:¬ (0<=i/\i<16):=by unfold zWd at hb;omega
    simp(disch:=omega)only[go_sem,jX,b1,h1,zH9]
 .rw[jJg,jJf,if_neg hb,if_neg hb];unfold zWd at hb;obtain⟨a,rfl⟩:=Int.eq_ofNat_of_zero_le (show 0<=bank by omega);obtain⟨k,rfl⟩:=Int.eq_ofNat_of_zero_le (show 0<=i by omega);have hon:=zSt (u:=u) (a:=a) hk.1 oM;by_cases ho:onB bk a=true
  .have hl:=hk.1.len ho;have hv:=hk.val a k;have hl2:(bk.getD a []).length=16:=by simpa [onB]using ho
   rw[ho]at hon;unfold zG6 at hv;simp(disch:=omega)only[go_sem,jX,h1,h2,qSf,hon,ho,zG6]
  .have ho':onB bk a=false:=by simpa using ho
   rw[ho']at hon;simp(disch:=omega)only[go_sem,jX,h1,h2,qSf,hon,ho']
def qH1:Ct where
 α:=Int×Bool
 aS x:=[.t (.int .i64 x.1),.t (.bool x.2)]
 ins _:=[]
 pre _:=True
 r x:= .t (.int .i64 (qDu x.1 x.2))
 outs _:=[]
 inj:=by
  rintro⟨a,b⟩ ⟨c,d⟩ h _;simp at h;obtain⟨rfl,rfl⟩:=h;exact⟨rfl,rfl⟩
theorem zB4 {i:Int}{rs:Bool}:qH1.fs [.t (.int .i64 i),.t (.bool rs)] []=some (.t (.int .i64 (qDu i rs)),[]):=qH1.eq (i,rs) trivial
def yFh (loc i:Int):Int:=if loc<0\/4<loc\/i<0\/16<=i then 1 else if loc<qDu i true then 13 else 0
def zPj (a:Nat)(b:zD)(i:Nat):zD:=if List.length b=16 then b.set i (List.replicate (szA a) 0) else b
def zTt (bk:List zD)(i:Nat):List zD:=match bk with
 |[b0,b1]=>[zPj 0 b0 i,zPj 1 b1 i]
 |bk=>bk
theorem qIn {a:Nat}{b:zD}{i:Nat}:List.length (zPj a b i)=List.length b:=by
 unfold zPj;split<;>simp
end Go.Eng
end
