/- A part of an abstract machine, its walks, their tie. -/
import Derived.Test.YtlhjonbjbiafaaaGreatDoorU17
import Derived.Test.YtlhjonbjbiafaaaGreatDoorU16
set_option linter.all false
section
set_option maxHeartbeats 16000000
set_option maxRecDepth 20000
namespace Go.Eng
variable (tab:Tab) (gl:Gl)
theorem zN {b:List UInt8}{a:Nat}{e:Int}:kP (b,a,e) = .live 3 [.t (.agg [.sl (b.map qA),.int .i64 (a:Int),.int .i64 e])] true true:=rfl
theorem qCy {s t:Rd}(h:kP s=kP t):s=t:=by
 obtain⟨b,a,e⟩:=s;obtain⟨b',a',e'⟩:=t;simp only[zN,Ob.live.injEq,List.cons.injEq,V.t.injEq,T.agg.injEq,T.sl.injEq,T.int.injEq,jB,Int.natCast_inj] at h;simp only[Prod.mk.injEq];exact⟨h.2.1.1.1,h.2.1.1.2.1.2,h.2.1.1.2.2.1.2⟩
def wR:Ct where
 α:=Rd×Nat×Nat
 aS x:=[.ref 0 0 0,.t (.int .i64 x.2.1),.t (.int .i64 x.2.2)]
 ins x:=[kP x.1]
 pre x:=qEg x.1∧x.2.1≤x.1.1.length∧x.2.2≤1000000000
 r x:=if x.2.1+x.2.2≤x.1.1.length then .tup [.t (.sl (((x.1.1.drop x.2.1).take x.2.2).map qA)),.t (.int .i64 0)] else .tup [.t (.sl []),.t (.int .i64 2)]
 outs x:=[kP x.1]
 inj:=by
  rintro⟨s,a,b⟩ ⟨t,c,d⟩ h1 h2;simp[Int.natCast_inj] at h1;simp only[List.cons.injEq,and_true] at h2;obtain⟨rfl,rfl⟩:=h1;cases qCy h2;exact⟨rfl,rfl⟩
theorem qZa {b:List UInt8}{a p n:Nat}{e:Int}(h:a≤b.length∧b.length<1000000000∧p+n≤b.length):wR.fs [.ref 0 0 0,.t (.int .i64 p),.t (.int .i64 n)] [.live 3 [.t (.agg [.sl (b.map qA),.int .i64 (a:Int),.int .i64 e])] true true] =
  some (.tup [.t (.sl (((b.drop p).take n).map qA)),.t (.int .i64 0)],[.live 3 [.t (.agg [.sl (b.map qA),.int .i64 (a:Int),.int .i64 e])] true true]):=by
 refine (wR.eq ((b,a,e),p,n) ⟨⟨h.1,h.2.1⟩,?_,?_⟩).trans ?_
 ·simp only;omega
 ·simp only;omega
 ·simp only[wR,if_pos h.2.2,zN]
theorem qY9 {b:List UInt8}{a p n:Nat}{e:Int}(h:a≤b.length∧b.length<1000000000∧p≤b.length∧n≤1000000000∧b.length<p+n):wR.fs [.ref 0 0 0,.t (.int .i64 p),.t (.int .i64 n)] [.live 3 [.t (.agg [.sl (b.map qA),.int .i64 (a:Int),.int .i64 e])] true true] =
  some (.tup [.t (.sl []),.t (.int .i64 2)],[.live 3 [.t (.agg [.sl (b.map qA),.int .i64 (a:Int),.int .i64 e])] true true]):=by
 refine (wR.eq ((b,a,e),p,n) ⟨⟨h.1,h.2.1⟩,h.2.2.1,h.2.2.2.1⟩).trans ?_;simp only[wR,zN];rw[if_neg oM]
def qO4:Ct where
 α:=Rd×Int
 aS x:=[.ref 0 0 0,.t (.int .i64 x.2)]
 ins x:=[kP x.1]
 pre x:=qEg x.1
 r x:= .tup []
 outs x:=[kP (x.1.1,x.1.2.1,x.2)]
 inj:=by
  rintro⟨s,a⟩ ⟨t,c⟩ h1 h2;simp at h1;simp only[List.cons.injEq,and_true] at h2;subst h1;cases qCy h2;exact⟨rfl,rfl⟩
theorem qMb {b:List UInt8}{a:Nat}{e n:Int}(h:a≤b.length∧b.length<1000000000):qO4.fs [.ref 0 0 0,.t (.int .i64 n)] [.live 3 [.t (.agg [.sl (b.map qA),.int .i64 (a:Int),.int .i64 e])] true true] =
  some (.tup [],[.live 3 [.t (.agg [.sl (b.map qA),.int .i64 (a:Int),.int .i64 n])] true true]):=qO4.eq ((b,a,e),n) h
def beV (bs:List UInt8):Nat:=bs.foldl (fun n x=>256*n+x.toNat) 0
theorem zGe {bs:List UInt8}{k:Nat}(h:k<bs.length):beV (bs.take (k+1))=256*beV (bs.take k)+(bs.getD k 0).toNat:=by
 rw[qDz (d:=0) h];simp[beV]
theorem zU2 {bs:List UInt8}:beV bs<256^bs.length:=by
 have : ∀ (bs:List UInt8) (n:Nat),bs.foldl (fun n x=>256*n+x.toNat) n<256^bs.length*(n+1):=by
  intro bs
  induction bs with
  | nil=>intro n;simp
  | cons x r ih=>
   intro n;simp only[List.foldl_cons,List.length_cons];have h1:=ih (256*n+x.toNat);have h2:=x.toNat_lt;have h3:256^r.length*(256*n+x.toNat+1)≤256^r.length*(256*(n+1)):=Nat.mul_le_mul_left _ oM;rw[Nat.pow_succ,Nat.mul_assoc];omega
 have:=this bs 0;simpa [beV] using this
theorem zKo {bs:List UInt8}(h:bs.length≤7):beV bs<72057594037927936:=by
 have h1:=zU2 (bs:=bs);have h2:256^bs.length≤256^7:=Nat.pow_le_pow_right oM h;omega
theorem zKp {bs:List UInt8}(h:bs.length≤8):beV bs<18446744073709551616:=by
 have h1:=zU2 (bs:=bs);have h2:256^bs.length≤256^8:=Nat.pow_le_pow_right oM h;omega
def qU (s:Rd)(k:Nat):Int×Rd:=
 if s.2.2≠0 then (0,s) else if s.1.length<s.2.1+k then (0,(s.1,s.2.1,2))
 else if 9223372036854775808≤beV ((s.1.drop s.2.1).take k) then (0,(s.1,s.2.1,4)) else (beV ((s.1.drop s.2.1).take k),(s.1,s.2.1+k,0))
def qB2 (s:Rd)(k:Nat):List UInt8×Rd:=
 if s.2.2≠0 then ([],s) else if s.1.length<s.2.1+k then ([],(s.1,s.2.1,2)) else ((s.1.drop s.2.1).take k,(s.1,s.2.1+k,0))
def qA2 (s:Rd):Int:=if s.2.2=0∧s.2.1<s.1.length then 3 else s.2.2
theorem qOs (h1:LkC tab 137 qO4)(h2:LkC tab 138 wR)(s:Rd)(hs:qEg s)(k:Nat)(hk:1≤k∧k≤8) :
  vC.1.wp tab gl (qF 0 [.ref 0 0 0,.t (.int .i64 k)]) (qF 0 [kP s]) (zD [(4,none)] 1 (fun r o=>r = .t (.int .i64 (qU s k).1)∧o=[kP (qU s k).2])):=by
 obtain⟨b,a,e⟩:=s;have ha:a≤b.length∧b.length<1000000000:=hs;by_cases he:e=0
 ·subst he;by_cases hl:b.length<a+k
  ·simp(disch:=omega)only[go_sem,vC,zN,h1,h2,qY9,qMb,qU,ne_eq,hl]
  ·have hc:(List.take k (List.drop a b)).length=k:=by simp only[List.length_take,List.length_drop];omega
   simp(disch:=omega)only[go_sem,vC,zN,h1,h2,qZa];generalize hC:List.take k (List.drop a b)=c at hc ⊢;refine qB k (fun i=>[(40,.t (.int .i64 i)),(39,.t (.int .i64 k)),(38,.t (.sl (c.map qA))),(7,.t (.int .u64 (beV (c.take i)))),(0,.ref 0 0 0),(1,.t (.int .i64 k))])
    (fun _=>[(0,.live 3 [.t (.agg [.sl (b.map qA),.int .i64 (a:Int),.int .i64 0])] true true)]) ?_ (fun i hi=>?_)
   ·refine qJ.rd id ?_ ?_ rfl;all_goals simp(disch:=omega)only[go_sem,id,beV,List.foldl_nil]
   ·by_cases hlt:i<k
    ·have hb:beV (c.take i)<72057594037927936:=zKo (by rw[List.length_take];omega);have ht:=zGe (bs:=c) (k:=i) oM;simp(disch:=omega)only[go_sem,hc];refine⟨hlt,qJ.rd id ?_ ?_ rfl⟩;all_goals simp(disch:=omega)only[go_sem,id,ht]
    ·have e:i=k:=oM;subst e;have ht:List.take i c=c:=List.take_of_length_le oM;have hb8:beV c<18446744073709551616:=zKp oM;by_cases hbig:9223372036854775808≤beV c
     ·simp(disch:=omega)only[go_sem,hc,ht,h1,qMb,qU,zN,hl,hbig,ne_eq,hC]
     ·simp(disch:=omega)only[go_sem,hc,ht,qU,zN,hl,hbig,ne_eq,hC]
 ·simp(disch:=omega)only[go_sem,vC,zN,qU,ne_eq,he]
theorem qQf (h1:LkC tab 137 qO4)(h2:LkC tab 138 wR)(s:Rd)(hs:qEg s)(k:Nat)(hk:k≤1000000000) :
  vR.1.wp tab gl (qF 0 [.ref 0 0 0,.t (.int .i64 k)]) (qF 0 [kP s]) (zD [(4,none)] 1 (fun r o=>r = .t (.sl ((qB2 s k).1.map qA))∧o=[kP (qB2 s k).2])):=by
 obtain⟨b,a,e⟩:=s;have ha:a≤b.length∧b.length<1000000000:=hs;by_cases he:e=0
 ·subst he;by_cases hl:b.length<a+k
  ·simp(disch:=omega)only[go_sem,vR,zN,h1,h2,qY9,qMb,qB2,ne_eq,hl]
  ·have hc:(List.take k (List.drop a b)).length=k:=by simp only[List.length_take,List.length_drop];omega
   have ht:List.take k (List.take k (List.drop a b))=List.take k (List.drop a b):=List.take_of_length_le oM;simp(disch:=omega)only[go_sem,vR,zN,h1,h2,qZa,qB2,ne_eq,hl,ht]
 ·simp(disch:=omega)only[go_sem,vR,zN,qB2,ne_eq,he]
theorem qV7 (b:List UInt8)(a:Nat)(e:Int)(k:Nat)(ha:a≤b.length∧b.length<1000000000)(hk:k≤1000000000) :
  jZ.1.wp tab gl (qF 0 [.ref 0 0 0,.t (.int .i64 k)]) (qF 0 [kP (b,a,e)]) (zD [(4,none)] 1 (fun r o=>r = .t (.bool (decide (e=0) && !decide (b.length<a+k)))∧o=[kP (b,a,if e=0∧b.length<a+k then 2 else e)])):=by
 by_cases he:e=0
 ·subst he;by_cases hl:b.length<a+k
  ·simp(disch:=omega)only[go_sem,jZ,zN,hl];repeat refine And.intro rfl ?_
   trivial
  ·simp(disch:=omega)only[go_sem,jZ,zN,hl];repeat refine And.intro rfl ?_
   trivial
 ·simp(disch:=omega)only[go_sem,jZ,zN,he];repeat refine And.intro rfl ?_
  trivial
def kW:Ct where
 α:=Rd×Nat
 aS x:=[.ref 0 0 0,.t (.int .i64 x.2)]
 ins x:=[kP x.1]
 pre x:=qEg x.1∧x.2≤1000000000
 r x:= .t (.bool (decide (x.1.2.2=0) && !decide (x.1.1.length<x.1.2.1+x.2)))
 outs x:=[kP (x.1.1,x.1.2.1,if x.1.2.2=0∧x.1.1.length<x.1.2.1+x.2 then 2 else x.1.2.2)]
 inj:=by
  rintro⟨s,a⟩ ⟨t,c⟩ h1 h2;simp[Int.natCast_inj] at h1;simp only[List.cons.injEq,and_true] at h2;subst h1;cases qCy h2;exact⟨rfl,rfl⟩
theorem zEk {b:List UInt8}{a k:Nat}(h:a≤b.length∧b.length<1000000000∧a+k≤b.length):kW.fs [.ref 0 0 0,.t (.int .i64 k)] [.live 3 [.t (.agg [.sl (b.map qA),.int .i64 (a:Int),.int .i64 0])] true true] =
  some (.t (.bool true),[.live 3 [.t (.agg [.sl (b.map qA),.int .i64 (a:Int),.int .i64 0])] true true]):=by
 refine (kW.eq ((b,a,0),k) ⟨⟨h.1,h.2.1⟩,?_⟩).trans ?_
 ·simp only;omega
 ·have : ¬ b.length<a+k:=oM;simp[kW,zN,this]
theorem zEj {b:List UInt8}{a k:Nat}(h:a≤b.length∧b.length<1000000000∧k≤1000000000∧b.length<a+k):kW.fs [.ref 0 0 0,.t (.int .i64 k)] [.live 3 [.t (.agg [.sl (b.map qA),.int .i64 (a:Int),.int .i64 0])] true true] =
  some (.t (.bool false),[.live 3 [.t (.agg [.sl (b.map qA),.int .i64 (a:Int),.int .i64 2])] true true]):=by
 refine (kW.eq ((b,a,0),k) ⟨⟨h.1,h.2.1⟩,h.2.2.1⟩).trans ?_;have:=h.2.2.2;simp[kW,zN,this]
theorem qOj (h1:LkC tab 95 kW)(s:Rd)(hs:qEg s)(k:Nat)(hk:1≤k∧k≤8) :
  vB.1.wp tab gl (qF 0 [.ref 0 0 0,.t (.int .i64 k)]) (qF 0 [kP s]) (zD [(4,none)] 1 (fun r o=>r = .t (.int .i64 (qU s k).1)∧o=[kP (qU s k).2])):=by
 obtain⟨b,a,e⟩:=s;have ha:a≤b.length∧b.length<1000000000:=hs;by_cases he:e=0
 ·subst he;by_cases hl:b.length<a+k
  ·simp(disch:=omega)only[go_sem,vB,zN,h1,zEj,qU,ne_eq,hl];repeat refine And.intro rfl ?_
   all_goals trivial
  ·have hc:(List.take k (List.drop a b)).length=k:=by simp only[List.length_take,List.length_drop];omega
   simp(disch:=omega)only[go_sem,vB,zN,h1,zEk];repeat refine And.intro rfl ?_
   generalize hC:List.take k (List.drop a b)=c at hc;have hget : ∀ i,i<k→b.getD (a+i) 0=c.getD i 0:=by
    intro i hi;rw[←hC];simp[List.getD,List.getElem?_take,hi]
   refine qB k (fun i=>[(6,.t (.int .i64 i)),(5,.t (.int .u64 (beV (c.take i)))),(0,.ref 0 0 0),(1,.t (.int .i64 k))])
    (fun _=>[(0,.live 3 [.t (.agg [.sl (b.map qA),.int .i64 (a:Int),.int .i64 0])] true true)]) ?_ (fun i hi=>?_)
   ·refine qJ.rd id ?_ ?_ rfl;all_goals simp(disch:=omega)only[go_sem,id,beV,List.foldl_nil]
   ·by_cases hlt:i<k
    ·have hb:beV (c.take i)<72057594037927936:=zKo (by rw[List.length_take];omega);have ht:=zGe (bs:=c) (k:=i) oM;simp(disch:=omega)only[go_sem,hc,hget i hlt];repeat refine And.intro rfl ?_
     refine⟨hlt,qJ.rd id ?_ ?_ rfl⟩;all_goals simp(disch:=omega)only[go_sem,id,ht]
    ·have e:i=k:=oM;subst e;have ht:List.take i c=c:=List.take_of_length_le oM;have hb8:beV c<18446744073709551616:=zKp oM;by_cases hbig:9223372036854775808≤beV c
     ·simp(disch:=omega)only[go_sem,hc,ht,qU,zN,hl,hbig,ne_eq,hC]
     ·simp(disch:=omega)only[go_sem,hc,ht,qU,zN,hl,hbig,ne_eq,hC]
 ·simp(disch:=omega)only[go_sem,vB,zN,qU,ne_eq,he];repeat refine And.intro rfl ?_
  all_goals trivial
theorem qOr (s:Rd)(hs:qEg s):xR.1.wp tab gl (qF 0 [.ref 0 0 0]) (qF 0 [kP s]) (zD [(2,none)] 1 (fun r o=>r = .t (.int .i64 (s.1.length-s.2.1:Nat))∧o=[kP s])):=by
 obtain⟨b,a,e⟩:=s;have ha:a≤b.length∧b.length<1000000000:=hs;simp(disch:=omega)only[go_sem,xR,zN];repeat refine And.intro rfl ?_
 all_goals trivial
theorem qOi (s:Rd)(hs:qEg s):xP.1.wp tab gl (qF 0 [.ref 0 0 0]) (qF 0 [kP s]) (zD [(2,none)] 1 (fun r o=>r = .t (.int .i64 (s.1.length-s.2.1:Nat))∧o=[kP s])):=by
 obtain⟨b,a,e⟩:=s;have ha:a≤b.length∧b.length<1000000000:=hs;simp(disch:=omega)only[go_sem,xP,zN];repeat refine And.intro rfl ?_
 all_goals trivial
theorem qQe (s:Rd)(hs:qEg s):qAv.1.wp tab gl (qF 0 [.ref 0 0 0]) (qF 0 [kP s]) (zD [(2,none)] 1 (fun r o=>r = .t (.int .i64 s.2.2)∧o=[kP s])):=by
 obtain⟨b,a,e⟩:=s;simp(disch:=omega)only[go_sem,qAv,zN]
def qO5:Ct where
 α:=Rd
 aS _:=[.ref 0 0 0]
 ins x:=[kP x]
 pre x:=qEg x
 r x:= .t (.int .i64 (x.1.length-x.2.1:Nat))
 outs x:=[kP x]
 inj:=by
  intro s t _ h2;simp only[List.cons.injEq,and_true] at h2;cases qCy h2;exact⟨rfl,rfl⟩
theorem qYe {b:List UInt8}{a:Nat}{e:Int}(h:a≤b.length∧b.length<1000000000):qO5.fs [.ref 0 0 0] [.live 3 [.t (.agg [.sl (b.map qA),.int .i64 (a:Int),.int .i64 e])] true true] =
  some (.t (.int .i64 (b.length-a:Nat)),[.live 3 [.t (.agg [.sl (b.map qA),.int .i64 (a:Int),.int .i64 e])] true true]):=qO5.eq (b,a,e) h
theorem qQd (h1:LkC tab 136 qO5)(s:Rd)(hs:qEg s):vQ.1.wp tab gl (qF 0 [.ref 0 0 0]) (qF 0 [kP s]) (zD [(2,none)] 1 (fun r o=>r = .t (.int .i64 (qA2 s))∧o=[kP s])):=by
 obtain⟨b,a,e⟩:=s;have ha:a≤b.length∧b.length<1000000000:=hs;by_cases he:e=0
 ·subst he;by_cases hl:a<b.length
  ·simp(disch:=omega)only[go_sem,vQ,zN,h1,qYe,qA2,hl];repeat refine And.intro rfl ?_
   all_goals trivial
  ·simp(disch:=omega)only[go_sem,vQ,zN,h1,qYe,qA2,hl];repeat refine And.intro rfl ?_
   all_goals trivial
 ·simp(disch:=omega)only[go_sem,vQ,zN,qA2,he];repeat refine And.intro rfl ?_
  all_goals trivial
theorem qP3 (h1:LkC tab 96 qO5)(s:Rd)(hs:qEg s):vO.1.wp tab gl (qF 0 [.ref 0 0 0]) (qF 0 [kP s]) (zD [(2,none)] 1 (fun r o=>r = .t (.int .i64 (qA2 s))∧o=[kP s])):=by
 obtain⟨b,a,e⟩:=s;have ha:a≤b.length∧b.length<1000000000:=hs;by_cases he:e=0
 ·subst he;by_cases hl:a<b.length
  ·simp(disch:=omega)only[go_sem,vO,zN,h1,qYe,qA2,hl];repeat refine And.intro rfl ?_
   all_goals trivial
  ·simp(disch:=omega)only[go_sem,vO,zN,h1,qYe,qA2,hl];repeat refine And.intro rfl ?_
   all_goals trivial
 ·simp(disch:=omega)only[go_sem,vO,zN,qA2,he];repeat refine And.intro rfl ?_
  all_goals trivial
theorem zCm (n:Int)(hn:n=20∨n=32):qCp.1.wp tab gl (qF 0 [.t (.int .u64 1),.t (.int .u64 n)]) (qF 0 []) (zD [(4,none),(5,none)] 0 (fun r o=>r = .tup [.t (.int .u64 0),.t (.int .u64 n)]∧o=[])):=by
 rcases hn with rfl | rfl
 ·simp(disch:=omega)only[go_sem,qCp,BitVec.reduceOfInt,BitVec.reduceAnd,BitVec.reduceToNat,Int.reduceFDiv]
 ·simp(disch:=omega)only[go_sem,qCp,BitVec.reduceOfInt,BitVec.reduceAnd,BitVec.reduceToNat,Int.reduceFDiv]
def qJs:Ct where
 α:=Int
 aS x:=[.t (.int .u64 1),.t (.int .u64 x)]
 ins _:=[]
 pre x:=x=20∨x=32
 r x:= .tup [.t (.int .u64 0),.t (.int .u64 x)]
 outs _:=[]
 inj:=by
  intro a b h _;simp at h;subst h;exact⟨rfl,rfl⟩
theorem zG6 {n:Int}(h:n=20∨n=32):qJs.fs [.t (.int .u64 1),.t (.int .u64 n)] []=some (.tup [.t (.int .u64 0),.t (.int .u64 n)],[]):=qJs.eq n h
theorem zJy (h2:LkC tab 321 qJs)(n:Int)(hn:n=20∨n=32):qKl.1.wp tab gl (qF 0 [.t (.int .u64 1),.t (.int .u64 n)]) (qF 0 []) (zD [(4,none),(5,none)] 0 (fun r o=>r = .tup [.t (.int .u64 0),.t (.int .u64 n)]∧o=[])):=by
 simp(disch:=omega)only[go_sem,qKl,h2,zG6]
def zAv:Ct where
 α:=Int
 aS x:=[.t (.int .i64 x)]
 ins _:=[]
 pre x:=x=20∨x=32
 r x:= .sl 0 0 x.toNat
 outs _:=[.live 1 [] true false]
 inj:=by
  intro a b h _;simp at h;subst h;exact⟨rfl,rfl⟩
theorem jEn {n:Int}(h:n=20∨n=32):zAv.fs [.t (.int .i64 n)] []=some (.sl 0 0 n.toNat,[.live 1 [] true false]):=zAv.eq n h
theorem zCa {α:Type}{l xs:List α}:zW l l.length xs=l++xs:=by simp[zW]
theorem qV2 (h1:LkC tab 306 qJs)(h2:LkC tab 307 zAv)(x:UInt8)(n:Nat)(hn:n=20∨n=32) :
  qC5.1.wp tab gl (qF 0 [.t (.sl ([x].map qA)),.t (.int .i64 n)]) (qF 0 []) (kU [] [(4,none)] 0 (fun r o=>r = .sl 0 0 n∧o=[.live 1 (((List.replicate n x).map qA).map V.t) true false])):=by
 have hn2:(n:Int)=20∨(n:Int)=32:=oM;have ht1 : ∀ v:V,List.take n [v]=[v]:=fun v=>List.take_of_length_le (by simp only[List.length_cons,List.length_nil];omega)
 simp(disch:=omega)only[go_sem,qC5,h1,h2,zG6,jEn,ht1];refine qJf (ι := { p:Nat // 1≤p∧p≤n }) (fun p=>([(7,.t (.int .i64 n)),(8,.t (.int .i64 n)),(9,.sl 69648 0 n),(10,.t (.int .i64 p.1))],[(69648,.live 1 (((List.replicate p.1 x).map qA).map V.t) true false)])) (fun p=>n-p.1) ⟨1,oM⟩ ?_ (fun p=>?_)
 ·refine qJ.rd id ?_ ?_ rfl;all_goals simp(disch:=omega)only[go_sem,id,mcn]
 ·obtain⟨p,hp1,hp2⟩:=p;by_cases hlt:p<n
  ·have hse : ∀ xs,zW (List.map V.t (List.map qA (List.replicate p x))) p xs=List.map V.t (List.map qA (List.replicate p x))++xs:=by
    intro xs;have:=zCa (l:=List.map V.t (List.map qA (List.replicate p x))) (xs:=xs);simpa using this
   have hm:(if (n:Int)<(p:Int) then (n:Int) else (p:Int))=p:=if_neg oM;by_cases hd:p≤n-p
   ·simp(disch:=omega)only[go_sem,hse,List.take_replicate,hm];refine⟨rfl,⟨p+p,oM⟩,by simp only;omega,qJ.rd id ?_ ?_ rfl⟩;all_goals simp(disch:=omega)only[go_sem,id,List.replicate_append_replicate]
   ·simp(disch:=omega)only[go_sem,hse,List.take_replicate,hm];refine⟨rfl,⟨p+(n-p),oM⟩,by simp only;omega,qJ.rd id ?_ ?_ rfl⟩;all_goals simp(disch:=omega)only[go_sem,id,List.replicate_append_replicate]
  ·have e:p=n:=oM;subst e;simp(disch:=omega)only[go_sem]
def qM6:Ct where
 α:=UInt8×Nat
 aS x:=[.t (.sl ([x.1].map qA)),.t (.int .i64 x.2)]
 ins _:=[]
 pre x:=x.2=20∨x.2=32
 r x:= .sl 0 0 x.2
 outs x:=[.live 1 (((List.replicate x.2 x.1).map qA).map V.t) true false]
 inj:=by
  rintro⟨a,b⟩ ⟨c,d⟩ h _;simp[qM2,Int.natCast_inj] at h;obtain⟨rfl,rfl⟩:=h;exact⟨rfl,rfl⟩
theorem zNl {x:UInt8}{n:Nat}(h:n=20∨n=32):qM6.fs [.t (.sl [qA x]),.t (.int .i64 n)] []=some (.sl 0 0 n,[.live 1 (((List.replicate n x).map qA).map V.t) true false]):=qM6.eq (x,n) h
theorem qRj (h1:LkC tab 278 qM6)(x:UInt8)(n:Nat)(hn:n=20∨n=32):qBi.1.wp tab gl (qF 0 [.t (.int .i64 n),.t (qA x)]) (qF 0 []) (kU [] [(4,none)] 0 (fun r o=>r = .sl 0 0 n∧o=[.live 1 (((List.replicate n x).map qA).map V.t) true false])):=by
 simp(disch:=omega)only[go_sem,qBi,h1,zNl]
theorem zTy {α:Type}{x d:α}{n k:Nat}(h:k<n):(List.replicate k x++List.replicate (n-k) d).set k x=List.replicate (k+1) x++List.replicate (n-(k+1)) d:=by
 rw[show n-k=(n-(k+1))+1 by omega,List.replicate_succ,List.set_append_right _ _ sM];simp[List.replicate_succ']
theorem zFt (x:UInt8)(n:Nat)(hn:n<1000000000):qD7.1.wp tab gl (qF 0 [.t (.int .i64 n),.t (qA x)]) (qF 0 []) (kU [] [(4,none)] 0 (fun r o=>r = .sl 0 0 n∧o=[.live 1 (((List.replicate n x).map qA).map V.t) true false])):=by
 simp(disch:=omega)only[go_sem,qD7];refine qB n (fun k=>[(0,.t (.int .i64 n)),(1,.t (qA x)),(5,.sl 8208 0 n),(6,.t (.int .i64 k))]) (fun k=>[(8208,.live 1 (((List.replicate k x++List.replicate (n-k) 0).map qA).map V.t) true false)]) ?_ (fun k hk=>?_)
 ·refine qJ.rd id ?_ ?_ rfl;all_goals simp(disch:=omega)only[go_sem,id]
 ·by_cases hlt:k<n
  ·simp(maxSteps:=9^9)(disch:=try exact dS)only[go_sem];refine⟨hlt,qJ.rd id ?_ ?_ rfl⟩;all_goals simp(disch:=omega)only[go_sem,id,zTy hlt]
  ·have e:k=n:=oM;subst e;simp(disch:=omega)only[go_sem,Nat.sub_self,List.append_nil]
abbrev qY:=List (List UInt8)
def wQ (b:qY):T:= .sl (b.map bsT)
def zT (bk:List qY)(u:Int):T:= .agg [.sl (bk.map wQ),.int .i64 u]
theorem zAn {b:qY}:wQ b = .sl (b.map bsT):=Eq.trans (Eq.refl _) rfl
theorem zSw {bk:List qY}{u:Int}:zT bk u = .agg [.sl (bk.map wQ),.int .i64 u]:=Eq.trans (Eq.refl _) rfl
attribute [go_sem] zAn zSw
def qRr (b:qY):Prop:=b.length=0∨b.length=16
def zAb (b0 b1:qY):Int:=(if b0.length=16 then 1 else 0)+(if b1.length=16 then 2 else 0)
theorem qMv (u:Int):yB.1.wp tab gl (qF 0 [.t (zT [] u)]) (qF 0 []) (zD [(2,none)] 0 (fun r o=>r = .t (.int .i64 0)∧o=[])):=by
 simp(disch:=omega)only[go_sem,yB,mcn];refine qG 1 ?_;simp(disch:=omega)only[go_sem,qD]
theorem qMw (b0 b1:qY)(h0:b0.length<1000000000)(h1:b1.length<1000000000)(u:Int):yB.1.wp tab gl (qF 0 [.t (zT [b0,b1] u)]) (qF 0 []) (zD [(2,none)] 0 (fun r o=>r = .t (.int .i64 (zAb b0 b1))∧o=[])):=by
 simp(disch:=omega)only[go_sem,yB,mcn];refine qG 3 ?_;by_cases e0:b0.length=16
 ·by_cases e1:b1.length=16
  ·simp(disch:=omega)only[go_sem,qD,zAb,e0,e1,BitVec.reduceOfInt,BitVec.reduceOr,BitVec.reduceToNat]
  ·simp(disch:=omega)only[go_sem,qD,zAb,e0,e1,BitVec.reduceOfInt,BitVec.reduceOr,BitVec.reduceToNat]
 ·by_cases e1:b1.length=16
  ·simp(disch:=omega)only[go_sem,qD,zAb,e0,e1,BitVec.reduceOfInt,BitVec.reduceOr,BitVec.reduceToNat]
  ·simp(disch:=omega)only[go_sem,qD,zAb,e0,e1,BitVec.reduceOfInt,BitVec.reduceOr,BitVec.reduceToNat]
inductive RK:List qY→Prop
 | nil:RK []
 | two (b0 b1:qY) (h0:qRr b0) (h1:qRr b1):RK [b0,b1]
def qWi:List qY→Int
 | [b0,b1]=>zAb b0 b1
 | _=>0
theorem qSt {a b:qY}(h:wQ a=wQ b):a=b:=by
 simpa [wQ,qB1] using h
theorem xN {a b:List qY}{u v:Int}(h:zT a u=zT b v):a=b∧u=v:=by
 simp only[zT,T.agg.injEq,List.cons.injEq,T.sl.injEq,T.int.injEq,true_and,and_true] at h;exact⟨qBu (fun _ _=>qSt) h.1,h.2⟩
def wT:Ct where
 α:=List qY×Int
 aS x:=[.t (zT x.1 x.2)]
 ins _:=[]
 pre x:=RK x.1
 r x:= .t (.int .i64 (qWi x.1))
 outs _:=[]
 inj:=by
  rintro⟨a,u⟩ ⟨b,v⟩ h _;simp only[List.cons.injEq,V.t.injEq,and_true] at h;obtain⟨rfl,rfl⟩:=xN h;exact⟨rfl,rfl⟩
theorem zAj {bk:List qY}{u:Int}(h:RK bk):wT.fs [.t (.agg [.sl (bk.map wQ),.int .i64 u])] []=some (.t (.int .i64 (qWi bk)),[]):=wT.eq (bk,u) h
def onB (bk:List qY)(a:Nat):Bool:=decide ((bk.getD a []).length=16)
theorem qWd (h1:LkC tab 103 wT)(bk:List qY)(u:Int)(hk:RK bk)(a:Nat)(ha:a<2):qDk.1.wp tab gl (qF 0 [.t (zT bk u),.t (.int .i64 a)]) (qF 0 []) (zD [(4,none)] 0 (fun r o=>r = .t (.bool (onB bk a))∧o=[])):=by
 have he:=zAj (u:=u) hk;have hv:qWi bk=0∨qWi bk=1∨qWi bk=2∨qWi bk=3:=by
  cases hk with
  | nil=>left;rfl
  | two b0 b1 h0 h1=>simp only[qWi,zAb];split<;>split<;>simp
 have hon:onB bk a=decide ((qWi bk).toNat/2^a%2=1):=by
  cases hk with
  | nil=>
   rcases (show a=0∨a=1 by omega) with rfl | rfl<;>simp[onB,qWi]
  | two b0 b1 h0 h1=>
   rcases (show a=0∨a=1 by omega) with rfl | rfl
   ·simp only[onB,qWi,zAb,List.getD_cons_zero];split<;>split<;>simp_all
   ·simp only[onB,qWi,zAb,List.getD_cons_succ,List.getD_cons_zero];split<;>split<;>simp_all
 rw[hon];rcases (show a=0∨a=1 by omega) with rfl | rfl<;>rcases hv with hv | hv | hv | hv<;>rw[hv] at he<;>simp only[hv];all_goals simp(disch:=omega)only[go_sem,qDk,h1,he,Int.reduceFDiv,Int.reduceToNat,Nat.reduceDiv,Nat.reduceMod,Int.reduceBEq]
theorem qP7 (i:Int):vP.1.wp tab gl (qF 0 [.t (.int .i64 i)]) (qF 0 []) (zD [(2,none)] 0 (fun r o=>r = .t (.bool (decide (0≤i∧i<16)))∧o=[])):=by
 by_cases h:0≤i
 ·by_cases h2:i<16
  ·simp(disch:=omega)only[go_sem,vP,h,h2]
  ·simp(disch:=omega)only[go_sem,vP,h,h2]
 ·simp(disch:=omega)only[go_sem,vP,h]
def yG (i:Int)(reset:Bool):Int:=if reset=true∧i<12 then 5 else if i=14 then (if reset then 3 else 2) else if i=15 then (if reset then 4 else 3) else 0
theorem qP8 (i:Int)(rs:Bool):qAr.1.wp tab gl (qF 0 [.t (.int .i64 i),.t (.bool rs)]) (qF 0 []) (zD [(4,none)] 0 (fun r o=>r = .t (.int .i64 (yG i rs))∧o=[])):=by
 cases rs<;>by_cases h12:i<12<;>by_cases h14:i=14<;>by_cases h15:i=15;all_goals try omega
 all_goals simp(disch:=omega)only[go_sem,qAr,yG,h12,h14,h15]
theorem zCv (i:Int)(rs:Bool):qF8.1.wp tab gl (qF 0 [.t (.int .i64 i),.t (.bool rs)]) (qF 0 []) (zD [(4,none)] 0 (fun r o=>r = .t (.int .i64 (if yG i rs=5 then -1 else yG i rs))∧o=[])):=by
 cases rs<;>by_cases h12:i<12<;>by_cases h14:i=14<;>by_cases h15:i=15;all_goals try omega
 all_goals simp(disch:=omega)only[go_sem,qF8,yG,h12,h14,h15]
def zPg (bk:List qY)(a:Nat):Bool:=decide (a<bk.length)&&decide (0<(bk.getD a []).length)
theorem qZ0 (bk:List qY)(u:Int)(a:Nat)(ha:a<1000000000)(hb:bk.length<1000000000)(hm : ∀ b∈bk,b.length<1000000000):wY.1.wp tab gl (qF 0 [.t (zT bk u),.t (.int .i64 a)]) (qF 0 []) (zD [(4,none)] 0 (fun r o=>r = .t (.bool (zPg bk a))∧o=[])):=by
 by_cases h:a<bk.length
 ·have hg:bk[a]?=some (bk.getD a []):=by simp[List.getD,h]
  have hl:(bk.getD a []).length<1000000000:=by
   have:bk.getD a []=bk[a]:=by simp[List.getD,h]
   rw[this];exact hm _ (List.getElem_mem h)
  by_cases h0:0<(bk.getD a []).length
  ·simp(disch:=omega)only[go_sem,wY,zPg,h,hg,h0]
  ·simp(disch:=omega)only[go_sem,wY,zPg,h,hg,h0]
 ·simp(disch:=omega)only[go_sem,wY,zPg,h]
theorem qP9 (u:Int):yW.1.wp tab gl (qF 0 [.t (zT [] u)]) (qF 0 []) (kU [] [(2,some (2,true))] 0 (fun r o=>r = .agg [.nil,.t (.int .i64 u)]∧o=[])):=by
 simp(disch:=omega)only[go_sem,yW,List.map_nil,Int.natCast_zero];refine qG 1 ?_;simp(disch:=omega)only[go_sem,qD]
theorem qQa (b0 b1:qY)(u:Int)(m0:zPk b0)(m1:zPk b1):yW.1.wp tab gl (qF 0 [.t (zT [b0,b1] u)]) (qF 0 []) (kU [] [(2,some (2,true))] 0 (fun r o=>r = .agg [.sl 0 0 2,.t (.int .i64 u)]∧o=[.live 1 [.sl 1 0 b0.length,.sl 2 0 b1.length] true false,.live 1 ((b0.map bsT).map V.t) true false,.live 1 ((b1.map bsT).map V.t) true false])):=by
 simp(disch:=omega)only[go_sem,yW,mcn];have hl0:=m0.1;have hl1:=m1.1;refine qB 2 (fun k=>match k with | 0=>[(2,.ref 4112 0 0),(3,.ref 8240 0 0),(15,.t (.int .i64 0)),(13,.t (T.sl [T.sl (List.map bsT b0),T.sl (List.map bsT b1)])),(14,.t (.int .i64 2))] | 1=>[(2,.ref 4112 0 0),(3,.ref 8240 0 0),(15,.t (.int .i64 1)),(13,.t (T.sl [T.sl (List.map bsT b0),T.sl (List.map bsT b1)])),(14,.t (.int .i64 2))] | _=>[(2,.ref 4112 0 0),(3,.ref 8240 0 0),(15,.t (.int .i64 2)),(13,.t (T.sl [T.sl (List.map bsT b0),T.sl (List.map bsT b1)])),(14,.t (.int .i64 2))]) (fun k=>match k with | 0=>[(8240,.live 2 [.agg [.nil,.t (.int .i64 u)]] true true),(4112,.live 2 [.agg [.nil,.t (.int .i64 0)]] true true)] | 1=>[(8240,.live 2 [.agg [.sl 9000 0 1,.t (.int .i64 u)]] true true),(9000,.live 1 [.sl 9001 0 b0.length] true false),(9001,.live 1 ((b0.map bsT).map V.t) true false),(4112,.live 2 [.agg [.nil,.t (.int .i64 0)]] true true)] | _=>[(8240,.live 2 [.agg [.sl 9000 0 2,.t (.int .i64 u)]] true true),(9000,.live 1 [.sl 9001 0 b0.length,.sl 9002 0 b1.length] true false),(9001,.live 1 ((b0.map bsT).map V.t) true false),(9002,.live 1 ((b1.map bsT).map V.t) true false),(4112,.live 2 [.agg [.nil,.t (.int .i64 0)]] true true)]) ?_ (fun k hk=>?_)
 ·refine qJ.rd id ?_ ?_ rfl;all_goals simp(disch:=omega)only[go_sem,id]
 ·rcases (show k=0∨k=1∨k=2 by omega) with rfl | rfl | rfl
  ·simp(disch:=omega)only[go_sem];refine qB b0.length (fun i=>[(2,.ref 4112 0 0),(3,.ref 8240 0 0),(15,.t (.int .i64 0)),(13,.t (T.sl [T.sl (List.map bsT b0),T.sl (List.map bsT b1)])),(14,.t (.int .i64 2)),(6,.sl 9100 0 i),(21,.t (.int .i64 (i:Nat))),(19,.t (.sl (b0.map bsT))),(20,.t (.int .i64 b0.length))]) (fun i=>[(9100,.live 1 (((b0.take i).map bsT).map V.t) true false),(8240,.live 2 [.agg [.nil,.t (.int .i64 u)]] true true),(4112,.live 2 [.agg [.nil,.t (.int .i64 0)]] true true)]) ?_ (fun i hi=>?_)
   ·refine qJ.cv0 (hv:=[(9100,.live 1 [] true false)]) (ho:=[(8240,.live 2 [.agg [.nil,.t (.int .i64 u)]] true true),(4112,.live 2 [.agg [.nil,.t (.int .i64 0)]] true true)]) id ?_ ?_ rfl rfl;all_goals simp(disch:=omega)only[go_sem,id,mcn]
   ·have hm:=qNn m0 i;by_cases hlt:i<b0.length
    ·simp(disch:=omega)only[go_sem];refine⟨hlt,qJ.cv (hv:=[]) [40992] (fun j=>if j=9100 then 41024 else j) ?_ rfl⟩;simp(disch:=omega)only[go_sem,qDz (d:=[]) hlt];rfl
    ·have e:i=b0.length:=oM;subst e;simp(disch:=omega)only[go_sem];refine qJ.rd (fun j=>if j=9000 then 49216 else if j=9001 then 9100 else j) ?_ ?_ rfl;all_goals simp(disch:=omega)only[go_sem]
  ·simp(disch:=omega)only[go_sem];refine qB b1.length (fun i=>[(2,.ref 4112 0 0),(3,.ref 8240 0 0),(15,.t (.int .i64 1)),(13,.t (T.sl [T.sl (List.map bsT b0),T.sl (List.map bsT b1)])),(14,.t (.int .i64 2)),(6,.sl 9100 0 i),(21,.t (.int .i64 (i:Nat))),(19,.t (.sl (b1.map bsT))),(20,.t (.int .i64 b1.length))]) (fun i=>[(9100,.live 1 (((b1.take i).map bsT).map V.t) true false),(8240,.live 2 [.agg [.sl 9000 0 1,.t (.int .i64 u)]] true true),(9000,.live 1 [.sl 9001 0 b0.length] true false),(9001,.live 1 ((b0.map bsT).map V.t) true false),(4112,.live 2 [.agg [.nil,.t (.int .i64 0)]] true true)]) ?_ (fun i hi=>?_)
   ·refine qJ.cv0 (hv:=[(9100,.live 1 [] true false)]) (ho:=[(8240,.live 2 [.agg [.sl 9000 0 1,.t (.int .i64 u)]] true true),(9000,.live 1 [.sl 9001 0 b0.length] true false),(9001,.live 1 ((b0.map bsT).map V.t) true false),(4112,.live 2 [.agg [.nil,.t (.int .i64 0)]] true true)]) id ?_ ?_ rfl rfl;all_goals simp(disch:=omega)only[go_sem,id,mcn]
   ·have hm:=qNn m1 i;by_cases hlt:i<b1.length
    ·simp(disch:=omega)only[go_sem];refine⟨hlt,qJ.cv (hv:=[]) [40992] (fun j=>if j=9100 then 41024 else j) ?_ rfl⟩;simp(disch:=omega)only[go_sem,qDz (d:=[]) hlt];rfl
    ·have e:i=b1.length:=oM;subst e;simp(disch:=omega)only[go_sem];refine qJ.rd (fun j=>if j=9000 then 49216 else if j=9002 then 9100 else j) ?_ ?_ rfl;all_goals simp(disch:=omega)only[go_sem]
  ·simp(disch:=omega)only[go_sem]
theorem zCs (u:Int):qAa.1.wp tab gl (qF 0 [.t (zT [] u)]) (qF 0 []) (kU [] [(2,some (2,true))] 0 (fun r o=>r = .agg [.nil,.t (.int .i64 u)]∧o=[])):=by
 simp(disch:=omega)only[go_sem,qAa,List.map_nil];refine qG 1 ?_;simp(disch:=omega)only[go_sem,qD]
def qKz:Ct where
 α:=List UInt8
 aS x:=[.t (.sl (x.map qA))]
 ins _:=[]
 pre x:=x.length<1000000000
 r x:= .sl 0 0 x.length
 outs x:=[.live 1 ((x.map qA).map V.t) true false]
 inj:=by
  intro a b h _;simp[jB] at h;subst h;exact⟨rfl,rfl⟩
theorem jL {bs:List UInt8}(h:bs.length<1000000000):qKz.fs [.t (.sl (bs.map qA))] []=some (.sl 0 0 bs.length,[.live 1 ((bs.map qA).map V.t) true false]):=qKz.eq bs h
theorem zCt (h1:LkC tab 67 qKz)(b0 b1:qY)(u:Int)(m0:zPk b0)(m1:zPk b1):qAa.1.wp tab gl (qF 0 [.t (zT [b0,b1] u)]) (qF 0 []) (kU [] [(2,some (2,true))] 0 (fun r o=>r = .agg [.sl 0 0 2,.t (.int .i64 u)]∧o=[.live 1 [.sl 1 0 b0.length,.sl 2 0 b1.length] true false,.live 1 ((b0.map bsT).map V.t) true false,.live 1 ((b1.map bsT).map V.t) true false])):=by
 simp(disch:=omega)only[go_sem,qAa,mcn];have hl0:=m0.1;have hl1:=m1.1;refine qB 2 (fun k=>match k with | 0=>[(2,.ref 4112 0 0),(3,.ref 8240 0 0),(4,.t (.int .i64 0)),(1,.ref 4096 0 0)] | 1=>[(2,.ref 4112 0 0),(3,.ref 8240 0 0),(4,.t (.int .i64 1)),(1,.ref 4096 0 0)] | _=>[(2,.ref 4112 0 0),(3,.ref 8240 0 0),(4,.t (.int .i64 2)),(1,.ref 4096 0 0)]) (fun k=>match k with | 0=>[(8240,.live 2 [.agg [.nil,.t (.int .i64 u)]] true true),(4112,.live 2 [.agg [.nil,.t (.int .i64 0)]] true true),(4096,.live 2 [.t (.agg [T.sl [T.sl (List.map bsT b0),T.sl (List.map bsT b1)],.int .i64 u])] true true)] | 1=>[(8240,.live 2 [.agg [.sl 9000 0 1,.t (.int .i64 u)]] true true),(9000,.live 1 [.sl 9001 0 b0.length] true false),(9001,.live 1 ((b0.map bsT).map V.t) true false),(4112,.live 2 [.agg [.nil,.t (.int .i64 0)]] true true),(4096,.live 2 [.t (.agg [T.sl [T.sl (List.map bsT b0),T.sl (List.map bsT b1)],.int .i64 u])] true true)] | _=>[(8240,.live 2 [.agg [.sl 9000 0 2,.t (.int .i64 u)]] true true),(9000,.live 1 [.sl 9001 0 b0.length,.sl 9002 0 b1.length] true false),(9001,.live 1 ((b0.map bsT).map V.t) true false),(9002,.live 1 ((b1.map bsT).map V.t) true false),(4112,.live 2 [.agg [.nil,.t (.int .i64 0)]] true true),(4096,.live 2 [.t (.agg [T.sl [T.sl (List.map bsT b0),T.sl (List.map bsT b1)],.int .i64 u])] true true)]) ?_ (fun k hk=>?_)
 ·refine qJ.rd id ?_ ?_ rfl;all_goals simp(disch:=omega)only[go_sem,id]
 ·rcases (show k=0∨k=1∨k=2 by omega) with rfl | rfl | rfl
  ·simp(disch:=omega)only[go_sem,h1,jL];refine qB b0.length (fun i=>[(2,.ref 4112 0 0),(3,.ref 8240 0 0),(4,.t (.int .i64 0)),(1,.ref 4096 0 0),(5,.sl 9100 0 i),(6,.t (.int .i64 (i:Nat)))]) (fun i=>[(9100,.live 1 (((b0.take i).map bsT).map V.t) true false),(8240,.live 2 [.agg [.nil,.t (.int .i64 u)]] true true),(4112,.live 2 [.agg [.nil,.t (.int .i64 0)]] true true),(4096,.live 2 [.t (.agg [T.sl [T.sl (List.map bsT b0),T.sl (List.map bsT b1)],.int .i64 u])] true true)]) ?_ (fun i hi=>?_)
   ·refine qJ.cv0 (hv:=[(9100,.live 1 [] true false)]) (ho:=[(8240,.live 2 [.agg [.nil,.t (.int .i64 u)]] true true),(4112,.live 2 [.agg [.nil,.t (.int .i64 0)]] true true),(4096,.live 2 [.t (.agg [T.sl [T.sl (List.map bsT b0),T.sl (List.map bsT b1)],.int .i64 u])] true true)]) id ?_ ?_ rfl rfl;all_goals simp(disch:=omega)only[go_sem,id,mcn]
   ·have hm:=qNn m0 i;by_cases hlt:i<b0.length
    ·simp(disch:=omega)only[go_sem,h1,jL];refine⟨hlt,qJ.cv (hv:=[]) [41104] (fun j=>if j=9100 then 41136 else j) ?_ rfl⟩;simp(disch:=omega)only[go_sem,qDz (d:=[]) hlt];rfl
    ·have e:i=b0.length:=oM;subst e;simp(disch:=omega)only[go_sem,h1,jL];refine qJ.rd (fun j=>if j=9000 then 45120 else if j=9001 then 9100 else j) ?_ ?_ rfl;all_goals simp(disch:=omega)only[go_sem]
  ·simp(disch:=omega)only[go_sem,h1,jL];refine qB b1.length (fun i=>[(2,.ref 4112 0 0),(3,.ref 8240 0 0),(4,.t (.int .i64 1)),(1,.ref 4096 0 0),(5,.sl 9100 0 i),(6,.t (.int .i64 (i:Nat)))]) (fun i=>[(9100,.live 1 (((b1.take i).map bsT).map V.t) true false),(8240,.live 2 [.agg [.sl 9000 0 1,.t (.int .i64 u)]] true true),(9000,.live 1 [.sl 9001 0 b0.length] true false),(9001,.live 1 ((b0.map bsT).map V.t) true false),(4112,.live 2 [.agg [.nil,.t (.int .i64 0)]] true true),(4096,.live 2 [.t (.agg [T.sl [T.sl (List.map bsT b0),T.sl (List.map bsT b1)],.int .i64 u])] true true)]) ?_ (fun i hi=>?_)
   ·refine qJ.cv0 (hv:=[(9100,.live 1 [] true false)]) (ho:=[(8240,.live 2 [.agg [.sl 9000 0 1,.t (.int .i64 u)]] true true),(9000,.live 1 [.sl 9001 0 b0.length] true false),(9001,.live 1 ((b0.map bsT).map V.t) true false),(4112,.live 2 [.agg [.nil,.t (.int .i64 0)]] true true),(4096,.live 2 [.t (.agg [T.sl [T.sl (List.map bsT b0),T.sl (List.map bsT b1)],.int .i64 u])] true true)]) id ?_ ?_ rfl rfl;all_goals simp(disch:=omega)only[go_sem,id,mcn]
   ·have hm:=qNn m1 i;by_cases hlt:i<b1.length
    ·simp(disch:=omega)only[go_sem,h1,jL];refine⟨hlt,qJ.cv (hv:=[]) [41104] (fun j=>if j=9100 then 41136 else j) ?_ rfl⟩;simp(disch:=omega)only[go_sem,qDz (d:=[]) hlt];rfl
    ·have e:i=b1.length:=oM;subst e;simp(disch:=omega)only[go_sem,h1,jL];refine qJ.rd (fun j=>if j=9000 then 45120 else if j=9002 then 9100 else j) ?_ ?_ rfl;all_goals simp(disch:=omega)only[go_sem]
  ·simp(disch:=omega)only[go_sem,h1,jL]
def twR (bk:List qY)(u:Int):V:=match bk with
 | [_,_]=> .agg [.sl 0 0 2,.t (.int .i64 u)]
 | _=> .agg [.nil,.t (.int .i64 u)]
def twO (bk:List qY):List Ob:=match bk with
 | [b0,b1]=>[.live 1 [.sl 1 0 b0.length,.sl 2 0 b1.length] true false,.live 1 ((b0.map bsT).map V.t) true false,.live 1 ((b1.map bsT).map V.t) true false]
 | _=>[]
def RM (bk:List qY):Prop:=RK bk ∧ ∀ b∈bk,zPk b
def jF:Ct where
 α:=List qY×Int
 aS x:=[.t (zT x.1 x.2)]
 ins _:=[]
 pre x:=RM x.1
 r x:=twR x.1 x.2
 outs x:=twO x.1
 inj:=by
  rintro⟨a,u⟩ ⟨b,v⟩ h _;simp only[List.cons.injEq,V.t.injEq,and_true] at h;obtain⟨rfl,rfl⟩:=xN h;exact⟨rfl,rfl⟩
theorem qSd {u:Int}:jF.fs [.t (.agg [.sl [],.int .i64 u])] []=some (.agg [.nil,.t (.int .i64 u)],[]):=jF.eq ([],u) ⟨.nil,sM⟩
theorem qW {b0 b1:qY}{u:Int}(h:RM [b0,b1]):jF.fs [.t (.agg [.sl [.sl (b0.map bsT),.sl (b1.map bsT)],.int .i64 u])] [] =
  some (.agg [.sl 0 0 2,.t (.int .i64 u)],[.live 1 [.sl 1 0 b0.length,.sl 2 0 b1.length] true false,.live 1 ((b0.map bsT).map V.t) true false,.live 1 ((b1.map bsT).map V.t) true false]):=jF.eq ([b0,b1],u) h
def zR4 (i:Nat):UInt8:=if 12≤i then 255 else 0
theorem zBk {i:Nat}(h:i<12):zR4 i=0:=if_neg oM
theorem zBl {i:Nat}(h : ¬ i<12):zR4 i=255:=if_pos oM
def qA7 (a:Nat):qY:=(List.range 16).map fun i=>List.replicate (szA a) (zR4 i)
theorem wU {a i:Nat}(h:i<16):(qA7 a).take (i+1)=(qA7 a).take i++[List.replicate (szA a) (zR4 i)]:=by
 rw[qDz (d:=[]) (by simp[qA7];omega)];congr 2;simp[qA7,List.getD,h]
theorem qEe {a:Nat}:(qA7 a).take 16=qA7 a:=List.take_of_length_le (by simp[qA7])
theorem qM {a:Nat}:List.length (qA7 a)=16:=by simp[qA7]
def yJ (s:Int):List qY:=if s%4=0 then [] else [if s%2=1 then qA7 0 else [],if s/2%2=1 then qA7 1 else []]
theorem qCx {s:Int}(h : ¬ s%4=0):yJ s=[if s%2=1 then qA7 0 else [],if s/2%2=1 then qA7 1 else []]:=if_neg h
def kD:Ct where
 α:=Int
 aS x:=[.t (.int .i64 x)]
 ins _:=[]
 pre _:=True
 r x:= .t (.int .i64 (if x=0 then 20 else if x=1 then 32 else 0))
 outs _:=[]
 inj:=by
  intro a b h _;simp at h;subst h;exact⟨rfl,rfl⟩
theorem qK:kD.fs [.t (.int .i64 0)] []=some (.t (.int .i64 20),[]):=kD.eq (0:Int) trivial
theorem qL:kD.fs [.t (.int .i64 1)] []=some (.t (.int .i64 32),[]):=kD.eq (1:Int) trivial
def wG:Ct where
 α:=Nat×UInt8
 aS x:=[.t (.int .i64 x.1),.t (qA x.2)]
 ins _:=[]
 pre x:=x.1=20∨x.1=32
 r x:= .sl 0 0 x.1
 outs x:=[.live 1 (((List.replicate x.1 x.2).map qA).map V.t) true false]
 inj:=by
  rintro⟨a,b⟩ ⟨c,d⟩ h _;simp[qM2,Int.natCast_inj] at h;obtain⟨rfl,rfl⟩:=h;exact⟨rfl,rfl⟩
theorem zF {x:UInt8}:wG.fs [.t (.int .i64 20),.t (qA x)] []=some (.sl 0 0 20,[.live 1 (((List.replicate 20 x).map qA).map V.t) true false]):=wG.eq (20,x) (.inl rfl)
theorem zG {x:UInt8}:wG.fs [.t (.int .i64 32),.t (qA x)] []=some (.sl 0 0 32,[.live 1 (((List.replicate 32 x).map qA).map V.t) true false]):=wG.eq (32,x) (.inr rfl)
theorem qWb (h1:LkC tab 58 kD)(h2:LkC tab 57 wG)(a:Nat)(ha:a<2)(i:Nat):qDi.1.wp tab gl (qF 0 [.t (.int .i64 a),.t (.int .i64 i)]) (qF 0 []) (kU [] [(4,none)] 0 (fun r o=>r = .sl 0 0 (szA a)∧o=[.live 1 (((List.replicate (szA a) (zR4 i)).map qA).map V.t) true false])):=by
 rcases (show a=0∨a=1 by omega) with rfl | rfl<;>by_cases hi:i<12;all_goals simp(disch:=omega)only[go_sem,qDi,h1,h2,qK,qL,zF,zG,szA]
 all_goals first | rw[zBk hi] | rw[zBl hi]
def qGe:Ct where
 α:=Nat×Nat
 aS x:=[.t (.int .i64 x.1),.t (.int .i64 x.2)]
 ins _:=[]
 pre x:=x.1<2
 r x:= .sl 0 0 (szA x.1)
 outs x:=[.live 1 (((List.replicate (szA x.1) (zR4 x.2)).map qA).map V.t) true false]
 inj:=by
  rintro⟨a,b⟩ ⟨c,d⟩ h _;simp[Int.natCast_inj] at h;obtain⟨rfl,rfl⟩:=h;exact⟨rfl,rfl⟩
theorem yT {i:Nat}:qGe.fs [.t (.int .i64 0),.t (.int .i64 i)] []=some (.sl 0 0 20,[.live 1 (((List.replicate 20 (zR4 i)).map qA).map V.t) true false]):=qGe.eq (0,i) (by simp[qGe])
theorem yU {i:Nat}:qGe.fs [.t (.int .i64 1),.t (.int .i64 i)] []=some (.sl 0 0 32,[.live 1 (((List.replicate 32 (zR4 i)).map qA).map V.t) true false]):=qGe.eq (1,i) (by simp[qGe])
theorem qRi (s:Int)(h3:s%4=0):jH.1.wp tab gl (qF 0 [.t (.int .i64 s)]) (qF 0 []) (kU [] [(2,some (2,true))] 0 (fun r o=>r = .agg [.nil,.t (.int .i64 0)]∧o=[])):=by
 simp(disch:=omega)only[go_sem,jH,h3]
theorem zFs (s:Int)(h3:s%4=0):wO.1.wp tab gl (qF 0 [.t (.int .i64 s)]) (qF 0 []) (kU [] [(2,some (2,true))] 0 (fun r o=>r = .agg [.nil,.t (.int .i64 0)]∧o=[])):=by
 simp(disch:=omega)only[go_sem,wO,h3]
theorem qU0 (h1:LkC tab 175 kD)(h2:LkC tab 239 wG)(s:Int)(h3 : ¬ s%4=0):jH.1.wp tab gl (qF 0 [.t (.int .i64 s)]) (qF 0 []) (kU [] [(2,some (2,true))] 0 (fun r o=>r=twR (yJ s) 0∧o=twO (yJ s))):=by
 have h4:(s%4==0)=false:=by simpa using h3
 have hf1:s.fdiv 1=s:=Int.fdiv_one s;have hf2:s.fdiv 2=s/2:=Int.fdiv_eq_ediv_of_nonneg s oM;have hc0:s%2=0∨s%2=1:=oM;have hc1:s/2%2=0∨s/2%2=1:=oM;rcases hc0 with c0 | c0<;>rcases hc1 with c1 | c1
 ·exact absurd oM h3
 ·rw[qCx h3,if_neg oM,if_pos oM];simp(disch:=omega)only[go_sem,jH,h4,hf1,hf2];refine qB 2 (fun k=>match k with | 0=>[(0,.t (.int .i64 s)),(2,.ref 4096 0 0),(3,.ref 16384 0 0),(12,.t (.int .i64 0))] | 1=>[(0,.t (.int .i64 s)),(2,.ref 4096 0 0),(3,.ref 16384 0 0),(12,.t (.int .i64 1))] | _=>[(0,.t (.int .i64 s)),(2,.ref 4096 0 0),(3,.ref 16384 0 0),(12,.t (.int .i64 2))]) (fun k=>match k with | 0=>[(16384,.live 2 [.agg [.nil,.t (.int .i64 0)]] true true),(4096,.live 2 [.agg [.nil,.t (.int .i64 0)]] true true)] | 1=>[(16384,.live 2 [.agg [.sl 9000 0 1,.t (.int .i64 0)]] true true),(9000,.live 1 [.sl 9001 0 0] true false),(9001,.live 1 ((([]:qY).map bsT).map V.t) true false),(4096,.live 2 [.agg [.nil,.t (.int .i64 0)]] true true)] | _=>[(16384,.live 2 [.agg [.sl 9000 0 2,.t (.int .i64 0)]] true true),(9000,.live 1 [.sl 9001 0 0,.sl 9002 0 16] true false),(9001,.live 1 ((([]:qY).map bsT).map V.t) true false),(9002,.live 1 (((qA7 1:qY).map bsT).map V.t) true false),(4096,.live 2 [.agg [.nil,.t (.int .i64 0)]] true true)]) ?_ (fun k hk=>?_)
  ·refine qJ.rd id ?_ ?_ rfl;all_goals simp(disch:=omega)only[go_sem,id]
  ·rcases (show k=0∨k=1∨k=2 by omega) with rfl | rfl | rfl
   ·simp(disch:=omega)only[go_sem,c0,c1,qM,h1,h2,qK,qL,zF,zG,hf1,hf2];refine qG 1 ?_;simp(disch:=omega)only[go_sem,qD,c0,c1,qM,h1,h2,qK,qL,zF,zG,hf1,hf2];refine qJ.trans (fs':=[(0,.t (.int .i64 s)),(2,.ref 4096 0 0),(3,.ref 16384 0 0),(12,.t (.int .i64 1))]) (qJ.cv0 (hv:=[(9001,.live 1 [] true false)]) (ho:=[(16384,.live 2 [.agg [.sl 9000 0 1,.t (.int .i64 0)]] true true),(9000,.live 1 [.sl 9001 0 0] true false),(4096,.live 2 [.agg [.nil,.t (.int .i64 0)]] true true)]) (fun j=>if j=9000 then 65600 else j) ?_ ?_ rfl rfl) (qJ.rd id ?_ ?_ rfl);all_goals simp(disch:=omega)only[go_sem,mcn,id]
   ·simp(disch:=omega)only[go_sem,c0,c1,qM,h1,h2,qK,qL,zF,zG,hf1,hf2];refine qB 16 (fun i=>[(0,.t (.int .i64 s)),(2,.ref 4096 0 0),(3,.ref 16384 0 0),(12,.t (.int .i64 1)),(4,.t (.int .i64 1)),(5,.sl 9100 0 i),(6,.t (.int .i64 (i:Nat)))]) (fun i=>[(9100,.live 1 ((((qA7 1).take i).map bsT).map V.t) true false),(16384,.live 2 [.agg [.sl 9000 0 1,.t (.int .i64 0)]] true true),(9000,.live 1 [.sl 9001 0 0] true false),(9001,.live 1 ((([]:qY).map bsT).map V.t) true false),(4096,.live 2 [.agg [.nil,.t (.int .i64 0)]] true true)]) ?_ (fun i hi=>?_)
    ·refine qJ.cv0 (hv:=[(9100,.live 1 [] true false)]) (ho:=[(16384,.live 2 [.agg [.sl 9000 0 1,.t (.int .i64 0)]] true true),(9000,.live 1 [.sl 9001 0 0] true false),(9001,.live 1 ((([]:qY).map bsT).map V.t) true false),(4096,.live 2 [.agg [.nil,.t (.int .i64 0)]] true true)]) id ?_ ?_ rfl rfl;all_goals simp(disch:=omega)only[go_sem,mcn,id]
    ·by_cases hlt:i<16
     ·by_cases h12:i<12
      ·simp(disch:=omega)only[go_sem,c0,c1,qM,h1,h2,qK,qL,zF,zG,hf1,hf2];refine⟨hlt,qJ.cv (hv:=[]) [61504] (fun j=>if j=9100 then 61536 else j) ?_ rfl⟩;simp(disch:=omega)only[go_sem,wU hlt,szA,List.take_replicate,Nat.min_self,zBk h12];rfl
      ·simp(disch:=omega)only[go_sem,c0,c1,qM,h1,h2,qK,qL,zF,zG,hf1,hf2];refine⟨hlt,qJ.cv (hv:=[]) [61504] (fun j=>if j=9100 then 61536 else j) ?_ rfl⟩;simp(disch:=omega)only[go_sem,wU hlt,szA,List.take_replicate,Nat.min_self,zBl h12];rfl
     ·have e:i=16:=oM;subst e;simp(disch:=omega)only[go_sem,c0,c1,qM,h1,h2,qK,qL,zF,zG,hf1,hf2];refine qJ.rd (fun j=>if j=9000 then 65600 else if j=9002 then 9100 else j) ?_ ?_ rfl;all_goals simp(disch:=omega)only[go_sem,qEe]
   ·simp(disch:=omega)only[go_sem,c0,c1,qM,h1,h2,qK,qL,zF,zG,hf1,hf2];exact⟨rfl,rfl⟩
 ·rw[qCx h3,if_pos oM,if_neg oM];simp(disch:=omega)only[go_sem,jH,h4,hf1,hf2];refine qB 2 (fun k=>match k with | 0=>[(0,.t (.int .i64 s)),(2,.ref 4096 0 0),(3,.ref 16384 0 0),(12,.t (.int .i64 0))] | 1=>[(0,.t (.int .i64 s)),(2,.ref 4096 0 0),(3,.ref 16384 0 0),(12,.t (.int .i64 1))] | _=>[(0,.t (.int .i64 s)),(2,.ref 4096 0 0),(3,.ref 16384 0 0),(12,.t (.int .i64 2))]) (fun k=>match k with | 0=>[(16384,.live 2 [.agg [.nil,.t (.int .i64 0)]] true true),(4096,.live 2 [.agg [.nil,.t (.int .i64 0)]] true true)] | 1=>[(16384,.live 2 [.agg [.sl 9000 0 1,.t (.int .i64 0)]] true true),(9000,.live 1 [.sl 9001 0 16] true false),(9001,.live 1 (((qA7 0:qY).map bsT).map V.t) true false),(4096,.live 2 [.agg [.nil,.t (.int .i64 0)]] true true)] | _=>[(16384,.live 2 [.agg [.sl 9000 0 2,.t (.int .i64 0)]] true true),(9000,.live 1 [.sl 9001 0 16,.sl 9002 0 0] true false),(9001,.live 1 (((qA7 0:qY).map bsT).map V.t) true false),(9002,.live 1 ((([]:qY).map bsT).map V.t) true false),(4096,.live 2 [.agg [.nil,.t (.int .i64 0)]] true true)]) ?_ (fun k hk=>?_)
  ·refine qJ.rd id ?_ ?_ rfl;all_goals simp(disch:=omega)only[go_sem,id]
  ·rcases (show k=0∨k=1∨k=2 by omega) with rfl | rfl | rfl
   ·simp(disch:=omega)only[go_sem,c0,c1,qM,h1,h2,qK,qL,zF,zG,hf1,hf2];refine qB 16 (fun i=>[(0,.t (.int .i64 s)),(2,.ref 4096 0 0),(3,.ref 16384 0 0),(12,.t (.int .i64 0)),(4,.t (.int .i64 0)),(5,.sl 9100 0 i),(6,.t (.int .i64 (i:Nat)))]) (fun i=>[(9100,.live 1 ((((qA7 0).take i).map bsT).map V.t) true false),(16384,.live 2 [.agg [.nil,.t (.int .i64 0)]] true true),(4096,.live 2 [.agg [.nil,.t (.int .i64 0)]] true true)]) ?_ (fun i hi=>?_)
    ·refine qJ.cv0 (hv:=[(9100,.live 1 [] true false)]) (ho:=[(16384,.live 2 [.agg [.nil,.t (.int .i64 0)]] true true),(4096,.live 2 [.agg [.nil,.t (.int .i64 0)]] true true)]) id ?_ ?_ rfl rfl;all_goals simp(disch:=omega)only[go_sem,mcn,id]
    ·by_cases hlt:i<16
     ·by_cases h12:i<12
      ·simp(disch:=omega)only[go_sem,c0,c1,qM,h1,h2,qK,qL,zF,zG,hf1,hf2];refine⟨hlt,qJ.cv (hv:=[]) [61504] (fun j=>if j=9100 then 61536 else j) ?_ rfl⟩;simp(disch:=omega)only[go_sem,wU hlt,szA,List.take_replicate,Nat.min_self,zBk h12];rfl
      ·simp(disch:=omega)only[go_sem,c0,c1,qM,h1,h2,qK,qL,zF,zG,hf1,hf2];refine⟨hlt,qJ.cv (hv:=[]) [61504] (fun j=>if j=9100 then 61536 else j) ?_ rfl⟩;simp(disch:=omega)only[go_sem,wU hlt,szA,List.take_replicate,Nat.min_self,zBl h12];rfl
     ·have e:i=16:=oM;subst e;simp(disch:=omega)only[go_sem,c0,c1,qM,h1,h2,qK,qL,zF,zG,hf1,hf2];refine qJ.rd (fun j=>if j=9000 then 65600 else if j=9001 then 9100 else j) ?_ ?_ rfl;all_goals simp(disch:=omega)only[go_sem,qEe]
   ·simp(disch:=omega)only[go_sem,c0,c1,qM,h1,h2,qK,qL,zF,zG,hf1,hf2];refine qG 1 ?_;simp(disch:=omega)only[go_sem,qD,c0,c1,qM,h1,h2,qK,qL,zF,zG,hf1,hf2];refine qJ.trans (fs':=[(0,.t (.int .i64 s)),(2,.ref 4096 0 0),(3,.ref 16384 0 0),(12,.t (.int .i64 2))]) (qJ.cv0 (hv:=[(9002,.live 1 [] true false)]) (ho:=[(16384,.live 2 [.agg [.sl 9000 0 2,.t (.int .i64 0)]] true true),(9000,.live 1 [.sl 9001 0 16,.sl 9002 0 0] true false),(9001,.live 1 (((qA7 0:qY).map bsT).map V.t) true false),(4096,.live 2 [.agg [.nil,.t (.int .i64 0)]] true true)]) (fun j=>if j=9000 then 65600 else j) ?_ ?_ rfl rfl) (qJ.rd id ?_ ?_ rfl);all_goals simp(disch:=omega)only[go_sem,mcn,id]
   ·simp(disch:=omega)only[go_sem,c0,c1,qM,h1,h2,qK,qL,zF,zG,hf1,hf2];exact⟨rfl,rfl⟩
 ·rw[qCx h3,if_pos oM,if_pos oM];simp(disch:=omega)only[go_sem,jH,h4,hf1,hf2];refine qB 2 (fun k=>match k with | 0=>[(0,.t (.int .i64 s)),(2,.ref 4096 0 0),(3,.ref 16384 0 0),(12,.t (.int .i64 0))] | 1=>[(0,.t (.int .i64 s)),(2,.ref 4096 0 0),(3,.ref 16384 0 0),(12,.t (.int .i64 1))] | _=>[(0,.t (.int .i64 s)),(2,.ref 4096 0 0),(3,.ref 16384 0 0),(12,.t (.int .i64 2))]) (fun k=>match k with | 0=>[(16384,.live 2 [.agg [.nil,.t (.int .i64 0)]] true true),(4096,.live 2 [.agg [.nil,.t (.int .i64 0)]] true true)] | 1=>[(16384,.live 2 [.agg [.sl 9000 0 1,.t (.int .i64 0)]] true true),(9000,.live 1 [.sl 9001 0 16] true false),(9001,.live 1 (((qA7 0:qY).map bsT).map V.t) true false),(4096,.live 2 [.agg [.nil,.t (.int .i64 0)]] true true)] | _=>[(16384,.live 2 [.agg [.sl 9000 0 2,.t (.int .i64 0)]] true true),(9000,.live 1 [.sl 9001 0 16,.sl 9002 0 16] true false),(9001,.live 1 (((qA7 0:qY).map bsT).map V.t) true false),(9002,.live 1 (((qA7 1:qY).map bsT).map V.t) true false),(4096,.live 2 [.agg [.nil,.t (.int .i64 0)]] true true)]) ?_ (fun k hk=>?_)
  ·refine qJ.rd id ?_ ?_ rfl;all_goals simp(disch:=omega)only[go_sem,id]
  ·rcases (show k=0∨k=1∨k=2 by omega) with rfl | rfl | rfl
   ·simp(disch:=omega)only[go_sem,c0,c1,qM,h1,h2,qK,qL,zF,zG,hf1,hf2];refine qB 16 (fun i=>[(0,.t (.int .i64 s)),(2,.ref 4096 0 0),(3,.ref 16384 0 0),(12,.t (.int .i64 0)),(4,.t (.int .i64 0)),(5,.sl 9100 0 i),(6,.t (.int .i64 (i:Nat)))]) (fun i=>[(9100,.live 1 ((((qA7 0).take i).map bsT).map V.t) true false),(16384,.live 2 [.agg [.nil,.t (.int .i64 0)]] true true),(4096,.live 2 [.agg [.nil,.t (.int .i64 0)]] true true)]) ?_ (fun i hi=>?_)
    ·refine qJ.cv0 (hv:=[(9100,.live 1 [] true false)]) (ho:=[(16384,.live 2 [.agg [.nil,.t (.int .i64 0)]] true true),(4096,.live 2 [.agg [.nil,.t (.int .i64 0)]] true true)]) id ?_ ?_ rfl rfl;all_goals simp(disch:=omega)only[go_sem,mcn,id]
    ·by_cases hlt:i<16
     ·by_cases h12:i<12
      ·simp(disch:=omega)only[go_sem,c0,c1,qM,h1,h2,qK,qL,zF,zG,hf1,hf2];refine⟨hlt,qJ.cv (hv:=[]) [61504] (fun j=>if j=9100 then 61536 else j) ?_ rfl⟩;simp(disch:=omega)only[go_sem,wU hlt,szA,List.take_replicate,Nat.min_self,zBk h12];rfl
      ·simp(disch:=omega)only[go_sem,c0,c1,qM,h1,h2,qK,qL,zF,zG,hf1,hf2];refine⟨hlt,qJ.cv (hv:=[]) [61504] (fun j=>if j=9100 then 61536 else j) ?_ rfl⟩;simp(disch:=omega)only[go_sem,wU hlt,szA,List.take_replicate,Nat.min_self,zBl h12];rfl
     ·have e:i=16:=oM;subst e;simp(disch:=omega)only[go_sem,c0,c1,qM,h1,h2,qK,qL,zF,zG,hf1,hf2];refine qJ.rd (fun j=>if j=9000 then 65600 else if j=9001 then 9100 else j) ?_ ?_ rfl;all_goals simp(disch:=omega)only[go_sem,qEe]
   ·simp(disch:=omega)only[go_sem,c0,c1,qM,h1,h2,qK,qL,zF,zG,hf1,hf2];refine qB 16 (fun i=>[(0,.t (.int .i64 s)),(2,.ref 4096 0 0),(3,.ref 16384 0 0),(12,.t (.int .i64 1)),(4,.t (.int .i64 1)),(5,.sl 9100 0 i),(6,.t (.int .i64 (i:Nat)))]) (fun i=>[(9100,.live 1 ((((qA7 1).take i).map bsT).map V.t) true false),(16384,.live 2 [.agg [.sl 9000 0 1,.t (.int .i64 0)]] true true),(9000,.live 1 [.sl 9001 0 16] true false),(9001,.live 1 (((qA7 0:qY).map bsT).map V.t) true false),(4096,.live 2 [.agg [.nil,.t (.int .i64 0)]] true true)]) ?_ (fun i hi=>?_)
    ·refine qJ.cv0 (hv:=[(9100,.live 1 [] true false)]) (ho:=[(16384,.live 2 [.agg [.sl 9000 0 1,.t (.int .i64 0)]] true true),(9000,.live 1 [.sl 9001 0 16] true false),(9001,.live 1 (((qA7 0:qY).map bsT).map V.t) true false),(4096,.live 2 [.agg [.nil,.t (.int .i64 0)]] true true)]) id ?_ ?_ rfl rfl;all_goals simp(disch:=omega)only[go_sem,mcn,id]
    ·by_cases hlt:i<16
     ·by_cases h12:i<12
      ·simp(disch:=omega)only[go_sem,c0,c1,qM,h1,h2,qK,qL,zF,zG,hf1,hf2];refine⟨hlt,qJ.cv (hv:=[]) [61504] (fun j=>if j=9100 then 61536 else j) ?_ rfl⟩;simp(disch:=omega)only[go_sem,wU hlt,szA,List.take_replicate,Nat.min_self,zBk h12];rfl
      ·simp(disch:=omega)only[go_sem,c0,c1,qM,h1,h2,qK,qL,zF,zG,hf1,hf2];refine⟨hlt,qJ.cv (hv:=[]) [61504] (fun j=>if j=9100 then 61536 else j) ?_ rfl⟩;simp(disch:=omega)only[go_sem,wU hlt,szA,List.take_replicate,Nat.min_self,zBl h12];rfl
     ·have e:i=16:=oM;subst e;simp(disch:=omega)only[go_sem,c0,c1,qM,h1,h2,qK,qL,zF,zG,hf1,hf2];refine qJ.rd (fun j=>if j=9000 then 65600 else if j=9002 then 9100 else j) ?_ ?_ rfl;all_goals simp(disch:=omega)only[go_sem,qEe]
   ·simp(disch:=omega)only[go_sem,c0,c1,qM,h1,h2,qK,qL,zF,zG,hf1,hf2];exact⟨rfl,rfl⟩
theorem zJ4 (h1:LkC tab 33 qGe)(s:Int)(h3 : ¬ s%4=0):wO.1.wp tab gl (qF 0 [.t (.int .i64 s)]) (qF 0 []) (kU [] [(2,some (2,true))] 0 (fun r o=>r=twR (yJ s) 0∧o=twO (yJ s))):=by
 have h4:(s%4==0)=false:=by simpa using h3
 have hf1:s.fdiv 1=s:=Int.fdiv_one s;have hf2:s.fdiv 2=s/2:=Int.fdiv_eq_ediv_of_nonneg s oM;have hc0:s%2=0∨s%2=1:=oM;have hc1:s/2%2=0∨s/2%2=1:=oM;rcases hc0 with c0 | c0<;>rcases hc1 with c1 | c1
 ·exact absurd oM h3
 ·rw[qCx h3,if_neg oM,if_pos oM];simp(disch:=omega)only[go_sem,wO,h4,hf1,hf2];refine qB 2 (fun k=>match k with | 0=>[(0,.t (.int .i64 s)),(2,.ref 4096 0 0),(3,.ref 8208 0 0),(4,.t (.int .i64 0))] | 1=>[(0,.t (.int .i64 s)),(2,.ref 4096 0 0),(3,.ref 8208 0 0),(4,.t (.int .i64 1))] | _=>[(0,.t (.int .i64 s)),(2,.ref 4096 0 0),(3,.ref 8208 0 0),(4,.t (.int .i64 2))]) (fun k=>match k with | 0=>[(8208,.live 2 [.agg [.nil,.t (.int .i64 0)]] true true),(4096,.live 2 [.agg [.nil,.t (.int .i64 0)]] true true)] | 1=>[(8208,.live 2 [.agg [.sl 9000 0 1,.t (.int .i64 0)]] true true),(9000,.live 1 [.sl 9001 0 0] true false),(9001,.live 1 ((([]:qY).map bsT).map V.t) true false),(4096,.live 2 [.agg [.nil,.t (.int .i64 0)]] true true)] | _=>[(8208,.live 2 [.agg [.sl 9000 0 2,.t (.int .i64 0)]] true true),(9000,.live 1 [.sl 9001 0 0,.sl 9002 0 16] true false),(9001,.live 1 ((([]:qY).map bsT).map V.t) true false),(9002,.live 1 (((qA7 1:qY).map bsT).map V.t) true false),(4096,.live 2 [.agg [.nil,.t (.int .i64 0)]] true true)]) ?_ (fun k hk=>?_)
  ·refine qJ.rd id ?_ ?_ rfl;all_goals simp(disch:=omega)only[go_sem,id]
  ·rcases (show k=0∨k=1∨k=2 by omega) with rfl | rfl | rfl
   ·simp(disch:=omega)only[go_sem,c0,c1,qM,h1,yT,yU,hf1,hf2];refine qG 1 ?_;simp(disch:=omega)only[go_sem,qD,c0,c1,qM,h1,yT,yU,hf1,hf2];refine qJ.trans (fs':=[(0,.t (.int .i64 s)),(2,.ref 4096 0 0),(3,.ref 8208 0 0),(4,.t (.int .i64 1))]) (qJ.cv0 (hv:=[(9001,.live 1 [] true false)]) (ho:=[(8208,.live 2 [.agg [.sl 9000 0 1,.t (.int .i64 0)]] true true),(9000,.live 1 [.sl 9001 0 0] true false),(4096,.live 2 [.agg [.nil,.t (.int .i64 0)]] true true)]) (fun j=>if j=9000 then 53312 else j) ?_ ?_ rfl rfl) (qJ.rd id ?_ ?_ rfl);all_goals simp(disch:=omega)only[go_sem,mcn,id]
   ·simp(disch:=omega)only[go_sem,c0,c1,qM,h1,yT,yU,hf1,hf2];refine qB 16 (fun i=>[(0,.t (.int .i64 s)),(2,.ref 4096 0 0),(3,.ref 8208 0 0),(4,.t (.int .i64 1)),(5,.sl 9100 0 i),(6,.t (.int .i64 (i:Nat)))]) (fun i=>[(9100,.live 1 ((((qA7 1).take i).map bsT).map V.t) true false),(8208,.live 2 [.agg [.sl 9000 0 1,.t (.int .i64 0)]] true true),(9000,.live 1 [.sl 9001 0 0] true false),(9001,.live 1 ((([]:qY).map bsT).map V.t) true false),(4096,.live 2 [.agg [.nil,.t (.int .i64 0)]] true true)]) ?_ (fun i hi=>?_)
    ·refine qJ.cv0 (hv:=[(9100,.live 1 [] true false)]) (ho:=[(8208,.live 2 [.agg [.sl 9000 0 1,.t (.int .i64 0)]] true true),(9000,.live 1 [.sl 9001 0 0] true false),(9001,.live 1 ((([]:qY).map bsT).map V.t) true false),(4096,.live 2 [.agg [.nil,.t (.int .i64 0)]] true true)]) id ?_ ?_ rfl rfl;all_goals simp(disch:=omega)only[go_sem,mcn,id]
    ·by_cases hlt:i<16
     ·simp(disch:=omega)only[go_sem,c0,c1,qM,h1,yT,yU,hf1,hf2];refine⟨hlt,qJ.cv (hv:=[]) [49200] (fun j=>if j=9100 then 49232 else j) ?_ rfl⟩;simp(disch:=omega)only[go_sem,wU hlt,szA,List.take_replicate,Nat.min_self];rfl
     ·have e:i=16:=oM;subst e;simp(disch:=omega)only[go_sem,c0,c1,qM,h1,yT,yU,hf1,hf2];refine qJ.rd (fun j=>if j=9000 then 53312 else if j=9002 then 9100 else j) ?_ ?_ rfl;all_goals simp(disch:=omega)only[go_sem,qEe]
   ·simp(disch:=omega)only[go_sem,c0,c1,qM,h1,yT,yU,hf1,hf2];exact⟨rfl,rfl⟩
 ·rw[qCx h3,if_pos oM,if_neg oM];simp(disch:=omega)only[go_sem,wO,h4,hf1,hf2];refine qB 2 (fun k=>match k with | 0=>[(0,.t (.int .i64 s)),(2,.ref 4096 0 0),(3,.ref 8208 0 0),(4,.t (.int .i64 0))] | 1=>[(0,.t (.int .i64 s)),(2,.ref 4096 0 0),(3,.ref 8208 0 0),(4,.t (.int .i64 1))] | _=>[(0,.t (.int .i64 s)),(2,.ref 4096 0 0),(3,.ref 8208 0 0),(4,.t (.int .i64 2))]) (fun k=>match k with | 0=>[(8208,.live 2 [.agg [.nil,.t (.int .i64 0)]] true true),(4096,.live 2 [.agg [.nil,.t (.int .i64 0)]] true true)] | 1=>[(8208,.live 2 [.agg [.sl 9000 0 1,.t (.int .i64 0)]] true true),(9000,.live 1 [.sl 9001 0 16] true false),(9001,.live 1 (((qA7 0:qY).map bsT).map V.t) true false),(4096,.live 2 [.agg [.nil,.t (.int .i64 0)]] true true)] | _=>[(8208,.live 2 [.agg [.sl 9000 0 2,.t (.int .i64 0)]] true true),(9000,.live 1 [.sl 9001 0 16,.sl 9002 0 0] true false),(9001,.live 1 (((qA7 0:qY).map bsT).map V.t) true false),(9002,.live 1 ((([]:qY).map bsT).map V.t) true false),(4096,.live 2 [.agg [.nil,.t (.int .i64 0)]] true true)]) ?_ (fun k hk=>?_)
  ·refine qJ.rd id ?_ ?_ rfl;all_goals simp(disch:=omega)only[go_sem,id]
  ·rcases (show k=0∨k=1∨k=2 by omega) with rfl | rfl | rfl
   ·simp(disch:=omega)only[go_sem,c0,c1,qM,h1,yT,yU,hf1,hf2];refine qB 16 (fun i=>[(0,.t (.int .i64 s)),(2,.ref 4096 0 0),(3,.ref 8208 0 0),(4,.t (.int .i64 0)),(5,.sl 9100 0 i),(6,.t (.int .i64 (i:Nat)))]) (fun i=>[(9100,.live 1 ((((qA7 0).take i).map bsT).map V.t) true false),(8208,.live 2 [.agg [.nil,.t (.int .i64 0)]] true true),(4096,.live 2 [.agg [.nil,.t (.int .i64 0)]] true true)]) ?_ (fun i hi=>?_)
    ·refine qJ.cv0 (hv:=[(9100,.live 1 [] true false)]) (ho:=[(8208,.live 2 [.agg [.nil,.t (.int .i64 0)]] true true),(4096,.live 2 [.agg [.nil,.t (.int .i64 0)]] true true)]) id ?_ ?_ rfl rfl;all_goals simp(disch:=omega)only[go_sem,mcn,id]
    ·by_cases hlt:i<16
     ·simp(disch:=omega)only[go_sem,c0,c1,qM,h1,yT,yU,hf1,hf2];refine⟨hlt,qJ.cv (hv:=[]) [49200] (fun j=>if j=9100 then 49232 else j) ?_ rfl⟩;simp(disch:=omega)only[go_sem,wU hlt,szA,List.take_replicate,Nat.min_self];rfl
     ·have e:i=16:=oM;subst e;simp(disch:=omega)only[go_sem,c0,c1,qM,h1,yT,yU,hf1,hf2];refine qJ.rd (fun j=>if j=9000 then 53312 else if j=9001 then 9100 else j) ?_ ?_ rfl;all_goals simp(disch:=omega)only[go_sem,qEe]
   ·simp(disch:=omega)only[go_sem,c0,c1,qM,h1,yT,yU,hf1,hf2];refine qG 1 ?_;simp(disch:=omega)only[go_sem,qD,c0,c1,qM,h1,yT,yU,hf1,hf2];refine qJ.trans (fs':=[(0,.t (.int .i64 s)),(2,.ref 4096 0 0),(3,.ref 8208 0 0),(4,.t (.int .i64 2))]) (qJ.cv0 (hv:=[(9002,.live 1 [] true false)]) (ho:=[(8208,.live 2 [.agg [.sl 9000 0 2,.t (.int .i64 0)]] true true),(9000,.live 1 [.sl 9001 0 16,.sl 9002 0 0] true false),(9001,.live 1 (((qA7 0:qY).map bsT).map V.t) true false),(4096,.live 2 [.agg [.nil,.t (.int .i64 0)]] true true)]) (fun j=>if j=9000 then 53312 else j) ?_ ?_ rfl rfl) (qJ.rd id ?_ ?_ rfl);all_goals simp(disch:=omega)only[go_sem,mcn,id]
   ·simp(disch:=omega)only[go_sem,c0,c1,qM,h1,yT,yU,hf1,hf2];exact⟨rfl,rfl⟩
 ·rw[qCx h3,if_pos oM,if_pos oM];simp(disch:=omega)only[go_sem,wO,h4,hf1,hf2];refine qB 2 (fun k=>match k with | 0=>[(0,.t (.int .i64 s)),(2,.ref 4096 0 0),(3,.ref 8208 0 0),(4,.t (.int .i64 0))] | 1=>[(0,.t (.int .i64 s)),(2,.ref 4096 0 0),(3,.ref 8208 0 0),(4,.t (.int .i64 1))] | _=>[(0,.t (.int .i64 s)),(2,.ref 4096 0 0),(3,.ref 8208 0 0),(4,.t (.int .i64 2))]) (fun k=>match k with | 0=>[(8208,.live 2 [.agg [.nil,.t (.int .i64 0)]] true true),(4096,.live 2 [.agg [.nil,.t (.int .i64 0)]] true true)] | 1=>[(8208,.live 2 [.agg [.sl 9000 0 1,.t (.int .i64 0)]] true true),(9000,.live 1 [.sl 9001 0 16] true false),(9001,.live 1 (((qA7 0:qY).map bsT).map V.t) true false),(4096,.live 2 [.agg [.nil,.t (.int .i64 0)]] true true)] | _=>[(8208,.live 2 [.agg [.sl 9000 0 2,.t (.int .i64 0)]] true true),(9000,.live 1 [.sl 9001 0 16,.sl 9002 0 16] true false),(9001,.live 1 (((qA7 0:qY).map bsT).map V.t) true false),(9002,.live 1 (((qA7 1:qY).map bsT).map V.t) true false),(4096,.live 2 [.agg [.nil,.t (.int .i64 0)]] true true)]) ?_ (fun k hk=>?_)
  ·refine qJ.rd id ?_ ?_ rfl;all_goals simp(disch:=omega)only[go_sem,id]
  ·rcases (show k=0∨k=1∨k=2 by omega) with rfl | rfl | rfl
   ·simp(disch:=omega)only[go_sem,c0,c1,qM,h1,yT,yU,hf1,hf2];refine qB 16 (fun i=>[(0,.t (.int .i64 s)),(2,.ref 4096 0 0),(3,.ref 8208 0 0),(4,.t (.int .i64 0)),(5,.sl 9100 0 i),(6,.t (.int .i64 (i:Nat)))]) (fun i=>[(9100,.live 1 ((((qA7 0).take i).map bsT).map V.t) true false),(8208,.live 2 [.agg [.nil,.t (.int .i64 0)]] true true),(4096,.live 2 [.agg [.nil,.t (.int .i64 0)]] true true)]) ?_ (fun i hi=>?_)
    ·refine qJ.cv0 (hv:=[(9100,.live 1 [] true false)]) (ho:=[(8208,.live 2 [.agg [.nil,.t (.int .i64 0)]] true true),(4096,.live 2 [.agg [.nil,.t (.int .i64 0)]] true true)]) id ?_ ?_ rfl rfl;all_goals simp(disch:=omega)only[go_sem,mcn,id]
    ·by_cases hlt:i<16
     ·simp(disch:=omega)only[go_sem,c0,c1,qM,h1,yT,yU,hf1,hf2];refine⟨hlt,qJ.cv (hv:=[]) [49200] (fun j=>if j=9100 then 49232 else j) ?_ rfl⟩;simp(disch:=omega)only[go_sem,wU hlt,szA,List.take_replicate,Nat.min_self];rfl
     ·have e:i=16:=oM;subst e;simp(disch:=omega)only[go_sem,c0,c1,qM,h1,yT,yU,hf1,hf2];refine qJ.rd (fun j=>if j=9000 then 53312 else if j=9001 then 9100 else j) ?_ ?_ rfl;all_goals simp(disch:=omega)only[go_sem,qEe]
   ·simp(disch:=omega)only[go_sem,c0,c1,qM,h1,yT,yU,hf1,hf2];refine qB 16 (fun i=>[(0,.t (.int .i64 s)),(2,.ref 4096 0 0),(3,.ref 8208 0 0),(4,.t (.int .i64 1)),(5,.sl 9100 0 i),(6,.t (.int .i64 (i:Nat)))]) (fun i=>[(9100,.live 1 ((((qA7 1).take i).map bsT).map V.t) true false),(8208,.live 2 [.agg [.sl 9000 0 1,.t (.int .i64 0)]] true true),(9000,.live 1 [.sl 9001 0 16] true false),(9001,.live 1 (((qA7 0:qY).map bsT).map V.t) true false),(4096,.live 2 [.agg [.nil,.t (.int .i64 0)]] true true)]) ?_ (fun i hi=>?_)
    ·refine qJ.cv0 (hv:=[(9100,.live 1 [] true false)]) (ho:=[(8208,.live 2 [.agg [.sl 9000 0 1,.t (.int .i64 0)]] true true),(9000,.live 1 [.sl 9001 0 16] true false),(9001,.live 1 (((qA7 0:qY).map bsT).map V.t) true false),(4096,.live 2 [.agg [.nil,.t (.int .i64 0)]] true true)]) id ?_ ?_ rfl rfl;all_goals simp(disch:=omega)only[go_sem,mcn,id]
    ·by_cases hlt:i<16
     ·simp(disch:=omega)only[go_sem,c0,c1,qM,h1,yT,yU,hf1,hf2];refine⟨hlt,qJ.cv (hv:=[]) [49200] (fun j=>if j=9100 then 49232 else j) ?_ rfl⟩;simp(disch:=omega)only[go_sem,wU hlt,szA,List.take_replicate,Nat.min_self];rfl
     ·have e:i=16:=oM;subst e;simp(disch:=omega)only[go_sem,c0,c1,qM,h1,yT,yU,hf1,hf2];refine qJ.rd (fun j=>if j=9000 then 53312 else if j=9002 then 9100 else j) ?_ ?_ rfl;all_goals simp(disch:=omega)only[go_sem,qEe]
   ·simp(disch:=omega)only[go_sem,c0,c1,qM,h1,yT,yU,hf1,hf2];exact⟨rfl,rfl⟩
end Go.Eng
end
