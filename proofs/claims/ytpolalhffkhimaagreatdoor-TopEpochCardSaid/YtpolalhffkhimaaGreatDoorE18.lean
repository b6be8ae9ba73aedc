/- A part of an abstract machine, its walks, their tie. -/
import Derived.Test.YtpolalhffkhimaaGreatDoorE17
import Derived.Test.YtpolalhffkhimaaGreatDoorE16
set_option linter.all false
section
set_option maxHeartbeats 16000000
set_option maxRecDepth 20000
namespace Go.Eng
variable (tab:Tab) (gl:Gl)
theorem zN {b:List UInt8}{a:Nat}{e:Int}:kH (b,a,e) = .live 3 [.t (.agg [.sl (b.map qA),.int .i64 (a:Int),.int .i64 e])] true true:=rfl
theorem qCy {s t:Rd}(h:kH s=kH t):s=t:=by
 obtain⟨b,a,e⟩:=s;obtain⟨b',a',e'⟩:=t;simp only[zN,Ob.live.injEq,List.cons.injEq,V.t.injEq,T.agg.injEq,T.sl.injEq,T.int.injEq,jC,Int.natCast_inj] at h;simp only[Prod.mk.injEq];exact⟨h.2.1.1.1,h.2.1.1.2.1.2,h.2.1.1.2.2.1.2⟩
def wD:Ct where
 α:=Rd×Nat×Nat
 aS x:=[.ref 0 0 0,.t (.int .i64 x.2.1),.t (.int .i64 x.2.2)]
 ins x:=[kH x.1]
 pre x:=qD2 x.1∧x.2.1≤x.1.1.length∧x.2.2≤1000000000
 r x:=if x.2.1+x.2.2≤x.1.1.length then .tup [.t (.sl (((x.1.1.drop x.2.1).take x.2.2).map qA)),.t (.int .i64 0)] else .tup [.t (.sl []),.t (.int .i64 2)]
 outs x:=[kH x.1]
 inj:=by
  rintro⟨s,a,b⟩ ⟨t,c,d⟩ h1 h2;simp[Int.natCast_inj] at h1;simp only[List.cons.injEq,and_true] at h2;obtain⟨rfl,rfl⟩:=h1;cases qCy h2;exact⟨rfl,rfl⟩
theorem qY3 {b:List UInt8}{a p n:Nat}{e:Int}(h:a≤b.length∧b.length<1000000000∧p+n≤b.length):wD.fs [.ref 0 0 0,.t (.int .i64 p),.t (.int .i64 n)] [.live 3 [.t (.agg [.sl (b.map qA),.int .i64 (a:Int),.int .i64 e])] true true] =
  some (.tup [.t (.sl (((b.drop p).take n).map qA)),.t (.int .i64 0)],[.live 3 [.t (.agg [.sl (b.map qA),.int .i64 (a:Int),.int .i64 e])] true true]):=by
 refine (wD.eq ((b,a,e),p,n) ⟨⟨h.1,h.2.1⟩,?_,?_⟩).trans ?_
 ·simp only;omega
 ·simp only;omega
 ·simp only[wD,if_pos h.2.2,zN]
theorem qY2 {b:List UInt8}{a p n:Nat}{e:Int}(h:a≤b.length∧b.length<1000000000∧p≤b.length∧n≤1000000000∧b.length<p+n):wD.fs [.ref 0 0 0,.t (.int .i64 p),.t (.int .i64 n)] [.live 3 [.t (.agg [.sl (b.map qA),.int .i64 (a:Int),.int .i64 e])] true true] =
  some (.tup [.t (.sl []),.t (.int .i64 2)],[.live 3 [.t (.agg [.sl (b.map qA),.int .i64 (a:Int),.int .i64 e])] true true]):=by
 refine (wD.eq ((b,a,e),p,n) ⟨⟨h.1,h.2.1⟩,h.2.2.1,h.2.2.2.1⟩).trans ?_;simp only[wD,zN];rw[if_neg oM]
def qPi:Ct where
 α:=Rd×Int
 aS x:=[.ref 0 0 0,.t (.int .i64 x.2)]
 ins x:=[kH x.1]
 pre x:=qD2 x.1
 r x:= .tup []
 outs x:=[kH (x.1.1,x.1.2.1,x.2)]
 inj:=by
  rintro⟨s,a⟩ ⟨t,c⟩ h1 h2;simp at h1;simp only[List.cons.injEq,and_true] at h2;subst h1;cases qCy h2;exact⟨rfl,rfl⟩
theorem qMq {b:List UInt8}{a:Nat}{e n:Int}(h:a≤b.length∧b.length<1000000000):qPi.fs [.ref 0 0 0,.t (.int .i64 n)] [.live 3 [.t (.agg [.sl (b.map qA),.int .i64 (a:Int),.int .i64 e])] true true] =
  some (.tup [],[.live 3 [.t (.agg [.sl (b.map qA),.int .i64 (a:Int),.int .i64 n])] true true]):=qPi.eq ((b,a,e),n) h
def beV (bs:List UInt8):Nat:=bs.foldl (fun n x=>256*n+x.toNat) 0
theorem zFx {bs:List UInt8}{k:Nat}(h:k<bs.length):beV (bs.take (k+1))=256*beV (bs.take k)+(bs.getD k 0).toNat:=by
 rw[qF5 (d:=0) h];simp[beV]
theorem zU7 {bs:List UInt8}:beV bs<256^bs.length:=by
 have : ∀ (bs:List UInt8) (n:Nat),bs.foldl (fun n x=>256*n+x.toNat) n<256^bs.length*(n+1):=by
  intro bs
  induction bs with
  | nil=>intro n;simp
  | cons x r ih=>
   intro n;simp only[List.foldl_cons,List.length_cons];have h1:=ih (256*n+x.toNat);have h2:=x.toNat_lt;have h3:256^r.length*(256*n+x.toNat+1)≤256^r.length*(256*(n+1)):=Nat.mul_le_mul_left _ oM;rw[Nat.pow_succ,Nat.mul_assoc];omega
 have:=this bs 0;simpa [beV] using this
theorem zKf {bs:List UInt8}(h:bs.length≤7):beV bs<72057594037927936:=by
 have h1:=zU7 (bs:=bs);have h2:256^bs.length≤256^7:=Nat.pow_le_pow_right oM h;omega
theorem zKg {bs:List UInt8}(h:bs.length≤8):beV bs<18446744073709551616:=by
 have h1:=zU7 (bs:=bs);have h2:256^bs.length≤256^8:=Nat.pow_le_pow_right oM h;omega
def qQ (s:Rd)(k:Nat):Int×Rd:=
 if s.2.2≠0 then (0,s) else if s.1.length<s.2.1+k then (0,(s.1,s.2.1,2))
 else if 9223372036854775808≤beV ((s.1.drop s.2.1).take k) then (0,(s.1,s.2.1,4)) else (beV ((s.1.drop s.2.1).take k),(s.1,s.2.1+k,0))
def qBt (s:Rd)(k:Nat):List UInt8×Rd:=
 if s.2.2≠0 then ([],s) else if s.1.length<s.2.1+k then ([],(s.1,s.2.1,2)) else ((s.1.drop s.2.1).take k,(s.1,s.2.1+k,0))
def xO (s:Rd):Int:=if s.2.2=0∧s.2.1<s.1.length then 3 else s.2.2
theorem qO7 (h1:LkC tab 128 qPi)(h2:LkC tab 129 wD)(s:Rd)(hs:qD2 s)(k:Nat)(hk:1≤k∧k≤8) :
  yW.1.wp tab gl (qE 0 [.ref 0 0 0,.t (.int .i64 k)]) (qE 0 [kH s]) (zA [(4,none)] 1 (fun r o=>r = .t (.int .i64 (qQ s k).1)∧o=[kH (qQ s k).2])):=by
 obtain⟨b,a,e⟩:=s;have ha:a≤b.length∧b.length<1000000000:=hs;by_cases he:e=0
 ·subst he;by_cases hl:b.length<a+k
  ·simp(disch:=omega)only[go_sem,yW,zN,h1,h2,qY2,qMq,qQ,ne_eq,hl]
  ·have hc:(List.take k (List.drop a b)).length=k:=by simp only[List.length_take,List.length_drop];omega
   simp(disch:=omega)only[go_sem,yW,zN,h1,h2,qY3];generalize hC:List.take k (List.drop a b)=c at hc ⊢;refine qB k (fun i=>[(40,.t (.int .i64 i)),(39,.t (.int .i64 k)),(38,.t (.sl (c.map qA))),(7,.t (.int .u64 (beV (c.take i)))),(0,.ref 0 0 0),(1,.t (.int .i64 k))])
    (fun _=>[(0,.live 3 [.t (.agg [.sl (b.map qA),.int .i64 (a:Int),.int .i64 0])] true true)]) ?_ (fun i hi=>?_)
   ·refine qK.rd id ?_ ?_ rfl;all_goals simp(disch:=omega)only[go_sem,id,beV,List.foldl_nil]
   ·by_cases hlt:i<k
    ·have hb:beV (c.take i)<72057594037927936:=zKf (by rw[List.length_take];omega);have ht:=zFx (bs:=c) (k:=i) oM;simp(disch:=omega)only[go_sem,hc];refine⟨hlt,qK.rd id ?_ ?_ rfl⟩;all_goals simp(disch:=omega)only[go_sem,id,ht]
    ·have e:i=k:=oM;subst e;have ht:List.take i c=c:=List.take_of_length_le oM;have hb8:beV c<18446744073709551616:=zKg oM;by_cases hbig:9223372036854775808≤beV c
     ·simp(disch:=omega)only[go_sem,hc,ht,h1,qMq,qQ,zN,hl,hbig,ne_eq,hC]
     ·simp(disch:=omega)only[go_sem,hc,ht,qQ,zN,hl,hbig,ne_eq,hC]
 ·simp(disch:=omega)only[go_sem,yW,zN,qQ,ne_eq,he]
theorem qQy (h1:LkC tab 128 qPi)(h2:LkC tab 129 wD)(s:Rd)(hs:qD2 s)(k:Nat)(hk:k≤1000000000) :
  vI.1.wp tab gl (qE 0 [.ref 0 0 0,.t (.int .i64 k)]) (qE 0 [kH s]) (zA [(4,none)] 1 (fun r o=>r = .t (.sl ((qBt s k).1.map qA))∧o=[kH (qBt s k).2])):=by
 obtain⟨b,a,e⟩:=s;have ha:a≤b.length∧b.length<1000000000:=hs;by_cases he:e=0
 ·subst he;by_cases hl:b.length<a+k
  ·simp(disch:=omega)only[go_sem,vI,zN,h1,h2,qY2,qMq,qBt,ne_eq,hl]
  ·have hc:(List.take k (List.drop a b)).length=k:=by simp only[List.length_take,List.length_drop];omega
   have ht:List.take k (List.take k (List.drop a b))=List.take k (List.drop a b):=List.take_of_length_le oM;simp(disch:=omega)only[go_sem,vI,zN,h1,h2,qY3,qBt,ne_eq,hl,ht]
 ·simp(disch:=omega)only[go_sem,vI,zN,qBt,ne_eq,he]
theorem qWp (b:List UInt8)(a:Nat)(e:Int)(k:Nat)(ha:a≤b.length∧b.length<1000000000)(hk:k≤1000000000) :
  jV.1.wp tab gl (qE 0 [.ref 0 0 0,.t (.int .i64 k)]) (qE 0 [kH (b,a,e)]) (zA [(4,none)] 1 (fun r o=>r = .t (.bool (decide (e=0) && !decide (b.length<a+k)))∧o=[kH (b,a,if e=0∧b.length<a+k then 2 else e)])):=by
 by_cases he:e=0
 ·subst he;by_cases hl:b.length<a+k
  ·simp(disch:=omega)only[go_sem,jV,zN,hl];repeat refine And.intro rfl ?_
   trivial
  ·simp(disch:=omega)only[go_sem,jV,zN,hl];repeat refine And.intro rfl ?_
   trivial
 ·simp(disch:=omega)only[go_sem,jV,zN,he];repeat refine And.intro rfl ?_
  trivial
def kP:Ct where
 α:=Rd×Nat
 aS x:=[.ref 0 0 0,.t (.int .i64 x.2)]
 ins x:=[kH x.1]
 pre x:=qD2 x.1∧x.2≤1000000000
 r x:= .t (.bool (decide (x.1.2.2=0) && !decide (x.1.1.length<x.1.2.1+x.2)))
 outs x:=[kH (x.1.1,x.1.2.1,if x.1.2.2=0∧x.1.1.length<x.1.2.1+x.2 then 2 else x.1.2.2)]
 inj:=by
  rintro⟨s,a⟩ ⟨t,c⟩ h1 h2;simp[Int.natCast_inj] at h1;simp only[List.cons.injEq,and_true] at h2;subst h1;cases qCy h2;exact⟨rfl,rfl⟩
theorem zD9 {b:List UInt8}{a k:Nat}(h:a≤b.length∧b.length<1000000000∧a+k≤b.length):kP.fs [.ref 0 0 0,.t (.int .i64 k)] [.live 3 [.t (.agg [.sl (b.map qA),.int .i64 (a:Int),.int .i64 0])] true true] =
  some (.t (.bool true),[.live 3 [.t (.agg [.sl (b.map qA),.int .i64 (a:Int),.int .i64 0])] true true]):=by
 refine (kP.eq ((b,a,0),k) ⟨⟨h.1,h.2.1⟩,?_⟩).trans ?_
 ·simp only;omega
 ·have : ¬ b.length<a+k:=oM;simp[kP,zN,this]
theorem zD8 {b:List UInt8}{a k:Nat}(h:a≤b.length∧b.length<1000000000∧k≤1000000000∧b.length<a+k):kP.fs [.ref 0 0 0,.t (.int .i64 k)] [.live 3 [.t (.agg [.sl (b.map qA),.int .i64 (a:Int),.int .i64 0])] true true] =
  some (.t (.bool false),[.live 3 [.t (.agg [.sl (b.map qA),.int .i64 (a:Int),.int .i64 2])] true true]):=by
 refine (kP.eq ((b,a,0),k) ⟨⟨h.1,h.2.1⟩,h.2.2.1⟩).trans ?_;have:=h.2.2.2;simp[kP,zN,this]
theorem qOy (h1:LkC tab 99 kP)(s:Rd)(hs:qD2 s)(k:Nat)(hk:1≤k∧k≤8) :
  yV.1.wp tab gl (qE 0 [.ref 0 0 0,.t (.int .i64 k)]) (qE 0 [kH s]) (zA [(4,none)] 1 (fun r o=>r = .t (.int .i64 (qQ s k).1)∧o=[kH (qQ s k).2])):=by
 obtain⟨b,a,e⟩:=s;have ha:a≤b.length∧b.length<1000000000:=hs;by_cases he:e=0
 ·subst he;by_cases hl:b.length<a+k
  ·simp(disch:=omega)only[go_sem,yV,zN,h1,zD8,qQ,ne_eq,hl];repeat refine And.intro rfl ?_
   all_goals trivial
  ·have hc:(List.take k (List.drop a b)).length=k:=by simp only[List.length_take,List.length_drop];omega
   simp(disch:=omega)only[go_sem,yV,zN,h1,zD9];repeat refine And.intro rfl ?_
   generalize hC:List.take k (List.drop a b)=c at hc;have hget : ∀ i,i<k→b.getD (a+i) 0=c.getD i 0:=by
    intro i hi;rw[←hC];simp[List.getD,List.getElem?_take,hi]
   refine qB k (fun i=>[(6,.t (.int .i64 i)),(5,.t (.int .u64 (beV (c.take i)))),(0,.ref 0 0 0),(1,.t (.int .i64 k))])
    (fun _=>[(0,.live 3 [.t (.agg [.sl (b.map qA),.int .i64 (a:Int),.int .i64 0])] true true)]) ?_ (fun i hi=>?_)
   ·refine qK.rd id ?_ ?_ rfl;all_goals simp(disch:=omega)only[go_sem,id,beV,List.foldl_nil]
   ·by_cases hlt:i<k
    ·have hb:beV (c.take i)<72057594037927936:=zKf (by rw[List.length_take];omega);have ht:=zFx (bs:=c) (k:=i) oM;simp(disch:=omega)only[go_sem,hc,hget i hlt];repeat refine And.intro rfl ?_
     refine⟨hlt,qK.rd id ?_ ?_ rfl⟩;all_goals simp(disch:=omega)only[go_sem,id,ht]
    ·have e:i=k:=oM;subst e;have ht:List.take i c=c:=List.take_of_length_le oM;have hb8:beV c<18446744073709551616:=zKg oM;by_cases hbig:9223372036854775808≤beV c
     ·simp(disch:=omega)only[go_sem,hc,ht,qQ,zN,hl,hbig,ne_eq,hC]
     ·simp(disch:=omega)only[go_sem,hc,ht,qQ,zN,hl,hbig,ne_eq,hC]
 ·simp(disch:=omega)only[go_sem,yV,zN,qQ,ne_eq,he];repeat refine And.intro rfl ?_
  all_goals trivial
theorem qO6 (s:Rd)(hs:qD2 s):xI.1.wp tab gl (qE 0 [.ref 0 0 0]) (qE 0 [kH s]) (zA [(2,none)] 1 (fun r o=>r = .t (.int .i64 (s.1.length-s.2.1:Nat))∧o=[kH s])):=by
 obtain⟨b,a,e⟩:=s;have ha:a≤b.length∧b.length<1000000000:=hs;simp(disch:=omega)only[go_sem,xI,zN];repeat refine And.intro rfl ?_
 all_goals trivial
theorem qOx (s:Rd)(hs:qD2 s):xD.1.wp tab gl (qE 0 [.ref 0 0 0]) (qE 0 [kH s]) (zA [(2,none)] 1 (fun r o=>r = .t (.int .i64 (s.1.length-s.2.1:Nat))∧o=[kH s])):=by
 obtain⟨b,a,e⟩:=s;have ha:a≤b.length∧b.length<1000000000:=hs;simp(disch:=omega)only[go_sem,xD,zN];repeat refine And.intro rfl ?_
 all_goals trivial
theorem qQx (s:Rd)(hs:qD2 s):qAk.1.wp tab gl (qE 0 [.ref 0 0 0]) (qE 0 [kH s]) (zA [(2,none)] 1 (fun r o=>r = .t (.int .i64 s.2.2)∧o=[kH s])):=by
 obtain⟨b,a,e⟩:=s;simp(disch:=omega)only[go_sem,qAk,zN]
def qPj:Ct where
 α:=Rd
 aS _:=[.ref 0 0 0]
 ins x:=[kH x]
 pre x:=qD2 x
 r x:= .t (.int .i64 (x.1.length-x.2.1:Nat))
 outs x:=[kH x]
 inj:=by
  intro s t _ h2;simp only[List.cons.injEq,and_true] at h2;cases qCy h2;exact⟨rfl,rfl⟩
theorem qYf {b:List UInt8}{a:Nat}{e:Int}(h:a≤b.length∧b.length<1000000000):qPj.fs [.ref 0 0 0] [.live 3 [.t (.agg [.sl (b.map qA),.int .i64 (a:Int),.int .i64 e])] true true] =
  some (.t (.int .i64 (b.length-a:Nat)),[.live 3 [.t (.agg [.sl (b.map qA),.int .i64 (a:Int),.int .i64 e])] true true]):=qPj.eq (b,a,e) h
theorem qQw (h1:LkC tab 113 qPj)(s:Rd)(hs:qD2 s):vH.1.wp tab gl (qE 0 [.ref 0 0 0]) (qE 0 [kH s]) (zA [(2,none)] 1 (fun r o=>r = .t (.int .i64 (xO s))∧o=[kH s])):=by
 obtain⟨b,a,e⟩:=s;have ha:a≤b.length∧b.length<1000000000:=hs;by_cases he:e=0
 ·subst he;by_cases hl:a<b.length
  ·simp(disch:=omega)only[go_sem,vH,zN,h1,qYf,xO,hl];repeat refine And.intro rfl ?_
   all_goals trivial
  ·simp(disch:=omega)only[go_sem,vH,zN,h1,qYf,xO,hl];repeat refine And.intro rfl ?_
   all_goals trivial
 ·simp(disch:=omega)only[go_sem,vH,zN,xO,he];repeat refine And.intro rfl ?_
  all_goals trivial
theorem qQl (h1:LkC tab 100 qPj)(s:Rd)(hs:qD2 s):vF.1.wp tab gl (qE 0 [.ref 0 0 0]) (qE 0 [kH s]) (zA [(2,none)] 1 (fun r o=>r = .t (.int .i64 (xO s))∧o=[kH s])):=by
 obtain⟨b,a,e⟩:=s;have ha:a≤b.length∧b.length<1000000000:=hs;by_cases he:e=0
 ·subst he;by_cases hl:a<b.length
  ·simp(disch:=omega)only[go_sem,vF,zN,h1,qYf,xO,hl];repeat refine And.intro rfl ?_
   all_goals trivial
  ·simp(disch:=omega)only[go_sem,vF,zN,h1,qYf,xO,hl];repeat refine And.intro rfl ?_
   all_goals trivial
 ·simp(disch:=omega)only[go_sem,vF,zN,xO,he];repeat refine And.intro rfl ?_
  all_goals trivial
theorem zCh (n:Int)(hn:n=20∨n=32):qCp.1.wp tab gl (qE 0 [.t (.int .u64 1),.t (.int .u64 n)]) (qE 0 []) (zA [(4,none),(5,none)] 0 (fun r o=>r = .tup [.t (.int .u64 0),.t (.int .u64 n)]∧o=[])):=by
 rcases hn with rfl | rfl
 ·simp(disch:=omega)only[go_sem,qCp,BitVec.reduceOfInt,BitVec.reduceAnd,BitVec.reduceToNat,Int.reduceFDiv]
 ·simp(disch:=omega)only[go_sem,qCp,BitVec.reduceOfInt,BitVec.reduceAnd,BitVec.reduceToNat,Int.reduceFDiv]
def qJx:Ct where
 α:=Int
 aS x:=[.t (.int .u64 1),.t (.int .u64 x)]
 ins _:=[]
 pre x:=x=20∨x=32
 r x:= .tup [.t (.int .u64 0),.t (.int .u64 x)]
 outs _:=[]
 inj:=by
  intro a b h _;simp at h;subst h;exact⟨rfl,rfl⟩
theorem zGz {n:Int}(h:n=20∨n=32):qJx.fs [.t (.int .u64 1),.t (.int .u64 n)] []=some (.tup [.t (.int .u64 0),.t (.int .u64 n)],[]):=qJx.eq n h
theorem zJq (h2:LkC tab 300 qJx)(n:Int)(hn:n=20∨n=32):qKu.1.wp tab gl (qE 0 [.t (.int .u64 1),.t (.int .u64 n)]) (qE 0 []) (zA [(4,none),(5,none)] 0 (fun r o=>r = .tup [.t (.int .u64 0),.t (.int .u64 n)]∧o=[])):=by
 simp(disch:=omega)only[go_sem,qKu,h2,zGz]
def zAp:Ct where
 α:=Int
 aS x:=[.t (.int .i64 x)]
 ins _:=[]
 pre x:=x=20∨x=32
 r x:= .sl 0 0 x.toNat
 outs _:=[.live 1 [] true false]
 inj:=by
  intro a b h _;simp at h;subst h;exact⟨rfl,rfl⟩
theorem jFb {n:Int}(h:n=20∨n=32):zAp.fs [.t (.int .i64 n)] []=some (.sl 0 0 n.toNat,[.live 1 [] true false]):=zAp.eq n h
theorem zB3 {α:Type}{l xs:List α}:zW l l.length xs=l++xs:=by simp[zW]
theorem qWk (h1:LkC tab 270 qJx)(h2:LkC tab 271 zAp)(x:UInt8)(n:Nat)(hn:n=20∨n=32) :
  qC7.1.wp tab gl (qE 0 [.t (.sl ([x].map qA)),.t (.int .i64 n)]) (qE 0 []) (kN [] [(4,none)] 0 (fun r o=>r = .sl 0 0 n∧o=[.live 1 (((List.replicate n x).map qA).map V.t) true false])):=by
 have hn2:(n:Int)=20∨(n:Int)=32:=oM;have ht1 : ∀ v:V,List.take n [v]=[v]:=fun v=>List.take_of_length_le (by simp only[List.length_cons,List.length_nil];omega)
 simp(disch:=omega)only[go_sem,qC7,h1,h2,zGz,jFb,ht1];refine qJo (ι := { p:Nat // 1≤p∧p≤n }) (fun p=>([(7,.t (.int .i64 n)),(8,.t (.int .i64 n)),(9,.sl 69648 0 n),(10,.t (.int .i64 p.1))],[(69648,.live 1 (((List.replicate p.1 x).map qA).map V.t) true false)])) (fun p=>n-p.1) ⟨1,oM⟩ ?_ (fun p=>?_)
 ·refine qK.rd id ?_ ?_ rfl;all_goals simp(disch:=omega)only[go_sem,id,mcn]
 ·obtain⟨p,hp1,hp2⟩:=p;by_cases hlt:p<n
  ·have hse : ∀ xs,zW (List.map V.t (List.map qA (List.replicate p x))) p xs=List.map V.t (List.map qA (List.replicate p x))++xs:=by
    intro xs;have:=zB3 (l:=List.map V.t (List.map qA (List.replicate p x))) (xs:=xs);simpa using this
   have hm:(if (n:Int)<(p:Int) then (n:Int) else (p:Int))=p:=if_neg oM;by_cases hd:p≤n-p
   ·simp(disch:=omega)only[go_sem,hse,List.take_replicate,hm];refine⟨rfl,⟨p+p,oM⟩,by simp only;omega,qK.rd id ?_ ?_ rfl⟩;all_goals simp(disch:=omega)only[go_sem,id,List.replicate_append_replicate]
   ·simp(disch:=omega)only[go_sem,hse,List.take_replicate,hm];refine⟨rfl,⟨p+(n-p),oM⟩,by simp only;omega,qK.rd id ?_ ?_ rfl⟩;all_goals simp(disch:=omega)only[go_sem,id,List.replicate_append_replicate]
  ·have e:p=n:=oM;subst e;simp(disch:=omega)only[go_sem]
def qNr:Ct where
 α:=UInt8×Nat
 aS x:=[.t (.sl ([x.1].map qA)),.t (.int .i64 x.2)]
 ins _:=[]
 pre x:=x.2=20∨x.2=32
 r x:= .sl 0 0 x.2
 outs x:=[.live 1 (((List.replicate x.2 x.1).map qA).map V.t) true false]
 inj:=by
  rintro⟨a,b⟩ ⟨c,d⟩ h _;simp[qNn,Int.natCast_inj] at h;obtain⟨rfl,rfl⟩:=h;exact⟨rfl,rfl⟩
theorem zNd {x:UInt8}{n:Nat}(h:n=20∨n=32):qNr.fs [.t (.sl [qA x]),.t (.int .i64 n)] []=some (.sl 0 0 n,[.live 1 (((List.replicate n x).map qA).map V.t) true false]):=qNr.eq (x,n) h
theorem qR7 (h1:LkC tab 231 qNr)(x:UInt8)(n:Nat)(hn:n=20∨n=32):qA9.1.wp tab gl (qE 0 [.t (.int .i64 n),.t (qA x)]) (qE 0 []) (kN [] [(4,none)] 0 (fun r o=>r = .sl 0 0 n∧o=[.live 1 (((List.replicate n x).map qA).map V.t) true false])):=by
 simp(disch:=omega)only[go_sem,qA9,h1,zNd]
theorem zT2 {α:Type}{x d:α}{n k:Nat}(h:k<n):(List.replicate k x++List.replicate (n-k) d).set k x=List.replicate (k+1) x++List.replicate (n-(k+1)) d:=by
 rw[show n-k=(n-(k+1))+1 by omega,List.replicate_succ,List.set_append_right _ _ sM];simp[List.replicate_succ']
theorem zFc (x:UInt8)(n:Nat)(hn:n<1000000000):qD7.1.wp tab gl (qE 0 [.t (.int .i64 n),.t (qA x)]) (qE 0 []) (kN [] [(4,none)] 0 (fun r o=>r = .sl 0 0 n∧o=[.live 1 (((List.replicate n x).map qA).map V.t) true false])):=by
 simp(disch:=omega)only[go_sem,qD7];refine qB n (fun k=>[(0,.t (.int .i64 n)),(1,.t (qA x)),(5,.sl 8208 0 n),(6,.t (.int .i64 k))]) (fun k=>[(8208,.live 1 (((List.replicate k x++List.replicate (n-k) 0).map qA).map V.t) true false)]) ?_ (fun k hk=>?_)
 ·refine qK.rd id ?_ ?_ rfl;all_goals simp(disch:=omega)only[go_sem,id]
 ·by_cases hlt:k<n
  ·simp(maxSteps:=9^9)(disch:=try exact dS)only[go_sem];refine⟨hlt,qK.rd id ?_ ?_ rfl⟩;all_goals simp(disch:=omega)only[go_sem,id,zT2 hlt]
  ·have e:k=n:=oM;subst e;simp(disch:=omega)only[go_sem,Nat.sub_self,List.append_nil]
abbrev qX:=List (List UInt8)
def wY (b:qX):T:= .sl (b.map bsT)
def jT (bk:List qX)(u:Int):T:= .agg [.sl (bk.map wY),.int .i64 u]
theorem zAg {b:qX}:wY b = .sl (b.map bsT):=Eq.trans (Eq.refl _) rfl
theorem zS1 {bk:List qX}{u:Int}:jT bk u = .agg [.sl (bk.map wY),.int .i64 u]:=Eq.trans (Eq.refl _) rfl
attribute [go_sem] zAg zS1
def qVm (b:qX):Prop:=b.length=0∨b.length=16
def qZ7 (b0 b1:qX):Int:=(if b0.length=16 then 1 else 0)+(if b1.length=16 then 2 else 0)
theorem qNe (u:Int):jX.1.wp tab gl (qE 0 [.t (jT [] u)]) (qE 0 []) (zA [(2,none)] 0 (fun r o=>r = .t (.int .i64 0)∧o=[])):=by
 simp(disch:=omega)only[go_sem,jX,mcn];refine qJ 1 ?_;simp(disch:=omega)only[go_sem,qF]
theorem qNf (b0 b1:qX)(h0:b0.length<1000000000)(h1:b1.length<1000000000)(u:Int):jX.1.wp tab gl (qE 0 [.t (jT [b0,b1] u)]) (qE 0 []) (zA [(2,none)] 0 (fun r o=>r = .t (.int .i64 (qZ7 b0 b1))∧o=[])):=by
 simp(disch:=omega)only[go_sem,jX,mcn];refine qJ 3 ?_;by_cases e0:b0.length=16
 ·by_cases e1:b1.length=16
  ·simp(disch:=omega)only[go_sem,qF,qZ7,e0,e1,BitVec.reduceOfInt,BitVec.reduceOr,BitVec.reduceToNat]
  ·simp(disch:=omega)only[go_sem,qF,qZ7,e0,e1,BitVec.reduceOfInt,BitVec.reduceOr,BitVec.reduceToNat]
 ·by_cases e1:b1.length=16
  ·simp(disch:=omega)only[go_sem,qF,qZ7,e0,e1,BitVec.reduceOfInt,BitVec.reduceOr,BitVec.reduceToNat]
  ·simp(disch:=omega)only[go_sem,qF,qZ7,e0,e1,BitVec.reduceOfInt,BitVec.reduceOr,BitVec.reduceToNat]
inductive RK:List qX→Prop
 | nil:RK []
 | two (b0 b1:qX) (h0:qVm b0) (h1:qVm b1):RK [b0,b1]
def qWy:List qX→Int
 | [b0,b1]=>qZ7 b0 b1
 | _=>0
theorem qS7 {a b:qX}(h:wY a=wY b):a=b:=by
 simpa [wY,qBs] using h
theorem qAr {a b:List qX}{u v:Int}(h:jT a u=jT b v):a=b∧u=v:=by
 simp only[jT,T.agg.injEq,List.cons.injEq,T.sl.injEq,T.int.injEq,true_and,and_true] at h;exact⟨qBk (fun _ _=>qS7) h.1,h.2⟩
def wI:Ct where
 α:=List qX×Int
 aS x:=[.t (jT x.1 x.2)]
 ins _:=[]
 pre x:=RK x.1
 r x:= .t (.int .i64 (qWy x.1))
 outs _:=[]
 inj:=by
  rintro⟨a,u⟩ ⟨b,v⟩ h _;simp only[List.cons.injEq,V.t.injEq,and_true] at h;obtain⟨rfl,rfl⟩:=qAr h;exact⟨rfl,rfl⟩
theorem zAc {bk:List qX}{u:Int}(h:RK bk):wI.fs [.t (.agg [.sl (bk.map wY),.int .i64 u])] []=some (.t (.int .i64 (qWy bk)),[]):=wI.eq (bk,u) h
def onB (bk:List qX)(a:Nat):Bool:=decide ((bk.getD a []).length=16)
theorem qWs (h1:LkC tab 106 wI)(bk:List qX)(u:Int)(hk:RK bk)(a:Nat)(ha:a<2):qDl.1.wp tab gl (qE 0 [.t (jT bk u),.t (.int .i64 a)]) (qE 0 []) (zA [(4,none)] 0 (fun r o=>r = .t (.bool (onB bk a))∧o=[])):=by
 have he:=zAc (u:=u) hk;have hv:qWy bk=0∨qWy bk=1∨qWy bk=2∨qWy bk=3:=by
  cases hk with
  | nil=>left;rfl
  | two b0 b1 h0 h1=>simp only[qWy,qZ7];split<;>split<;>simp
 have hon:onB bk a=decide ((qWy bk).toNat/2^a%2=1):=by
  cases hk with
  | nil=>
   rcases (show a=0∨a=1 by omega) with rfl | rfl<;>simp[onB,qWy]
  | two b0 b1 h0 h1=>
   rcases (show a=0∨a=1 by omega) with rfl | rfl
   ·simp only[onB,qWy,qZ7,List.getD_cons_zero];split<;>split<;>simp_all
   ·simp only[onB,qWy,qZ7,List.getD_cons_succ,List.getD_cons_zero];split<;>split<;>simp_all
 rw[hon];rcases (show a=0∨a=1 by omega) with rfl | rfl<;>rcases hv with hv | hv | hv | hv<;>rw[hv] at he<;>simp only[hv];all_goals simp(disch:=omega)only[go_sem,qDl,h1,he,Int.reduceFDiv,Int.reduceToNat,Nat.reduceDiv,Nat.reduceMod,Int.reduceBEq]
theorem qQo (i:Int):vG.1.wp tab gl (qE 0 [.t (.int .i64 i)]) (qE 0 []) (zA [(2,none)] 0 (fun r o=>r = .t (.bool (decide (0≤i∧i<16)))∧o=[])):=by
 by_cases h:0≤i
 ·by_cases h2:i<16
  ·simp(disch:=omega)only[go_sem,vG,h,h2]
  ·simp(disch:=omega)only[go_sem,vG,h,h2]
 ·simp(disch:=omega)only[go_sem,vG,h]
def qBr (i:Int)(reset:Bool):Int:=if reset=true∧i<12 then 5 else if i=14 then (if reset then 3 else 2) else if i=15 then (if reset then 4 else 3) else 0
theorem qQp (i:Int)(rs:Bool):qAg.1.wp tab gl (qE 0 [.t (.int .i64 i),.t (.bool rs)]) (qE 0 []) (zA [(4,none)] 0 (fun r o=>r = .t (.int .i64 (qBr i rs))∧o=[])):=by
 cases rs<;>by_cases h12:i<12<;>by_cases h14:i=14<;>by_cases h15:i=15;all_goals try omega
 all_goals simp(disch:=omega)only[go_sem,qAg,qBr,h12,h14,h15]
def zPa (bk:List qX)(a:Nat):Bool:=decide (a<bk.length)&&decide (0<(bk.getD a []).length)
theorem qZ0 (bk:List qX)(u:Int)(a:Nat)(ha:a<1000000000)(hb:bk.length<1000000000)(hm : ∀ b∈bk,b.length<1000000000):wM.1.wp tab gl (qE 0 [.t (jT bk u),.t (.int .i64 a)]) (qE 0 []) (zA [(4,none)] 0 (fun r o=>r = .t (.bool (zPa bk a))∧o=[])):=by
 by_cases h:a<bk.length
 ·have hg:bk[a]?=some (bk.getD a []):=by simp[List.getD,h]
  have hl:(bk.getD a []).length<1000000000:=by
   have:bk.getD a []=bk[a]:=by simp[List.getD,h]
   rw[this];exact hm _ (List.getElem_mem h)
  by_cases h0:0<(bk.getD a []).length
  ·simp(disch:=omega)only[go_sem,wM,zPa,h,hg,h0]
  ·simp(disch:=omega)only[go_sem,wM,zPa,h,hg,h0]
 ·simp(disch:=omega)only[go_sem,wM,zPa,h]
theorem qQq (u:Int):yR.1.wp tab gl (qE 0 [.t (jT [] u)]) (qE 0 []) (kN [] [(2,some (2,true))] 0 (fun r o=>r = .agg [.nil,.t (.int .i64 u)]∧o=[])):=by
 simp(disch:=omega)only[go_sem,yR,List.map_nil,Int.natCast_zero];refine qJ 1 ?_;simp(disch:=omega)only[go_sem,qF]
theorem qQr (b0 b1:qX)(u:Int)(m0:zV6 b0)(m1:zV6 b1):yR.1.wp tab gl (qE 0 [.t (jT [b0,b1] u)]) (qE 0 []) (kN [] [(2,some (2,true))] 0 (fun r o=>r = .agg [.sl 0 0 2,.t (.int .i64 u)]∧o=[.live 1 [.sl 1 0 b0.length,.sl 2 0 b1.length] true false,.live 1 ((b0.map bsT).map V.t) true false,.live 1 ((b1.map bsT).map V.t) true false])):=by
 simp(disch:=omega)only[go_sem,yR,mcn];have hl0:=m0.1;have hl1:=m1.1;refine qB 2 (fun k=>match k with | 0=>[(2,.ref 4112 0 0),(3,.ref 8240 0 0),(15,.t (.int .i64 0)),(13,.t (T.sl [T.sl (List.map bsT b0),T.sl (List.map bsT b1)])),(14,.t (.int .i64 2))] | 1=>[(2,.ref 4112 0 0),(3,.ref 8240 0 0),(15,.t (.int .i64 1)),(13,.t (T.sl [T.sl (List.map bsT b0),T.sl (List.map bsT b1)])),(14,.t (.int .i64 2))] | _=>[(2,.ref 4112 0 0),(3,.ref 8240 0 0),(15,.t (.int .i64 2)),(13,.t (T.sl [T.sl (List.map bsT b0),T.sl (List.map bsT b1)])),(14,.t (.int .i64 2))]) (fun k=>match k with | 0=>[(8240,.live 2 [.agg [.nil,.t (.int .i64 u)]] true true),(4112,.live 2 [.agg [.nil,.t (.int .i64 0)]] true true)] | 1=>[(8240,.live 2 [.agg [.sl 9000 0 1,.t (.int .i64 u)]] true true),(9000,.live 1 [.sl 9001 0 b0.length] true false),(9001,.live 1 ((b0.map bsT).map V.t) true false),(4112,.live 2 [.agg [.nil,.t (.int .i64 0)]] true true)] | _=>[(8240,.live 2 [.agg [.sl 9000 0 2,.t (.int .i64 u)]] true true),(9000,.live 1 [.sl 9001 0 b0.length,.sl 9002 0 b1.length] true false),(9001,.live 1 ((b0.map bsT).map V.t) true false),(9002,.live 1 ((b1.map bsT).map V.t) true false),(4112,.live 2 [.agg [.nil,.t (.int .i64 0)]] true true)]) ?_ (fun k hk=>?_)
 ·refine qK.rd id ?_ ?_ rfl;all_goals simp(disch:=omega)only[go_sem,id]
 ·rcases (show k=0∨k=1∨k=2 by omega) with rfl | rfl | rfl
  ·simp(disch:=omega)only[go_sem];refine qB b0.length (fun i=>[(2,.ref 4112 0 0),(3,.ref 8240 0 0),(15,.t (.int .i64 0)),(13,.t (T.sl [T.sl (List.map bsT b0),T.sl (List.map bsT b1)])),(14,.t (.int .i64 2)),(6,.sl 9100 0 i),(21,.t (.int .i64 (i:Nat))),(19,.t (.sl (b0.map bsT))),(20,.t (.int .i64 b0.length))]) (fun i=>[(9100,.live 1 (((b0.take i).map bsT).map V.t) true false),(8240,.live 2 [.agg [.nil,.t (.int .i64 u)]] true true),(4112,.live 2 [.agg [.nil,.t (.int .i64 0)]] true true)]) ?_ (fun i hi=>?_)
   ·refine qK.cv0 (hv:=[(9100,.live 1 [] true false)]) (ho:=[(8240,.live 2 [.agg [.nil,.t (.int .i64 u)]] true true),(4112,.live 2 [.agg [.nil,.t (.int .i64 0)]] true true)]) id ?_ ?_ rfl rfl;all_goals simp(disch:=omega)only[go_sem,id,mcn]
   ·have hm:=qYg m0 i;by_cases hlt:i<b0.length
    ·simp(disch:=omega)only[go_sem];refine⟨hlt,qK.cv (hv:=[]) [40992] (fun j=>if j=9100 then 41024 else j) ?_ rfl⟩;simp(disch:=omega)only[go_sem,qF5 (d:=[]) hlt];rfl
    ·have e:i=b0.length:=oM;subst e;simp(disch:=omega)only[go_sem];refine qK.rd (fun j=>if j=9000 then 49216 else if j=9001 then 9100 else j) ?_ ?_ rfl;all_goals simp(disch:=omega)only[go_sem]
  ·simp(disch:=omega)only[go_sem];refine qB b1.length (fun i=>[(2,.ref 4112 0 0),(3,.ref 8240 0 0),(15,.t (.int .i64 1)),(13,.t (T.sl [T.sl (List.map bsT b0),T.sl (List.map bsT b1)])),(14,.t (.int .i64 2)),(6,.sl 9100 0 i),(21,.t (.int .i64 (i:Nat))),(19,.t (.sl (b1.map bsT))),(20,.t (.int .i64 b1.length))]) (fun i=>[(9100,.live 1 (((b1.take i).map bsT).map V.t) true false),(8240,.live 2 [.agg [.sl 9000 0 1,.t (.int .i64 u)]] true true),(9000,.live 1 [.sl 9001 0 b0.length] true false),(9001,.live 1 ((b0.map bsT).map V.t) true false),(4112,.live 2 [.agg [.nil,.t (.int .i64 0)]] true true)]) ?_ (fun i hi=>?_)
   ·refine qK.cv0 (hv:=[(9100,.live 1 [] true false)]) (ho:=[(8240,.live 2 [.agg [.sl 9000 0 1,.t (.int .i64 u)]] true true),(9000,.live 1 [.sl 9001 0 b0.length] true false),(9001,.live 1 ((b0.map bsT).map V.t) true false),(4112,.live 2 [.agg [.nil,.t (.int .i64 0)]] true true)]) id ?_ ?_ rfl rfl;all_goals simp(disch:=omega)only[go_sem,id,mcn]
   ·have hm:=qYg m1 i;by_cases hlt:i<b1.length
    ·simp(disch:=omega)only[go_sem];refine⟨hlt,qK.cv (hv:=[]) [40992] (fun j=>if j=9100 then 41024 else j) ?_ rfl⟩;simp(disch:=omega)only[go_sem,qF5 (d:=[]) hlt];rfl
    ·have e:i=b1.length:=oM;subst e;simp(disch:=omega)only[go_sem];refine qK.rd (fun j=>if j=9000 then 49216 else if j=9002 then 9100 else j) ?_ ?_ rfl;all_goals simp(disch:=omega)only[go_sem]
  ·simp(disch:=omega)only[go_sem]
def twR (bk:List qX)(u:Int):V:=match bk with
 | [_,_]=> .agg [.sl 0 0 2,.t (.int .i64 u)]
 | _=> .agg [.nil,.t (.int .i64 u)]
def twO (bk:List qX):List Ob:=match bk with
 | [b0,b1]=>[.live 1 [.sl 1 0 b0.length,.sl 2 0 b1.length] true false,.live 1 ((b0.map bsT).map V.t) true false,.live 1 ((b1.map bsT).map V.t) true false]
 | _=>[]
def RM (bk:List qX):Prop:=RK bk ∧ ∀ b∈bk,zV6 b
def vM:Ct where
 α:=List qX×Int
 aS x:=[.t (jT x.1 x.2)]
 ins _:=[]
 pre x:=RM x.1
 r x:=twR x.1 x.2
 outs x:=twO x.1
 inj:=by
  rintro⟨a,u⟩ ⟨b,v⟩ h _;simp only[List.cons.injEq,V.t.injEq,and_true] at h;obtain⟨rfl,rfl⟩:=qAr h;exact⟨rfl,rfl⟩
theorem qY4 {u:Int}:vM.fs [.t (.agg [.sl [],.int .i64 u])] []=some (.agg [.nil,.t (.int .i64 u)],[]):=vM.eq ([],u) ⟨.nil,sM⟩
theorem jD {b0 b1:qX}{u:Int}(h:RM [b0,b1]):vM.fs [.t (.agg [.sl [.sl (b0.map bsT),.sl (b1.map bsT)],.int .i64 u])] [] =
  some (.agg [.sl 0 0 2,.t (.int .i64 u)],[.live 1 [.sl 1 0 b0.length,.sl 2 0 b1.length] true false,.live 1 ((b0.map bsT).map V.t) true false,.live 1 ((b1.map bsT).map V.t) true false]):=vM.eq ([b0,b1],u) h
def zSb (i:Nat):UInt8:=if 12≤i then 255 else 0
theorem zBe {i:Nat}(h:i<12):zSb i=0:=if_neg oM
theorem zBf {i:Nat}(h : ¬ i<12):zSb i=255:=if_pos oM
def qAw (a:Nat):qX:=(List.range 16).map fun i=>List.replicate (szA a) (zSb i)
theorem wJ {a i:Nat}(h:i<16):(qAw a).take (i+1)=(qAw a).take i++[List.replicate (szA a) (zSb i)]:=by
 rw[qF5 (d:=[]) (by simp[qAw];omega)];congr 2;simp[qAw,List.getD,h]
theorem qEd {a:Nat}:(qAw a).take 16=qAw a:=List.take_of_length_le (by simp[qAw])
theorem qI {a:Nat}:List.length (qAw a)=16:=by simp[qAw]
def yK (s:Int):List qX:=if s%4=0 then [] else [if s%2=1 then qAw 0 else [],if s/2%2=1 then qAw 1 else []]
theorem qCx {s:Int}(h : ¬ s%4=0):yK s=[if s%2=1 then qAw 0 else [],if s/2%2=1 then qAw 1 else []]:=if_neg h
def kQ:Ct where
 α:=Int
 aS x:=[.t (.int .i64 x)]
 ins _:=[]
 pre _:=True
 r x:= .t (.int .i64 (if x=0 then 20 else if x=1 then 32 else 0))
 outs _:=[]
 inj:=by
  intro a b h _;simp at h;subst h;exact⟨rfl,rfl⟩
theorem qO:kQ.fs [.t (.int .i64 0)] []=some (.t (.int .i64 20),[]):=kQ.eq (0:Int) trivial
theorem qP:kQ.fs [.t (.int .i64 1)] []=some (.t (.int .i64 32),[]):=kQ.eq (1:Int) trivial
def vT:Ct where
 α:=Nat×UInt8
 aS x:=[.t (.int .i64 x.1),.t (qA x.2)]
 ins _:=[]
 pre x:=x.1=20∨x.1=32
 r x:= .sl 0 0 x.1
 outs x:=[.live 1 (((List.replicate x.1 x.2).map qA).map V.t) true false]
 inj:=by
  rintro⟨a,b⟩ ⟨c,d⟩ h _;simp[qNn,Int.natCast_inj] at h;obtain⟨rfl,rfl⟩:=h;exact⟨rfl,rfl⟩
theorem zD {x:UInt8}:vT.fs [.t (.int .i64 20),.t (qA x)] []=some (.sl 0 0 20,[.live 1 (((List.replicate 20 x).map qA).map V.t) true false]):=vT.eq (20,x) (.inl rfl)
theorem zE {x:UInt8}:vT.fs [.t (.int .i64 32),.t (qA x)] []=some (.sl 0 0 32,[.live 1 (((List.replicate 32 x).map qA).map V.t) true false]):=vT.eq (32,x) (.inr rfl)
theorem qWq (h1:LkC tab 59 kQ)(h2:LkC tab 58 vT)(a:Nat)(ha:a<2)(i:Nat):qDj.1.wp tab gl (qE 0 [.t (.int .i64 a),.t (.int .i64 i)]) (qE 0 []) (kN [] [(4,none)] 0 (fun r o=>r = .sl 0 0 (szA a)∧o=[.live 1 (((List.replicate (szA a) (zSb i)).map qA).map V.t) true false])):=by
 rcases (show a=0∨a=1 by omega) with rfl | rfl<;>by_cases hi:i<12;all_goals simp(disch:=omega)only[go_sem,qDj,h1,h2,qO,qP,zD,zE,szA]
 all_goals first | rw[zBe hi] | rw[zBf hi]
def qGn:Ct where
 α:=Nat×Nat
 aS x:=[.t (.int .i64 x.1),.t (.int .i64 x.2)]
 ins _:=[]
 pre x:=x.1<2
 r x:= .sl 0 0 (szA x.1)
 outs x:=[.live 1 (((List.replicate (szA x.1) (zSb x.2)).map qA).map V.t) true false]
 inj:=by
  rintro⟨a,b⟩ ⟨c,d⟩ h _;simp[Int.natCast_inj] at h;obtain⟨rfl,rfl⟩:=h;exact⟨rfl,rfl⟩
theorem yP {i:Nat}:qGn.fs [.t (.int .i64 0),.t (.int .i64 i)] []=some (.sl 0 0 20,[.live 1 (((List.replicate 20 (zSb i)).map qA).map V.t) true false]):=qGn.eq (0,i) (by simp[qGn])
theorem yQ {i:Nat}:qGn.fs [.t (.int .i64 1),.t (.int .i64 i)] []=some (.sl 0 0 32,[.live 1 (((List.replicate 32 (zSb i)).map qA).map V.t) true false]):=qGn.eq (1,i) (by simp[qGn])
theorem qR6 (s:Int)(h3:s%4=0):jI.1.wp tab gl (qE 0 [.t (.int .i64 s)]) (qE 0 []) (kN [] [(2,some (2,true))] 0 (fun r o=>r = .agg [.nil,.t (.int .i64 0)]∧o=[])):=by
 simp(disch:=omega)only[go_sem,jI,h3]
theorem zFb (s:Int)(h3:s%4=0):vY.1.wp tab gl (qE 0 [.t (.int .i64 s)]) (qE 0 []) (kN [] [(2,some (2,true))] 0 (fun r o=>r = .agg [.nil,.t (.int .i64 0)]∧o=[])):=by
 simp(disch:=omega)only[go_sem,vY,h3]
theorem qVi (h1:LkC tab 131 kQ)(h2:LkC tab 167 vT)(s:Int)(h3 : ¬ s%4=0):jI.1.wp tab gl (qE 0 [.t (.int .i64 s)]) (qE 0 []) (kN [] [(2,some (2,true))] 0 (fun r o=>r=twR (yK s) 0∧o=twO (yK s))):=by
 have h4:(s%4==0)=false:=by simpa using h3
 have hf1:s.fdiv 1=s:=Int.fdiv_one s;have hf2:s.fdiv 2=s/2:=Int.fdiv_eq_ediv_of_nonneg s oM;have hc0:s%2=0∨s%2=1:=oM;have hc1:s/2%2=0∨s/2%2=1:=oM;rcases hc0 with c0 | c0<;>rcases hc1 with c1 | c1
 ·exact absurd oM h3
 ·rw[qCx h3,if_neg oM,if_pos oM];simp(disch:=omega)only[go_sem,jI,h4,hf1,hf2];refine qB 2 (fun k=>match k with | 0=>[(0,.t (.int .i64 s)),(2,.ref 4096 0 0),(3,.ref 16384 0 0),(12,.t (.int .i64 0))] | 1=>[(0,.t (.int .i64 s)),(2,.ref 4096 0 0),(3,.ref 16384 0 0),(12,.t (.int .i64 1))] | _=>[(0,.t (.int .i64 s)),(2,.ref 4096 0 0),(3,.ref 16384 0 0),(12,.t (.int .i64 2))]) (fun k=>match k with | 0=>[(16384,.live 2 [.agg [.nil,.t (.int .i64 0)]] true true),(4096,.live 2 [.agg [.nil,.t (.int .i64 0)]] true true)] | 1=>[(16384,.live 2 [.agg [.sl 9000 0 1,.t (.int .i64 0)]] true true),(9000,.live 1 [.sl 9001 0 0] true false),(9001,.live 1 ((([]:qX).map bsT).map V.t) true false),(4096,.live 2 [.agg [.nil,.t (.int .i64 0)]] true true)] | _=>[(16384,.live 2 [.agg [.sl 9000 0 2,.t (.int .i64 0)]] true true),(9000,.live 1 [.sl 9001 0 0,.sl 9002 0 16] true false),(9001,.live 1 ((([]:qX).map bsT).map V.t) true false),(9002,.live 1 (((qAw 1:qX).map bsT).map V.t) true false),(4096,.live 2 [.agg [.nil,.t (.int .i64 0)]] true true)]) ?_ (fun k hk=>?_)
  ·refine qK.rd id ?_ ?_ rfl;all_goals simp(disch:=omega)only[go_sem,id]
  ·rcases (show k=0∨k=1∨k=2 by omega) with rfl | rfl | rfl
   ·simp(disch:=omega)only[go_sem,c0,c1,qI,h1,h2,qO,qP,zD,zE,hf1,hf2];refine qJ 1 ?_;simp(disch:=omega)only[go_sem,qF,c0,c1,qI,h1,h2,qO,qP,zD,zE,hf1,hf2];refine qK.trans (fs':=[(0,.t (.int .i64 s)),(2,.ref 4096 0 0),(3,.ref 16384 0 0),(12,.t (.int .i64 1))]) (qK.cv0 (hv:=[(9001,.live 1 [] true false)]) (ho:=[(16384,.live 2 [.agg [.sl 9000 0 1,.t (.int .i64 0)]] true true),(9000,.live 1 [.sl 9001 0 0] true false),(4096,.live 2 [.agg [.nil,.t (.int .i64 0)]] true true)]) (fun j=>if j=9000 then 65600 else j) ?_ ?_ rfl rfl) (qK.rd id ?_ ?_ rfl);all_goals simp(disch:=omega)only[go_sem,mcn,id]
   ·simp(disch:=omega)only[go_sem,c0,c1,qI,h1,h2,qO,qP,zD,zE,hf1,hf2];refine qB 16 (fun i=>[(0,.t (.int .i64 s)),(2,.ref 4096 0 0),(3,.ref 16384 0 0),(12,.t (.int .i64 1)),(4,.t (.int .i64 1)),(5,.sl 9100 0 i),(6,.t (.int .i64 (i:Nat)))]) (fun i=>[(9100,.live 1 ((((qAw 1).take i).map bsT).map V.t) true false),(16384,.live 2 [.agg [.sl 9000 0 1,.t (.int .i64 0)]] true true),(9000,.live 1 [.sl 9001 0 0] true false),(9001,.live 1 ((([]:qX).map bsT).map V.t) true false),(4096,.live 2 [.agg [.nil,.t (.int .i64 0)]] true true)]) ?_ (fun i hi=>?_)
    ·refine qK.cv0 (hv:=[(9100,.live 1 [] true false)]) (ho:=[(16384,.live 2 [.agg [.sl 9000 0 1,.t (.int .i64 0)]] true true),(9000,.live 1 [.sl 9001 0 0] true false),(9001,.live 1 ((([]:qX).map bsT).map V.t) true false),(4096,.live 2 [.agg [.nil,.t (.int .i64 0)]] true true)]) id ?_ ?_ rfl rfl;all_goals simp(disch:=omega)only[go_sem,mcn,id]
    ·by_cases hlt:i<16
     ·by_cases h12:i<12
      ·simp(disch:=omega)only[go_sem,c0,c1,qI,h1,h2,qO,qP,zD,zE,hf1,hf2];refine⟨hlt,qK.cv (hv:=[]) [61504] (fun j=>if j=9100 then 61536 else j) ?_ rfl⟩;simp(disch:=omega)only[go_sem,wJ hlt,szA,List.take_replicate,Nat.min_self,zBe h12];rfl
      ·simp(disch:=omega)only[go_sem,c0,c1,qI,h1,h2,qO,qP,zD,zE,hf1,hf2];refine⟨hlt,qK.cv (hv:=[]) [61504] (fun j=>if j=9100 then 61536 else j) ?_ rfl⟩;simp(disch:=omega)only[go_sem,wJ hlt,szA,List.take_replicate,Nat.min_self,zBf h12];rfl
     ·have e:i=16:=oM;subst e;simp(disch:=omega)only[go_sem,c0,c1,qI,h1,h2,qO,qP,zD,zE,hf1,hf2];refine qK.rd (fun j=>if j=9000 then 65600 else if j=9002 then 9100 else j) ?_ ?_ rfl;all_goals simp(disch:=omega)only[go_sem,qEd]
   ·simp(disch:=omega)only[go_sem,c0,c1,qI,h1,h2,qO,qP,zD,zE,hf1,hf2];exact⟨rfl,rfl⟩
 ·rw[qCx h3,if_pos oM,if_neg oM];simp(disch:=omega)only[go_sem,jI,h4,hf1,hf2];refine qB 2 (fun k=>match k with | 0=>[(0,.t (.int .i64 s)),(2,.ref 4096 0 0),(3,.ref 16384 0 0),(12,.t (.int .i64 0))] | 1=>[(0,.t (.int .i64 s)),(2,.ref 4096 0 0),(3,.ref 16384 0 0),(12,.t (.int .i64 1))] | _=>[(0,.t (.int .i64 s)),(2,.ref 4096 0 0),(3,.ref 16384 0 0),(12,.t (.int .i64 2))]) (fun k=>match k with | 0=>[(16384,.live 2 [.agg [.nil,.t (.int .i64 0)]] true true),(4096,.live 2 [.agg [.nil,.t (.int .i64 0)]] true true)] | 1=>[(16384,.live 2 [.agg [.sl 9000 0 1,.t (.int .i64 0)]] true true),(9000,.live 1 [.sl 9001 0 16] true false),(9001,.live 1 (((qAw 0:qX).map bsT).map V.t) true false),(4096,.live 2 [.agg [.nil,.t (.int .i64 0)]] true true)] | _=>[(16384,.live 2 [.agg [.sl 9000 0 2,.t (.int .i64 0)]] true true),(9000,.live 1 [.sl 9001 0 16,.sl 9002 0 0] true false),(9001,.live 1 (((qAw 0:qX).map bsT).map V.t) true false),(9002,.live 1 ((([]:qX).map bsT).map V.t) true false),(4096,.live 2 [.agg [.nil,.t (.int .i64 0)]] true true)]) ?_ (fun k hk=>?_)
  ·refine qK.rd id ?_ ?_ rfl;all_goals simp(disch:=omega)only[go_sem,id]
  ·rcases (show k=0∨k=1∨k=2 by omega) with rfl | rfl | rfl
   ·simp(disch:=omega)only[go_sem,c0,c1,qI,h1,h2,qO,qP,zD,zE,hf1,hf2];refine qB 16 (fun i=>[(0,.t (.int .i64 s)),(2,.ref 4096 0 0),(3,.ref 16384 0 0),(12,.t (.int .i64 0)),(4,.t (.int .i64 0)),(5,.sl 9100 0 i),(6,.t (.int .i64 (i:Nat)))]) (fun i=>[(9100,.live 1 ((((qAw 0).take i).map bsT).map V.t) true false),(16384,.live 2 [.agg [.nil,.t (.int .i64 0)]] true true),(4096,.live 2 [.agg [.nil,.t (.int .i64 0)]] true true)]) ?_ (fun i hi=>?_)
    ·refine qK.cv0 (hv:=[(9100,.live 1 [] true false)]) (ho:=[(16384,.live 2 [.agg [.nil,.t (.int .i64 0)]] true true),(4096,.live 2 [.agg [.nil,.t (.int .i64 0)]] true true)]) id ?_ ?_ rfl rfl;all_goals simp(disch:=omega)only[go_sem,mcn,id]
    ·by_cases hlt:i<16
     ·by_cases h12:i<12
      ·simp(disch:=omega)only[go_sem,c0,c1,qI,h1,h2,qO,qP,zD,zE,hf1,hf2];refine⟨hlt,qK.cv (hv:=[]) [61504] (fun j=>if j=9100 then 61536 else j) ?_ rfl⟩;simp(disch:=omega)only[go_sem,wJ hlt,szA,List.take_replicate,Nat.min_self,zBe h12];rfl
      ·simp(disch:=omega)only[go_sem,c0,c1,qI,h1,h2,qO,qP,zD,zE,hf1,hf2];refine⟨hlt,qK.cv (hv:=[]) [61504] (fun j=>if j=9100 then 61536 else j) ?_ rfl⟩;simp(disch:=omega)only[go_sem,wJ hlt,szA,List.take_replicate,Nat.min_self,zBf h12];rfl
     ·have e:i=16:=oM;subst e;simp(disch:=omega)only[go_sem,c0,c1,qI,h1,h2,qO,qP,zD,zE,hf1,hf2];refine qK.rd (fun j=>if j=9000 then 65600 else if j=9001 then 9100 else j) ?_ ?_ rfl;all_goals simp(disch:=omega)only[go_sem,qEd]
   ·simp(disch:=omega)only[go_sem,c0,c1,qI,h1,h2,qO,qP,zD,zE,hf1,hf2];refine qJ 1 ?_;simp(disch:=omega)only[go_sem,qF,c0,c1,qI,h1,h2,qO,qP,zD,zE,hf1,hf2];refine qK.trans (fs':=[(0,.t (.int .i64 s)),(2,.ref 4096 0 0),(3,.ref 16384 0 0),(12,.t (.int .i64 2))]) (qK.cv0 (hv:=[(9002,.live 1 [] true false)]) (ho:=[(16384,.live 2 [.agg [.sl 9000 0 2,.t (.int .i64 0)]] true true),(9000,.live 1 [.sl 9001 0 16,.sl 9002 0 0] true false),(9001,.live 1 (((qAw 0:qX).map bsT).map V.t) true false),(4096,.live 2 [.agg [.nil,.t (.int .i64 0)]] true true)]) (fun j=>if j=9000 then 65600 else j) ?_ ?_ rfl rfl) (qK.rd id ?_ ?_ rfl);all_goals simp(disch:=omega)only[go_sem,mcn,id]
   ·simp(disch:=omega)only[go_sem,c0,c1,qI,h1,h2,qO,qP,zD,zE,hf1,hf2];exact⟨rfl,rfl⟩
 ·rw[qCx h3,if_pos oM,if_pos oM];simp(disch:=omega)only[go_sem,jI,h4,hf1,hf2];refine qB 2 (fun k=>match k with | 0=>[(0,.t (.int .i64 s)),(2,.ref 4096 0 0),(3,.ref 16384 0 0),(12,.t (.int .i64 0))] | 1=>[(0,.t (.int .i64 s)),(2,.ref 4096 0 0),(3,.ref 16384 0 0),(12,.t (.int .i64 1))] | _=>[(0,.t (.int .i64 s)),(2,.ref 4096 0 0),(3,.ref 16384 0 0),(12,.t (.int .i64 2))]) (fun k=>match k with | 0=>[(16384,.live 2 [.agg [.nil,.t (.int .i64 0)]] true true),(4096,.live 2 [.agg [.nil,.t (.int .i64 0)]] true true)] | 1=>[(16384,.live 2 [.agg [.sl 9000 0 1,.t (.int .i64 0)]] true true),(9000,.live 1 [.sl 9001 0 16] true false),(9001,.live 1 (((qAw 0:qX).map bsT).map V.t) true false),(4096,.live 2 [.agg [.nil,.t (.int .i64 0)]] true true)] | _=>[(16384,.live 2 [.agg [.sl 9000 0 2,.t (.int .i64 0)]] true true),(9000,.live 1 [.sl 9001 0 16,.sl 9002 0 16] true false),(9001,.live 1 (((qAw 0:qX).map bsT).map V.t) true false),(9002,.live 1 (((qAw 1:qX).map bsT).map V.t) true false),(4096,.live 2 [.agg [.nil,.t (.int .i64 0)]] true true)]) ?_ (fun k hk=>?_)
  ·refine qK.rd id ?_ ?_ rfl;all_goals simp(disch:=omega)only[go_sem,id]
  ·rcases (show k=0∨k=1∨k=2 by omega) with rfl | rfl | rfl
   ·simp(disch:=omega)only[go_sem,c0,c1,qI,h1,h2,qO,qP,zD,zE,hf1,hf2];refine qB 16 (fun i=>[(0,.t (.int .i64 s)),(2,.ref 4096 0 0),(3,.ref 16384 0 0),(12,.t (.int .i64 0)),(4,.t (.int .i64 0)),(5,.sl 9100 0 i),(6,.t (.int .i64 (i:Nat)))]) (fun i=>[(9100,.live 1 ((((qAw 0).take i).map bsT).map V.t) true false),(16384,.live 2 [.agg [.nil,.t (.int .i64 0)]] true true),(4096,.live 2 [.agg [.nil,.t (.int .i64 0)]] true true)]) ?_ (fun i hi=>?_)
    ·refine qK.cv0 (hv:=[(9100,.live 1 [] true false)]) (ho:=[(16384,.live 2 [.agg [.nil,.t (.int .i64 0)]] true true),(4096,.live 2 [.agg [.nil,.t (.int .i64 0)]] true true)]) id ?_ ?_ rfl rfl;all_goals simp(disch:=omega)only[go_sem,mcn,id]
    ·by_cases hlt:i<16
     ·by_cases h12:i<12
      ·simp(disch:=omega)only[go_sem,c0,c1,qI,h1,h2,qO,qP,zD,zE,hf1,hf2];refine⟨hlt,qK.cv (hv:=[]) [61504] (fun j=>if j=9100 then 61536 else j) ?_ rfl⟩;simp(disch:=omega)only[go_sem,wJ hlt,szA,List.take_replicate,Nat.min_self,zBe h12];rfl
      ·simp(disch:=omega)only[go_sem,c0,c1,qI,h1,h2,qO,qP,zD,zE,hf1,hf2];refine⟨hlt,qK.cv (hv:=[]) [61504] (fun j=>if j=9100 then 61536 else j) ?_ rfl⟩;simp(disch:=omega)only[go_sem,wJ hlt,szA,List.take_replicate,Nat.min_self,zBf h12];rfl
     ·have e:i=16:=oM;subst e;simp(disch:=omega)only[go_sem,c0,c1,qI,h1,h2,qO,qP,zD,zE,hf1,hf2];refine qK.rd (fun j=>if j=9000 then 65600 else if j=9001 then 9100 else j) ?_ ?_ rfl;all_goals simp(disch:=omega)only[go_sem,qEd]
   ·simp(disch:=omega)only[go_sem,c0,c1,qI,h1,h2,qO,qP,zD,zE,hf1,hf2];refine qB 16 (fun i=>[(0,.t (.int .i64 s)),(2,.ref 4096 0 0),(3,.ref 16384 0 0),(12,.t (.int .i64 1)),(4,.t (.int .i64 1)),(5,.sl 9100 0 i),(6,.t (.int .i64 (i:Nat)))]) (fun i=>[(9100,.live 1 ((((qAw 1).take i).map bsT).map V.t) true false),(16384,.live 2 [.agg [.sl 9000 0 1,.t (.int .i64 0)]] true true),(9000,.live 1 [.sl 9001 0 16] true false),(9001,.live 1 (((qAw 0:qX).map bsT).map V.t) true false),(4096,.live 2 [.agg [.nil,.t (.int .i64 0)]] true true)]) ?_ (fun i hi=>?_)
    ·refine qK.cv0 (hv:=[(9100,.live 1 [] true false)]) (ho:=[(16384,.live 2 [.agg [.sl 9000 0 1,.t (.int .i64 0)]] true true),(9000,.live 1 [.sl 9001 0 16] true false),(9001,.live 1 (((qAw 0:qX).map bsT).map V.t) true false),(4096,.live 2 [.agg [.nil,.t (.int .i64 0)]] true true)]) id ?_ ?_ rfl rfl;all_goals simp(disch:=omega)only[go_sem,mcn,id]
    ·by_cases hlt:i<16
     ·by_cases h12:i<12
      ·simp(disch:=omega)only[go_sem,c0,c1,qI,h1,h2,qO,qP,zD,zE,hf1,hf2];refine⟨hlt,qK.cv (hv:=[]) [61504] (fun j=>if j=9100 then 61536 else j) ?_ rfl⟩;simp(disch:=omega)only[go_sem,wJ hlt,szA,List.take_replicate,Nat.min_self,zBe h12];rfl
      ·simp(disch:=omega)only[go_sem,c0,c1,qI,h1,h2,qO,qP,zD,zE,hf1,hf2];refine⟨hlt,qK.cv (hv:=[]) [61504] (fun j=>if j=9100 then 61536 else j) ?_ rfl⟩;simp(disch:=omega)only[go_sem,wJ hlt,szA,List.take_replicate,Nat.min_self,zBf h12];rfl
     ·have e:i=16:=oM;subst e;simp(disch:=omega)only[go_sem,c0,c1,qI,h1,h2,qO,qP,zD,zE,hf1,hf2];refine qK.rd (fun j=>if j=9000 then 65600 else if j=9002 then 9100 else j) ?_ ?_ rfl;all_goals simp(disch:=omega)only[go_sem,qEd]
   ·simp(disch:=omega)only[go_sem,c0,c1,qI,h1,h2,qO,qP,zD,zE,hf1,hf2];exact⟨rfl,rfl⟩
theorem zJv (h1:LkC tab 35 qGn)(s:Int)(h3 : ¬ s%4=0):vY.1.wp tab gl (qE 0 [.t (.int .i64 s)]) (qE 0 []) (kN [] [(2,some (2,true))] 0 (fun r o=>r=twR (yK s) 0∧o=twO (yK s))):=by
 have h4:(s%4==0)=false:=by simpa using h3
 have hf1:s.fdiv 1=s:=Int.fdiv_one s;have hf2:s.fdiv 2=s/2:=Int.fdiv_eq_ediv_of_nonneg s oM;have hc0:s%2=0∨s%2=1:=oM;have hc1:s/2%2=0∨s/2%2=1:=oM;rcases hc0 with c0 | c0<;>rcases hc1 with c1 | c1
 ·exact absurd oM h3
 ·rw[qCx h3,if_neg oM,if_pos oM];simp(disch:=omega)only[go_sem,vY,h4,hf1,hf2];refine qB 2 (fun k=>match k with | 0=>[(0,.t (.int .i64 s)),(2,.ref 4096 0 0),(3,.ref 8208 0 0),(4,.t (.int .i64 0))] | 1=>[(0,.t (.int .i64 s)),(2,.ref 4096 0 0),(3,.ref 8208 0 0),(4,.t (.int .i64 1))] | _=>[(0,.t (.int .i64 s)),(2,.ref 4096 0 0),(3,.ref 8208 0 0),(4,.t (.int .i64 2))]) (fun k=>match k with | 0=>[(8208,.live 2 [.agg [.nil,.t (.int .i64 0)]] true true),(4096,.live 2 [.agg [.nil,.t (.int .i64 0)]] true true)] | 1=>[(8208,.live 2 [.agg [.sl 9000 0 1,.t (.int .i64 0)]] true true),(9000,.live 1 [.sl 9001 0 0] true false),(9001,.live 1 ((([]:qX).map bsT).map V.t) true false),(4096,.live 2 [.agg [.nil,.t (.int .i64 0)]] true true)] | _=>[(8208,.live 2 [.agg [.sl 9000 0 2,.t (.int .i64 0)]] true true),(9000,.live 1 [.sl 9001 0 0,.sl 9002 0 16] true false),(9001,.live 1 ((([]:qX).map bsT).map V.t) true false),(9002,.live 1 (((qAw 1:qX).map bsT).map V.t) true false),(4096,.live 2 [.agg [.nil,.t (.int .i64 0)]] true true)]) ?_ (fun k hk=>?_)
  ·refine qK.rd id ?_ ?_ rfl;all_goals simp(disch:=omega)only[go_sem,id]
  ·rcases (show k=0∨k=1∨k=2 by omega) with rfl | rfl | rfl
   ·simp(disch:=omega)only[go_sem,c0,c1,qI,h1,yP,yQ,hf1,hf2];refine qJ 1 ?_;simp(disch:=omega)only[go_sem,qF,c0,c1,qI,h1,yP,yQ,hf1,hf2];refine qK.trans (fs':=[(0,.t (.int .i64 s)),(2,.ref 4096 0 0),(3,.ref 8208 0 0),(4,.t (.int .i64 1))]) (qK.cv0 (hv:=[(9001,.live 1 [] true false)]) (ho:=[(8208,.live 2 [.agg [.sl 9000 0 1,.t (.int .i64 0)]] true true),(9000,.live 1 [.sl 9001 0 0] true false),(4096,.live 2 [.agg [.nil,.t (.int .i64 0)]] true true)]) (fun j=>if j=9000 then 53312 else j) ?_ ?_ rfl rfl) (qK.rd id ?_ ?_ rfl);all_goals simp(disch:=omega)only[go_sem,mcn,id]
   ·simp(disch:=omega)only[go_sem,c0,c1,qI,h1,yP,yQ,hf1,hf2];refine qB 16 (fun i=>[(0,.t (.int .i64 s)),(2,.ref 4096 0 0),(3,.ref 8208 0 0),(4,.t (.int .i64 1)),(5,.sl 9100 0 i),(6,.t (.int .i64 (i:Nat)))]) (fun i=>[(9100,.live 1 ((((qAw 1).take i).map bsT).map V.t) true false),(8208,.live 2 [.agg [.sl 9000 0 1,.t (.int .i64 0)]] true true),(9000,.live 1 [.sl 9001 0 0] true false),(9001,.live 1 ((([]:qX).map bsT).map V.t) true false),(4096,.live 2 [.agg [.nil,.t (.int .i64 0)]] true true)]) ?_ (fun i hi=>?_)
    ·refine qK.cv0 (hv:=[(9100,.live 1 [] true false)]) (ho:=[(8208,.live 2 [.agg [.sl 9000 0 1,.t (.int .i64 0)]] true true),(9000,.live 1 [.sl 9001 0 0] true false),(9001,.live 1 ((([]:qX).map bsT).map V.t) true false),(4096,.live 2 [.agg [.nil,.t (.int .i64 0)]] true true)]) id ?_ ?_ rfl rfl;all_goals simp(disch:=omega)only[go_sem,mcn,id]
    ·by_cases hlt:i<16
     ·simp(disch:=omega)only[go_sem,c0,c1,qI,h1,yP,yQ,hf1,hf2];refine⟨hlt,qK.cv (hv:=[]) [49200] (fun j=>if j=9100 then 49232 else j) ?_ rfl⟩;simp(disch:=omega)only[go_sem,wJ hlt,szA,List.take_replicate,Nat.min_self];rfl
     ·have e:i=16:=oM;subst e;simp(disch:=omega)only[go_sem,c0,c1,qI,h1,yP,yQ,hf1,hf2];refine qK.rd (fun j=>if j=9000 then 53312 else if j=9002 then 9100 else j) ?_ ?_ rfl;all_goals simp(disch:=omega)only[go_sem,qEd]
   ·simp(disch:=omega)only[go_sem,c0,c1,qI,h1,yP,yQ,hf1,hf2];exact⟨rfl,rfl⟩
 ·rw[qCx h3,if_pos oM,if_neg oM];simp(disch:=omega)only[go_sem,vY,h4,hf1,hf2];refine qB 2 (fun k=>match k with | 0=>[(0,.t (.int .i64 s)),(2,.ref 4096 0 0),(3,.ref 8208 0 0),(4,.t (.int .i64 0))] | 1=>[(0,.t (.int .i64 s)),(2,.ref 4096 0 0),(3,.ref 8208 0 0),(4,.t (.int .i64 1))] | _=>[(0,.t (.int .i64 s)),(2,.ref 4096 0 0),(3,.ref 8208 0 0),(4,.t (.int .i64 2))]) (fun k=>match k with | 0=>[(8208,.live 2 [.agg [.nil,.t (.int .i64 0)]] true true),(4096,.live 2 [.agg [.nil,.t (.int .i64 0)]] true true)] | 1=>[(8208,.live 2 [.agg [.sl 9000 0 1,.t (.int .i64 0)]] true true),(9000,.live 1 [.sl 9001 0 16] true false),(9001,.live 1 (((qAw 0:qX).map bsT).map V.t) true false),(4096,.live 2 [.agg [.nil,.t (.int .i64 0)]] true true)] | _=>[(8208,.live 2 [.agg [.sl 9000 0 2,.t (.int .i64 0)]] true true),(9000,.live 1 [.sl 9001 0 16,.sl 9002 0 0] true false),(9001,.live 1 (((qAw 0:qX).map bsT).map V.t) true false),(9002,.live 1 ((([]:qX).map bsT).map V.t) true false),(4096,.live 2 [.agg [.nil,.t (.int .i64 0)]] true true)]) ?_ (fun k hk=>?_)
  ·refine qK.rd id ?_ ?_ rfl;all_goals simp(disch:=omega)only[go_sem,id]
  ·rcases (show k=0∨k=1∨k=2 by omega) with rfl | rfl | rfl
   ·simp(disch:=omega)only[go_sem,c0,c1,qI,h1,yP,yQ,hf1,hf2];refine qB 16 (fun i=>[(0,.t (.int .i64 s)),(2,.ref 4096 0 0),(3,.ref 8208 0 0),(4,.t (.int .i64 0)),(5,.sl 9100 0 i),(6,.t (.int .i64 (i:Nat)))]) (fun i=>[(9100,.live 1 ((((qAw 0).take i).map bsT).map V.t) true false),(8208,.live 2 [.agg [.nil,.t (.int .i64 0)]] true true),(4096,.live 2 [.agg [.nil,.t (.int .i64 0)]] true true)]) ?_ (fun i hi=>?_)
    ·refine qK.cv0 (hv:=[(9100,.live 1 [] true false)]) (ho:=[(8208,.live 2 [.agg [.nil,.t (.int .i64 0)]] true true),(4096,.live 2 [.agg [.nil,.t (.int .i64 0)]] true true)]) id ?_ ?_ rfl rfl;all_goals simp(disch:=omega)only[go_sem,mcn,id]
    ·by_cases hlt:i<16
     ·simp(disch:=omega)only[go_sem,c0,c1,qI,h1,yP,yQ,hf1,hf2];refine⟨hlt,qK.cv (hv:=[]) [49200] (fun j=>if j=9100 then 49232 else j) ?_ rfl⟩;simp(disch:=omega)only[go_sem,wJ hlt,szA,List.take_replicate,Nat.min_self];rfl
     ·have e:i=16:=oM;subst e;simp(disch:=omega)only[go_sem,c0,c1,qI,h1,yP,yQ,hf1,hf2];refine qK.rd (fun j=>if j=9000 then 53312 else if j=9001 then 9100 else j) ?_ ?_ rfl;all_goals simp(disch:=omega)only[go_sem,qEd]
   ·simp(disch:=omega)only[go_sem,c0,c1,qI,h1,yP,yQ,hf1,hf2];refine qJ 1 ?_;simp(disch:=omega)only[go_sem,qF,c0,c1,qI,h1,yP,yQ,hf1,hf2];refine qK.trans (fs':=[(0,.t (.int .i64 s)),(2,.ref 4096 0 0),(3,.ref 8208 0 0),(4,.t (.int .i64 2))]) (qK.cv0 (hv:=[(9002,.live 1 [] true false)]) (ho:=[(8208,.live 2 [.agg [.sl 9000 0 2,.t (.int .i64 0)]] true true),(9000,.live 1 [.sl 9001 0 16,.sl 9002 0 0] true false),(9001,.live 1 (((qAw 0:qX).map bsT).map V.t) true false),(4096,.live 2 [.agg [.nil,.t (.int .i64 0)]] true true)]) (fun j=>if j=9000 then 53312 else j) ?_ ?_ rfl rfl) (qK.rd id ?_ ?_ rfl);all_goals simp(disch:=omega)only[go_sem,mcn,id]
   ·simp(disch:=omega)only[go_sem,c0,c1,qI,h1,yP,yQ,hf1,hf2];exact⟨rfl,rfl⟩
 ·rw[qCx h3,if_pos oM,if_pos oM];simp(disch:=omega)only[go_sem,vY,h4,hf1,hf2];refine qB 2 (fun k=>match k with | 0=>[(0,.t (.int .i64 s)),(2,.ref 4096 0 0),(3,.ref 8208 0 0),(4,.t (.int .i64 0))] | 1=>[(0,.t (.int .i64 s)),(2,.ref 4096 0 0),(3,.ref 8208 0 0),(4,.t (.int .i64 1))] | _=>[(0,.t (.int .i64 s)),(2,.ref 4096 0 0),(3,.ref 8208 0 0),(4,.t (.int .i64 2))]) (fun k=>match k with | 0=>[(8208,.live 2 [.agg [.nil,.t (.int .i64 0)]] true true),(4096,.live 2 [.agg [.nil,.t (.int .i64 0)]] true true)] | 1=>[(8208,.live 2 [.agg [.sl 9000 0 1,.t (.int .i64 0)]] true true),(9000,.live 1 [.sl 9001 0 16] true false),(9001,.live 1 (((qAw 0:qX).map bsT).map V.t) true false),(4096,.live 2 [.agg [.nil,.t (.int .i64 0)]] true true)] | _=>[(8208,.live 2 [.agg [.sl 9000 0 2,.t (.int .i64 0)]] true true),(9000,.live 1 [.sl 9001 0 16,.sl 9002 0 16] true false),(9001,.live 1 (((qAw 0:qX).map bsT).map V.t) true false),(9002,.live 1 (((qAw 1:qX).map bsT).map V.t) true false),(4096,.live 2 [.agg [.nil,.t (.int .i64 0)]] true true)]) ?_ (fun k hk=>?_)
  ·refine qK.rd id ?_ ?_ rfl;all_goals simp(disch:=omega)only[go_sem,id]
  ·rcases (show k=0∨k=1∨k=2 by omega) with rfl | rfl | rfl
   ·simp(disch:=omega)only[go_sem,c0,c1,qI,h1,yP,yQ,hf1,hf2];refine qB 16 (fun i=>[(0,.t (.int .i64 s)),(2,.ref 4096 0 0),(3,.ref 8208 0 0),(4,.t (.int .i64 0)),(5,.sl 9100 0 i),(6,.t (.int .i64 (i:Nat)))]) (fun i=>[(9100,.live 1 ((((qAw 0).take i).map bsT).map V.t) true false),(8208,.live 2 [.agg [.nil,.t (.int .i64 0)]] true true),(4096,.live 2 [.agg [.nil,.t (.int .i64 0)]] true true)]) ?_ (fun i hi=>?_)
    ·refine qK.cv0 (hv:=[(9100,.live 1 [] true false)]) (ho:=[(8208,.live 2 [.agg [.nil,.t (.int .i64 0)]] true true),(4096,.live 2 [.agg [.nil,.t (.int .i64 0)]] true true)]) id ?_ ?_ rfl rfl;all_goals simp(disch:=omega)only[go_sem,mcn,id]
    ·by_cases hlt:i<16
     ·simp(disch:=omega)only[go_sem,c0,c1,qI,h1,yP,yQ,hf1,hf2];refine⟨hlt,qK.cv (hv:=[]) [49200] (fun j=>if j=9100 then 49232 else j) ?_ rfl⟩;simp(disch:=omega)only[go_sem,wJ hlt,szA,List.take_replicate,Nat.min_self];rfl
     ·have e:i=16:=oM;subst e;simp(disch:=omega)only[go_sem,c0,c1,qI,h1,yP,yQ,hf1,hf2];refine qK.rd (fun j=>if j=9000 then 53312 else if j=9001 then 9100 else j) ?_ ?_ rfl;all_goals simp(disch:=omega)only[go_sem,qEd]
   ·simp(disch:=omega)only[go_sem,c0,c1,qI,h1,yP,yQ,hf1,hf2];refine qB 16 (fun i=>[(0,.t (.int .i64 s)),(2,.ref 4096 0 0),(3,.ref 8208 0 0),(4,.t (.int .i64 1)),(5,.sl 9100 0 i),(6,.t (.int .i64 (i:Nat)))]) (fun i=>[(9100,.live 1 ((((qAw 1).take i).map bsT).map V.t) true false),(8208,.live 2 [.agg [.sl 9000 0 1,.t (.int .i64 0)]] true true),(9000,.live 1 [.sl 9001 0 16] true false),(9001,.live 1 (((qAw 0:qX).map bsT).map V.t) true false),(4096,.live 2 [.agg [.nil,.t (.int .i64 0)]] true true)]) ?_ (fun i hi=>?_)
    ·refine qK.cv0 (hv:=[(9100,.live 1 [] true false)]) (ho:=[(8208,.live 2 [.agg [.sl 9000 0 1,.t (.int .i64 0)]] true true),(9000,.live 1 [.sl 9001 0 16] true false),(9001,.live 1 (((qAw 0:qX).map bsT).map V.t) true false),(4096,.live 2 [.agg [.nil,.t (.int .i64 0)]] true true)]) id ?_ ?_ rfl rfl;all_goals simp(disch:=omega)only[go_sem,mcn,id]
    ·by_cases hlt:i<16
     ·simp(disch:=omega)only[go_sem,c0,c1,qI,h1,yP,yQ,hf1,hf2];refine⟨hlt,qK.cv (hv:=[]) [49200] (fun j=>if j=9100 then 49232 else j) ?_ rfl⟩;simp(disch:=omega)only[go_sem,wJ hlt,szA,List.take_replicate,Nat.min_self];rfl
     ·have e:i=16:=oM;subst e;simp(disch:=omega)only[go_sem,c0,c1,qI,h1,yP,yQ,hf1,hf2];refine qK.rd (fun j=>if j=9000 then 53312 else if j=9002 then 9100 else j) ?_ ?_ rfl;all_goals simp(disch:=omega)only[go_sem,qEd]
   ·simp(disch:=omega)only[go_sem,c0,c1,qI,h1,yP,yQ,hf1,hf2];exact⟨rfl,rfl⟩
def vR:Ct where
 α:=Int
 aS x:=[.t (.int .i64 x)]
 ins _:=[]
 pre _:=True
 r x:= .t (.bool (decide ((0:Int)≤x∧x<(16:Int))))
 outs _:=[]
 inj:=by
  intro a b h _;simp at h;subst h;exact⟨rfl,rfl⟩
theorem qG5 {i:Int}(h:0≤i∧i<16):vR.fs [.t (.int .i64 i)] []=some (.t (.bool true),[]):=by
 refine (vR.eq i trivial).trans ?_;simp[vR,h]
theorem qTw {i:Int}(h : ¬ (0≤i∧i<16)):vR.fs [.t (.int .i64 i)] []=some (.t (.bool false),[]):=by
 refine (vR.eq i trivial).trans ?_;simp only[vR,decide_eq_false h]
def qHr:Ct where
 α:=List qX×Int×Nat
 aS x:=[.t (jT x.1 x.2.1),.t (.int .i64 x.2.2)]
 ins _:=[]
 pre x:=RK x.1∧x.2.2<2
 r x:= .t (.bool (onB x.1 x.2.2))
 outs _:=[]
 inj:=by
  rintro⟨a,u,i⟩ ⟨b,v,j⟩ h _;simp only[List.cons.injEq,V.t.injEq,T.int.injEq,true_and,and_true,Int.natCast_inj] at h;obtain⟨h1,rfl⟩:=h;obtain⟨rfl,rfl⟩:=qAr h1;exact⟨rfl,rfl⟩
theorem zMv {bk:List qX}{u:Int}{a:Nat}(hk:RK bk)(h:a<2):qHr.fs [.t (.agg [.sl (bk.map wY),.int .i64 u]),.t (.int .i64 a)] []=some (.t (.bool (onB bk a)),[]):=qHr.eq (bk,u,a) ⟨hk,h⟩
theorem vP {b0 b1:qX}{u:Int}(hk:RK [b0,b1]):qHr.fs [.t (.agg [.sl [.sl (b0.map bsT),.sl (b1.map bsT)],.int .i64 u]),.t (.int .i64 0)] []=some (.t (.bool (decide (b0.length=16))),[]):=qHr.eq ([b0,b1],u,0) ⟨hk,by show 0<2;omega⟩
theorem vQ {b0 b1:qX}{u:Int}(hk:RK [b0,b1]):qHr.fs [.t (.agg [.sl [.sl (b0.map bsT),.sl (b1.map bsT)],.int .i64 u]),.t (.int .i64 1)] []=some (.t (.bool (decide (b1.length=16))),[]):=qHr.eq ([b0,b1],u,1) ⟨hk,by show 1<2;omega⟩
theorem zV9 {u:Int}{a:Nat}(h:a<2):qHr.fs [.t (.agg [.sl [],.int .i64 u]),.t (.int .i64 a)] []=some (.t (.bool false),[]):=by
 refine (qHr.eq ([],u,a) ⟨.nil,h⟩).trans ?_;simp[qHr,onB]
def qCf:Ct where
 α:=List qX×Int×Nat
 aS x:=[.t (jT x.1 x.2.1),.t (.int .i64 x.2.2)]
 ins _:=[]
 pre x:=RK x.1∧x.2.2<1000000000
 r x:= .t (.bool (zPa x.1 x.2.2))
 outs _:=[]
 inj:=by
  rintro⟨a,u,i⟩ ⟨b,v,j⟩ h _;simp only[List.cons.injEq,V.t.injEq,T.int.injEq,true_and,and_true,Int.natCast_inj] at h;obtain⟨h1,rfl⟩:=h;obtain⟨rfl,rfl⟩:=qAr h1;exact⟨rfl,rfl⟩
theorem RK.on {bk:List qX}(h:RK bk)(a:Nat):zPa bk a=onB bk a:=by
 cases h with
 | nil=>simp[zPa,onB]
 | two b0 b1 h0 h1=>
  have key : ∀ b:qX,qVm b→decide (0<List.length b)=decide (List.length b=16):=by
   intro b hb;rcases hb with h | h<;>simp[h]
  match a with
  | 0=>simpa [zPa,onB] using key b0 h0
  | 1=>simpa [zPa,onB] using key b1 h1
  | a+2=>simp[zPa,onB]
theorem zJ9 {bk:List qX}{u:Int}{a:Nat}(hk:RK bk)(h:a<1000000000):qCf.fs [.t (.agg [.sl (bk.map wY),.int .i64 u]),.t (.int .i64 a)] []=some (.t (.bool (onB bk a)),[]):=by
 refine (qCf.eq (bk,u,a) ⟨hk,h⟩).trans ?_;simp only[qCf,hk.on]
def zC2 (bk:List qX)(a i:Nat):List UInt8:=(bk.getD a []).getD i []
def zP3 (bank i:Int):Prop:=bank<0∨2≤bank∨i<0∨16≤i
instance (bank i:Int):Decidable (zP3 bank i):=by unfold zP3;infer_instance
def jBi (bk:List qX)(bank i:Int):V:=if zP3 bank i then .tup [.nil,.t (.int .i64 1)] else if onB bk bank.toNat then .tup [.sl 0 0 (zC2 bk bank.toNat i.toNat).length,.t (.int .i64 0)] else .tup [.nil,.t (.int .i64 27)]
def jBh (bk:List qX)(bank i:Int):List Ob:=if zP3 bank i then [] else if onB bk bank.toNat then [.live 1 (((zC2 bk bank.toNat i.toNat).map qA).map V.t) true false] else []
theorem RM.val {bk:List qX}(h:RM bk)(a i:Nat):(zC2 bk a i).length<1000000000:=by
 by_cases ha:a<bk.length
 ·have e:bk.getD a []=bk[a]:=by simp[List.getD,ha]
  unfold zC2;rw[e];exact qYg (h.2 _ (List.getElem_mem ha)) i
 ·have e:bk.getD a []=[]:=by simp[List.getD,List.getElem?_eq_none (Nat.le_of_not_lt ha)]
  unfold zC2;rw[e];simp
theorem RK.len {bk:List qX}(h:RK bk){a:Nat}(ho:onB bk a=true):a<bk.length:=by
 simp only[onB,decide_eq_true_eq] at ho;rcases Nat.lt_or_ge a bk.length with h1 | h1
 ·exact h1
 ·rw[List.getD,List.getElem?_eq_none h1] at ho;simp at ho
theorem qQn (h1:LkC tab 234 vR)(h2:LkC tab 235 qHr)(bk:List qX)(u bank i:Int)(hk:RM bk) :
  jN.1.wp tab gl (qE 0 [.t (jT bk u),.t (.int .i64 bank),.t (.int .i64 i)]) (qE 0 []) (kN [] [(6,none),(7,none)] 0 (fun r o=>r=jBi bk bank i∧o=jBh bk bank i)):=by
 by_cases hb:zP3 bank i
 ·rw[jBi,jBh,if_pos hb,if_pos hb];by_cases b1:bank<0
  ·simp(disch:=omega)only[go_sem,jN,b1]
  ·by_cases b2:2≤bank
   ·simp(disch:=omega)only[go_sem,jN,b1]
   ·have hi : ¬ (0≤i∧i<16):=by unfold zP3 at hb;omega
    simp(disch:=omega)only[go_sem,jN,b1,h1,qTw]
 ·rw[jBi,jBh,if_neg hb,if_neg hb];unfold zP3 at hb;obtain⟨a,rfl⟩:=Int.eq_ofNat_of_zero_le (show 0≤bank by omega);obtain⟨k,rfl⟩:=Int.eq_ofNat_of_zero_le (show 0≤i by omega);have hon:=zMv (u:=u) (a:=a) hk.1 oM;by_cases ho:onB bk a=true
  ·have hl:=hk.1.len ho;have hv:=hk.val a k;have hl2:(bk.getD a []).length=16:=by simpa [onB] using ho
   rw[ho] at hon;unfold zC2 at hv;simp(disch:=omega)only[go_sem,jN,h1,h2,qG5,hon,ho,zC2]
  ·have ho':onB bk a=false:=by simpa using ho
   rw[ho'] at hon;simp(disch:=omega)only[go_sem,jN,h1,h2,qG5,hon,ho']
end Go.Eng
end
