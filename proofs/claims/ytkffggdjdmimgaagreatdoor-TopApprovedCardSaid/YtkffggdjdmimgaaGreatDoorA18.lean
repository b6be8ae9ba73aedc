/- A part of an abstract machine, its walks, their tie. -/
import Derived.Test.YtkffggdjdmimgaaGreatDoorA17
import Derived.Test.YtkffggdjdmimgaaGreatDoorA16
set_option linter.all false
section
set_option maxHeartbeats 64000000
set_option maxRecDepth 20000
namespace Go.Eng
open List
variable (tab:Tab) (gl:Gl)
def qTz (w:UInt8)(k:List UInt8):List UInt8:=(k++List.replicate (64-k.length) 0).map (· ^^^ w)
def zRe (k b:List UInt8):List UInt8:=zT (qTz 92 k++zT (qTz 54 k++b))
theorem qJs {w:UInt8}{k:List UInt8}(h:k.length≤64):(qTz w k).length=64:=by simp[qTz];omega
theorem zGw {k b:List UInt8}:List.take 32 (zRe k b)=zRe k b:=take_of_length_le (by rw[zRe,qH];omega)
theorem qQl {k b:List UInt8}:(zRe k b).length=32:=qH
def xk (w:UInt8)(z:List UInt8)(k:Nat):List UInt8:=(z.take k).map (· ^^^ w)++z.drop k
theorem yEo {w:UInt8}{z:List UInt8}:xk w z 0=z:=by simp[xk]
theorem yEp {w:UInt8}{z:List UInt8}{n:Nat}(h:z.length=n):xk w z n=z.map (· ^^^ w):=by subst h;simp[xk]
theorem zWp {w:UInt8}{z:List UInt8}{k:Nat}:(xk w z k).length=z.length:=by simp[xk];omega
theorem jRg {w:UInt8}{z:List UInt8}{k:Nat}(h:k<z.length):(xk w z k).getD k 0=z.getD k 0:=by
 have hl:((z.take k).map (· ^^^ w)).length=k:=soM;rw[xk,getD_eq_getElem?_getD,getElem?_append_right oM,hl,Nat.sub_self,getElem?_drop,getD_eq_getElem?_getD];rfl
theorem jRh {w:UInt8}{z:List UInt8}{k:Nat}(h:k<z.length):(xk w z k).set k (z.getD k 0 ^^^ w)=xk w z (k+1):=by
 have hl:((z.take k).map (· ^^^ w)).length=k:=soM;have hd:z.drop k=z.getD k 0::z.drop (k+1):=by
  rw[drop_eq_getElem_cons h];simp[List.getD,getElem?_eq_getElem h]
 rw[xk,xk,set_append_right _ _ oM,hl,Nat.sub_self,hd,set_cons_zero,qEe (d:=0) h,map_append,append_assoc];rfl
theorem zLk (w:UInt8)(key:List UInt8)(hk:key.length≤64) :
  qKm.1.wp tab gl (qE 0 [.t (qA w),.ref 0 0 0]) (qE 0 [.live 1 [.t (.sl (key.map qA))] true true]) (kG [] [(3,none)] 1 (fun r o=>r = .sl 1 0 64∧o=[.live 1 [.t (.sl (key.map qA))] true true,.live 1 (((qTz w key).map qA).map V.t) true false])):=by
 simp(maxSteps:=9^9)(disch:=try exact dS)only[go_sem,qKm];have hz:(List.take 64 key++List.replicate (64-key.length) 0).length=64:=soM;have hp:qTz w key=(List.take 64 key++List.replicate (64-key.length) 0).map (· ^^^ w):=by rw[qTz,take_of_length_le hk]
 rw[hp];generalize List.take 64 key++List.replicate (64-key.length) 0=z at *;refine qB 64 (fun k=>[(0,.t (qA w)),(4,.sl 8192 0 64),(10,.t (.int .i64 (k:Nat)))]) (fun k=>[(8192,.live 1 (((xk w z k).map qA).map V.t) true false),(0,.live 1 [.t (.sl (key.map qA))] true true)]) ?_ (fun k hk=>?_)
 ·refine qJ.rd id ?_ ?_ rfl;all_goals simp(maxSteps:=9^9)(disch:=try exact dS)only[go_sem,id,yEo]
  all_goals rfl
 ·have hx:(xk w z k).length=64:=by rw[zWp,hz]
  by_cases hlt:k<64
  ·have hg:=jRg (w:=w) (z:=z) (k:=k) oM;have hs:=jRh (w:=w) (z:=z) (k:=k) oM;simp(maxSteps:=9^9)(disch:=try exact dS)only[go_sem,hx,hg,hs];refine⟨hlt,qJ.rd id ?_ ?_ rfl⟩;all_goals simp(maxSteps:=9^9)(disch:=try exact dS)only[go_sem,id]
   all_goals first | omega | rfl
  ·have e:k=64:=oM;subst e;have hn:=yEp (w:=w) hz;have ht:List.take 64 z=z:=take_of_length_le oM;simp(maxSteps:=9^9)(disch:=try exact dS)only[go_sem,hn,hz,ht]
def zC6:Ct where
 α:=UInt8×List UInt8
 aS x:=[.t (qA x.1),.ref 0 0 0]
 ins x:=[.live 1 [.t (.sl (x.2.map qA))] true true]
 pre x:=x.2.length≤64
 r _:= .sl 1 0 64
 outs x:=[.live 1 [.t (.sl (x.2.map qA))] true true,.live 1 (((qTz x.1 x.2).map qA).map V.t) true false]
 inj:=by
  rintro⟨a,b⟩ ⟨c,d⟩ h h2;simp only[List.cons.injEq,V.t.injEq,qRi,and_true,bsT,Ob.live.injEq,T.sl.injEq,zN,true_and] at h h2;subst h h2;exact⟨rfl,rfl⟩
theorem zT1 {w:UInt8}{k:List UInt8}(h:k.length≤64):zC6.fs [.t (qA w),.ref 0 0 0] [.live 1 [.t (.sl (k.map qA))] true true]=some (.sl 1 0 64,[.live 1 [.t (.sl (k.map qA))] true true,.live 1 (((qTz w k).map qA).map V.t) true false]):=zC6.eq (w,k) h
theorem zWj (h1:LkC tab 153 qBa)(h2:LkC tab 154 zC6)(key b:List UInt8)(hk:key.length≤64)(hb:b.length<500000000) :
  qTb.1.wp tab gl (qE 0 [.t (bsT key),.t (bsT b)]) (qE 0 []) (kG [] [(4,none)] 0 (fun r o=>r = .sl 0 0 32∧o=[.live 1 (((zRe key b).map qA).map V.t) true false])):=by
 have m1:=zT1 (w:=54) hk;have m2:=zT1 (w:=92) hk;have l1:=qJs (w:=54) hk;have t1:List.take (64+b.length) (qTz 54 key++b)=qTz 54 key++b:=take_of_length_le (by simp[l1]);have l2:=qJs (w:=92) hk;have t2 : ∀ x,List.take 32 (zT x)=zT x:=fun x=>take_of_length_le (by rw[qH];omega)
 have t3 : ∀ x,List.take 96 (qTz 92 key++zT x)=qTz 92 key++zT x:=fun x=>take_of_length_le (by rw[length_append,l2,qH];omega)
 have hl:(qTz 54 key++b).length=64+b.length:=by simp[l1]
 have hl2:(qTz 92 key++zT (qTz 54 key++b)).length=96:=by rw[length_append,l2,qH]
 simp(maxSteps:=9^9)(disch:=try exact dS)only[go_sem,qTb,h1,h2,m1,m2,l1,l2,qH,hl,t1,t2,t3,qP,zRe]
theorem zNz {w:UInt8}{key:List UInt8}{k:Nat}(h:key.length≤64)(hk:k<64):(qTz w key).getD k 0=key.getD k 0 ^^^ w:=by
 rw[qTz,getD_eq_getElem?_getD,getElem?_map];by_cases hl:k<key.length
 ·rw[getElem?_append_left hl,getElem?_eq_getElem hl];simp[List.getD,getElem?_eq_getElem hl]
 ·rw[getElem?_append_right oM,getElem?_replicate,if_pos oM];simp[List.getD,getElem?_eq_none (show key.length≤k by omega)]
theorem jBs {d:List UInt8}{j n:Nat}{x:UInt8}(h:d.length=j)(hj:j<n):(d++List.replicate (n-j) 0).set j x=d++[x]++List.replicate (n-(j+1)) 0:=by
 rw[set_append_right _ _ oM,h,Nat.sub_self,show n-j=(n-(j+1))+1 by omega,replicate_succ,set_cons_zero];simp
def upZ (p:List UInt8)(k:Nat):List UInt8:=p.take k++List.replicate (64-k) 0
theorem jVk {p:List UInt8}:upZ p 0=List.replicate 64 0:=rfl
theorem jP4 {p:List UInt8}(h:p.length=64):upZ p 64=p:=by
 simp[upZ];exact take_of_length_le oM
theorem zCf {p:List UInt8}{k:Nat}(h:p.length=64)(hk:k≤64):(upZ p k).length=64:=by simp[upZ];omega
theorem zWa {p:List UInt8}{k:Nat}{x:UInt8}(h:p.length=64)(hk:k<64)(hx:p.getD k 0=x):(upZ p k).set k x=upZ p (k+1):=by
 rw[upZ,jBs soM hk,upZ,qEe (d:=0) oM,hx]
theorem zQ3 (h1:tab.look 52=some (qNy 32 zT).fs)(key b:List UInt8)(hk:key.length≤64)(hb:b.length<500000000) :
  qOb.1.wp tab gl (qE 0 [.t (bsT key),.t (bsT b)]) (qE 0 []) (kG [] [(4,none)] 0 (fun r o=>r = .sl 0 0 32∧o=[.live 1 (((zRe key b).map qA).map V.t) true false])):=by
 have l1:=qJs (w:=54) hk;have l2:=qJs (w:=92) hk;simp(maxSteps:=9^9)(disch:=try exact dS)only[go_sem,qOb];refine And.intro rfl ?_;refine qB 64 (fun k=>[(0,.t (.sl (key.map qA))),(1,.t (.sl (b.map qA))),(5,.sl 16384 0 64),(6,.sl 16400 0 64),(7,.t (.int .i64 (k:Nat)))]) (fun k=>[(16384,.live 1 (((upZ (qTz 54 key) k).map qA).map V.t) true false),(16400,.live 1 (((upZ (qTz 92 key) k).map qA).map V.t) true false)]) ?_ (fun k hk'=>?_)
 ·refine qJ.rd id ?_ ?_ rfl;all_goals simp(maxSteps:=9^9)(disch:=try exact dS)only[go_sem,id,jVk]
 ·have u1:=zCf (k:=k) l1 hk';have u2:=zCf (k:=k) l2 hk';by_cases hlt:k<64
  ·have g1:=zNz (w:=54) hk hlt;have g2:=zNz (w:=92) hk hlt;have s1:=zWa l1 hlt g1;have s2:=zWa l2 hlt g2;by_cases hin:k<key.length
   ·simp(maxSteps:=9^9)(disch:=try exact dS)only[go_sem,hin,u1,u2,s1,s2];refine⟨hlt,qJ.rd id ?_ ?_ rfl⟩;all_goals simp(maxSteps:=9^9)(disch:=try exact dS)only[go_sem,id]
    all_goals first | omega | rfl
   ·rw[show key.getD k 0=0 by simp[List.getD,getElem?_eq_none (show key.length≤k by omega)]] at s1 s2;simp(maxSteps:=9^9)(disch:=try exact dS)only[go_sem,hin,u1,u2,s1,s2];refine⟨hlt,qJ.rd id ?_ ?_ rfl⟩;all_goals simp(maxSteps:=9^9)(disch:=try exact dS)only[go_sem,id]
    all_goals first | omega | rfl
  ·have e:k=64:=oM;subst e;have t1:List.take (64+b.length) (qTz 54 key++b)=qTz 54 key++b:=take_of_length_le (by simp[l1]);have t2 : ∀ x,List.take 32 (zT x)=zT x:=fun x=>take_of_length_le (by rw[qH];omega)
   have t3 : ∀ x,List.take 96 (qTz 92 key++zT x)=qTz 92 key++zT x:=fun x=>take_of_length_le (by rw[length_append,l2,qH];omega)
   have hl:(qTz 54 key++b).length=64+b.length:=by simp[l1]
   have hl2:(qTz 92 key++zT (qTz 54 key++b)).length=96:=by rw[length_append,l2,qH]
   simp(maxSteps:=9^9)(disch:=try exact dS)only[go_sem,jP4 l1,jP4 l2,h1,l1,l2,qH,hl,t1,t2,t3,zCe,zRe]
def zBy:Ct where
 α:=List UInt8×List UInt8
 aS x:=[.t (.sl (x.1.map qA)),.t (.sl (x.2.map qA))]
 ins _:=[]
 pre x:=x.1.length≤64∧x.2.length<500000000
 r _:= .sl 0 0 32
 outs x:=[.live 1 (((zRe x.1 x.2).map qA).map V.t) true false]
 inj:=by
  rintro⟨a,b⟩ ⟨c,d⟩ h _;simp[zN] at h;obtain⟨rfl,rfl⟩:=h;exact⟨rfl,rfl⟩
theorem jD6 {k b:List UInt8}(h:k.length≤64∧b.length<500000000):zBy.fs [.t (.sl (k.map qA)),.t (.sl (b.map qA))] []=some (.sl 0 0 32,[.live 1 (((zRe k b).map qA).map V.t) true false]):=zBy.eq (k,b) h
def qDd (n:Nat):List UInt8:=[UInt8.ofNat (n/16777216),UInt8.ofNat (n/65536),UInt8.ofNat (n/256),UInt8.ofNat n]
theorem xX {n:Nat}:(qDd n).length=4:=rfl
theorem zQ0 (n:Nat):qN9.1.wp tab gl (qE 0 [.t (.int .i64 n)]) (qE 0 []) (kG [] [(2,none)] 0 (fun r o=>r = .sl 0 0 4∧o=[.live 1 (((qDd n).map qA).map V.t) true true])):=by
 simp(maxSteps:=9^9)(disch:=try exact dS)only[go_sem,qN9,zK0,qDd,mcn]
theorem zLt (n:Nat):qKt.1.wp tab gl (qE 0 [.t (.int .i64 n)]) (qE 0 []) (kG [] [(2,none)] 0 (fun r o=>r = .sl 0 0 4∧o=[.live 1 (((qDd n).map qA).map V.t) true true])):=by
 simp(maxSteps:=9^9)(disch:=try exact dS)only[go_sem,qKt,zK0,qDd,mcn]
def qTi:Ct where
 α:=Nat
 aS x:=[.t (.int .i64 x)]
 ins _:=[]
 pre _:=True
 r _:= .sl 0 0 4
 outs x:=[.live 1 (((qDd x).map qA).map V.t) true true]
 inj:=by
  intro a b h _;simp only[List.cons.injEq,V.t.injEq,T.int.injEq,true_and,and_true,Int.natCast_inj] at h;subst h;exact⟨rfl,rfl⟩
theorem zJ5 {n:Nat}:qTi.fs [.t (.int .i64 n)] []=some (.sl 0 0 4,[.live 1 (((qDd n).map qA).map V.t) true true]):=qTi.eq n trivial
theorem zJg {nb id n:Nat}{a:List UInt8}:qDj nb [.sl id 0 n,.t (qKe a)]=Q.get id fun x=>match x with
  | .live z' es true full=>Q.assert (z'=1∧es.length=n∧qEd (n+a.length) 1∧100≤id) (.free nb (.ret (.sl nb 0 (n+a.length),[(id,.dead),(nb,.live 1 (es++(a.map qA).map V.t) true false)])))
  | x=> .fail:=by
 have e : ∀ st:ByteArray,st.size=a.length→(st.data.toList.map fun b=>V.t (qA b))=(a.map qA).map V.t→qDj nb [.sl id 0 n,.t (.str st)]=Q.get id fun x=>match x with
  | .live z' es true full=>Q.assert (z'=1∧es.length=n∧qEd (n+a.length) 1∧100≤id) (.free nb (.ret (.sl nb 0 (n+a.length),[(id,.dead),(nb,.live 1 (es++(a.map qA).map V.t) true false)])))
  | x=> .fail:=fun st h1 h2=>by
  simp only[qDj,h1,h2];congr 1
 exact e _ (by simp[ByteArray.size]) sM
attribute [go_sem ↓] zJg
def drT (label ctx:List UInt8)(n:Nat):List UInt8:=label++[0]++ctx++qDd (8*n)
def drR (key rest:List UInt8)(k:Nat):List UInt8:=(List.range k).flatMap fun i=>zRe key (qDd (i+1)++rest)
def drv (key label ctx:List UInt8)(n:Nat):List UInt8:=(drR key (drT label ctx n) ((n+31)/32)).take n
theorem qM6 {key rest:List UInt8} : ∀ {k:Nat},(drR key rest k).length=32*k
 | 0=>rfl
 | k+1=>by
  have:=qM6 (key:=key) (rest:=rest) (k:=k);simp only[drR] at this ⊢;rw[range_succ,flatMap_append,length_append,this];simp[qQl];omega
theorem zNb {key rest:List UInt8}{k:Nat}:drR key rest (k+1)=drR key rest k++zRe key (qDd (k+1)++rest):=by
 simp[drR,range_succ]
theorem wG {key label ctx:List UInt8}{n:Nat}:(drv key label ctx n).length=n:=by
 rw[drv,length_take,qM6];omega
theorem zIk (h1:LkC tab 121 qTi)(h2:LkC tab 122 zBy)(key label ctx:List UInt8)(n:Nat)(hk:key.length≤64)(hl:label.length<100000000)(hc:ctx.length<100000000)(hn:n≤1024) :
  qEh.1.wp tab gl (qE 0 [.t (.sl (key.map qA)),.t (qKe label),.t (.sl (ctx.map qA)),.t (.int .i64 n)]) (qE 0 []) (qV [(8,none)] 0 (fun r o=>r = .t (.sl ((drv key label ctx n).map qA))∧o=[])):=by
 rcases Nat.eq_zero_or_pos n with rfl | hn0
 ·rw[show drv key label ctx 0=[] from rfl];simp(maxSteps:=9^9)(disch:=try exact dS)only[go_sem,qEh]
 have t4:List.take 4 (qDd (8*n))=qDd (8*n):=rfl;have lD:(drT label ctx n).length=label.length+1+ctx.length+4:=by simp[drT,qDd];omega
 simp(maxSteps:=9^9)(disch:=try exact dS)only[go_sem,qEh,h1,h2,zJ5,xX,t4];have hD:label++[0]++ctx++qDd (8*n)=drT label ctx n:=rfl;rw[hD];generalize hr:drT label ctx n=rest at *;have hm:label.length+1+ctx.length+4<300000000:=oM;generalize label.length+1+ctx.length+4=m at *;refine qB ((n+31)/32) (fun k=>[(0,.t (.sl (key.map qA))),(3,.t (.int .i64 n)),(9,.sl 20544 0 m),(10,.sl 9000 0 (32*k)),(11,.t (.int .i64 ((k+1:Nat):Int)))]) (fun k=>[(9000,.live 1 (((drR key rest k).map qA).map V.t) true false),(20544,.live 1 ((rest.map qA).map V.t) true false)]) ?_ (fun k hk'=>?_)
 ·refine qJ.cv0 (hv:=[(9000,.live 1 [] true false)]) (ho:=[(20544,.live 1 ((rest.map qA).map V.t) true false)]) id ?_ ?_ rfl rfl;all_goals simp(maxSteps:=9^9)(disch:=try exact dS)only[go_sem,id]
  all_goals rfl
 ·have hR:=qM6 (key:=key) (rest:=rest) (k:=k);by_cases hlt:32*k<n
  ·have t5:List.take m rest=rest:=take_of_length_le oM;have t6:List.take (4+m) (qDd (k+1)++rest)=qDd (k+1)++rest:=take_of_length_le (by rw[length_append,xX];omega);have hM:=jD6 (k:=key) (b:=qDd (k+1)++rest) ⟨hk,by rw[length_append,xX];omega⟩;simp(maxSteps:=9^9)(disch:=try exact dS)only[go_sem,h1,h2,zJ5,xX,hR,t5,t6,lD,hM,qQl,zGw];refine⟨oM,qJ.rd (fun j=>if j=9000 then 41072 else j) ?_ ?_ rfl⟩;all_goals simp(maxSteps:=9^9)(disch:=try exact dS)only[go_sem,id,zNb]
   all_goals first | omega | rfl
  ·have e:k=(n+31)/32:=oM;subst e;simp(maxSteps:=9^9)(disch:=try exact dS)only[go_sem,hR,drv,hr]
def qH2:Ct where
 α:=List UInt8×List UInt8×List UInt8×Nat
 aS x:=[.t (.sl (x.1.map qA)),.t (qKe x.2.1),.t (.sl (x.2.2.1.map qA)),.t (.int .i64 x.2.2.2)]
 ins _:=[]
 pre x:=x.1.length≤64∧x.2.1.length<100000000∧x.2.2.1.length<100000000∧x.2.2.2≤1024
 r x:= .t (.sl ((drv x.1 x.2.1 x.2.2.1 x.2.2.2).map qA))
 outs _:=[]
 inj:=by
  rintro⟨a,b,c,d⟩ ⟨e,f,g,h⟩ hh _;simp only[List.cons.injEq,V.t.injEq,T.int.injEq,T.sl.injEq,true_and,and_true,zN,zOq,Int.natCast_inj] at hh;obtain⟨rfl,rfl,rfl,rfl⟩:=hh;exact⟨rfl,rfl⟩
theorem qXt {k l c:List UInt8}{n:Nat}(h:k.length≤64∧l.length<100000000∧c.length<100000000∧1≤n∧n≤1024):qH2.fs [.t (.sl (k.map qA)),.t (qKe l),.t (.sl (c.map qA)),.t (.int .i64 n)] []=some (.t (.sl ((drv k l c n).map qA)),[]):=qH2.eq (k,l,c,n) ⟨h.1,h.2.1,h.2.2.1,h.2.2.2.2⟩
theorem zFg (h1:LkC tab 93 qTi)(h2:LkC tab 94 zBy)(key label ctx:List UInt8)(n:Nat)(hk:key.length≤64)(hl:label.length<100000000)(hc:ctx.length<100000000)(hn:n≤1024) :
  qC8.1.wp tab gl (qE 0 [.t (.sl (key.map qA)),.t (qKe label),.t (.sl (ctx.map qA)),.t (.int .i64 n)]) (qE 0 []) (qV [(8,none)] 0 (fun r o=>r = .t (.sl ((drv key label ctx n).map qA))∧o=[])):=by
 rcases Nat.eq_zero_or_pos n with rfl | hn0
 ·rw[show drv key label ctx 0=[] from rfl];simp(maxSteps:=9^9)(disch:=try exact dS)only[go_sem,qC8]
 simp(maxSteps:=9^9)(disch:=try exact dS)only[go_sem,qC8];have lD:(drT label ctx n).length=label.length+1+ctx.length+4:=by simp[drT,qDd];omega
 obtain⟨rest,hr⟩ : ∃ rest,drT label ctx n=rest:=⟨_,rfl⟩;have lR:rest.length=label.length+1+ctx.length+4:=by rw[←hr,lD]
 refine qB ((n+31)/32) (fun k=>[(0,.t (.sl (key.map qA))),(1,.t (qKe label)),(2,.t (.sl (ctx.map qA))),(3,.t (.int .i64 n)),(9,.sl 9000 0 (32*k)),(10,.t (.int .i64 ((k+1:Nat):Int)))]) (fun k=>[(9000,.live 1 (((drR key rest k).map qA).map V.t) true false)]) ?_ (fun k hk'=>?_)
 ·refine qJ.cv0 (hv:=[(9000,.live 1 [] true false)]) (ho:=[]) id ?_ ?_ rfl rfl;all_goals simp(maxSteps:=9^9)(disch:=try exact dS)only[go_sem,id]
  all_goals rfl
 ·have hR:=qM6 (key:=key) (rest:=rest) (k:=k);by_cases hlt:32*k<n
  ·have t4:List.take 4 (qDd (8*n))=qDd (8*n):=rfl;have hM:=jD6 (k:=key) (b:=qDd (k+1)++rest) ⟨hk,by rw[length_append,xX];omega⟩;have hA:qDd (k+1)++label++[0]++ctx++qDd (8*n)=qDd (k+1)++rest:=by rw[←hr,drT];simp only[append_assoc]
   have t5:List.take (4+label.length+1+ctx.length+4) (qDd (k+1)++rest)=qDd (k+1)++rest:=take_of_length_le (by rw[length_append,xX];omega);simp(maxSteps:=9^9)(disch:=try exact dS)only[go_sem,h1,h2,zJ5,xX,hR,t4,t5,hA,hM,qQl,zGw];refine⟨oM,qJ.rd (fun j=>if j=9000 then 41024 else j) ?_ ?_ rfl⟩;all_goals simp(maxSteps:=9^9)(disch:=try exact dS)only[go_sem,id,zNb]
   all_goals first | omega | rfl
  ·have e:k=(n+31)/32:=oM;subst e;simp(maxSteps:=9^9)(disch:=try exact dS)only[go_sem,hR,drv,hr]
theorem zL {b:List UInt8}{a:Nat}{e:Int}:vD (b,a,e) = .live 3 [.t (.agg [.sl (b.map qA),.int .i64 (a:Int),.int .i64 e])] true true:=rfl
theorem kC {s t:Rd}(h:vD s=vD t):s=t:=by
 obtain⟨b,a,e⟩:=s;obtain⟨b',a',e'⟩:=t;simp only[zL,Ob.live.injEq,List.cons.injEq,V.t.injEq,T.agg.injEq,T.sl.injEq,T.int.injEq,zN,Int.natCast_inj] at h;simp only[Prod.mk.injEq];exact⟨h.2.1.1.1,h.2.1.1.2.1.2,h.2.1.1.2.2.1.2⟩
def kP:Ct where
 α:=Rd×Nat×Nat
 aS x:=[.ref 0 0 0,.t (.int .i64 x.2.1),.t (.int .i64 x.2.2)]
 ins x:=[vD x.1]
 pre x:=qEo x.1∧x.2.1≤x.1.1.length∧x.2.2≤1000000000
 r x:=if x.2.1+x.2.2≤x.1.1.length then .tup [.t (.sl (((x.1.1.drop x.2.1).take x.2.2).map qA)),.t (.int .i64 0)] else .tup [.t (.sl []),.t (.int .i64 2)]
 outs x:=[vD x.1]
 inj:=by
  rintro⟨s,a,b⟩ ⟨t,c,d⟩ h1 h2;simp[Int.natCast_inj] at h1;simp only[List.cons.injEq,and_true] at h2;obtain⟨rfl,rfl⟩:=h1;cases kC h2;exact⟨rfl,rfl⟩
theorem zEe {b:List UInt8}{a p n:Nat}{e:Int}(h:a≤b.length∧b.length<1000000000∧p+n≤b.length):kP.fs [.ref 0 0 0,.t (.int .i64 p),.t (.int .i64 n)] [.live 3 [.t (.agg [.sl (b.map qA),.int .i64 (a:Int),.int .i64 e])] true true] =
  some (.tup [.t (.sl (((b.drop p).take n).map qA)),.t (.int .i64 0)],[.live 3 [.t (.agg [.sl (b.map qA),.int .i64 (a:Int),.int .i64 e])] true true]):=by
 refine (kP.eq ((b,a,e),p,n) ⟨⟨h.1,h.2.1⟩,?_,?_⟩).trans ?_
 ·simp only;omega
 ·simp only;omega
 ·simp only[kP,if_pos h.2.2,zL]
theorem zEd {b:List UInt8}{a p n:Nat}{e:Int}(h:a≤b.length∧b.length<1000000000∧p≤b.length∧n≤1000000000∧b.length<p+n):kP.fs [.ref 0 0 0,.t (.int .i64 p),.t (.int .i64 n)] [.live 3 [.t (.agg [.sl (b.map qA),.int .i64 (a:Int),.int .i64 e])] true true] =
  some (.tup [.t (.sl []),.t (.int .i64 2)],[.live 3 [.t (.agg [.sl (b.map qA),.int .i64 (a:Int),.int .i64 e])] true true]):=by
 refine (kP.eq ((b,a,e),p,n) ⟨⟨h.1,h.2.1⟩,h.2.2.1,h.2.2.2.1⟩).trans ?_;simp only[kP,zL];rw[if_neg oM]
def qTh:Ct where
 α:=Rd×Int
 aS x:=[.ref 0 0 0,.t (.int .i64 x.2)]
 ins x:=[vD x.1]
 pre x:=qEo x.1
 r x:= .tup []
 outs x:=[vD (x.1.1,x.1.2.1,x.2)]
 inj:=by
  rintro⟨s,a⟩ ⟨t,c⟩ h1 h2;simp at h1;simp only[List.cons.injEq,and_true] at h2;subst h1;cases kC h2;exact⟨rfl,rfl⟩
theorem qQg {b:List UInt8}{a:Nat}{e n:Int}(h:a≤b.length∧b.length<1000000000):qTh.fs [.ref 0 0 0,.t (.int .i64 n)] [.live 3 [.t (.agg [.sl (b.map qA),.int .i64 (a:Int),.int .i64 e])] true true] =
  some (.tup [],[.live 3 [.t (.agg [.sl (b.map qA),.int .i64 (a:Int),.int .i64 n])] true true]):=qTh.eq ((b,a,e),n) h
def beV (bs:List UInt8):Nat:=bs.foldl (fun n x=>256*n+x.toNat) 0
theorem zMj {bs:List UInt8}{k:Nat}(h:k<bs.length):beV (bs.take (k+1))=256*beV (bs.take k)+(bs.getD k 0).toNat:=by
 rw[qEe (d:=0) h];simp[beV]
theorem jCz {bs:List UInt8}:beV bs<256^bs.length:=by
 have : ∀ (bs:List UInt8) (n:Nat),bs.foldl (fun n x=>256*n+x.toNat) n<256^bs.length*(n+1):=by
  intro bs
  induction bs with
  | nil=>intro n;simp
  | cons x r ih=>
   intro n;simp only[foldl_cons,length_cons];have h1:=ih (256*n+x.toNat);have h2:=x.toNat_lt;have h3:256^r.length*(256*n+x.toNat+1)≤256^r.length*(256*(n+1)):=Nat.mul_le_mul_left _ oM;rw[Nat.pow_succ,Nat.mul_assoc];omega
 have:=this bs 0;simpa [beV] using this
theorem zRv {bs:List UInt8}(h:bs.length≤7):beV bs<72057594037927936:=by
 have h1:=jCz (bs:=bs);have h2:256^bs.length≤256^7:=Nat.pow_le_pow_right oM h;omega
theorem zRw {bs:List UInt8}(h:bs.length≤8):beV bs<18446744073709551616:=by
 have h1:=jCz (bs:=bs);have h2:256^bs.length≤256^8:=Nat.pow_le_pow_right oM h;omega
def qQ (s:Rd)(k:Nat):Int×Rd:=
 if s.2.2≠0 then (0,s) else if s.1.length<s.2.1+k then (0,(s.1,s.2.1,2))
 else if 9223372036854775808≤beV ((s.1.drop s.2.1).take k) then (0,(s.1,s.2.1,4)) else (beV ((s.1.drop s.2.1).take k),(s.1,s.2.1+k,0))
def qDh (s:Rd)(k:Nat):List UInt8×Rd:=
 if s.2.2≠0 then ([],s) else if s.1.length<s.2.1+k then ([],(s.1,s.2.1,2)) else ((s.1.drop s.2.1).take k,(s.1,s.2.1+k,0))
def kF (s:Rd):Int:=if s.2.2=0∧s.2.1<s.1.length then 3 else s.2.2
theorem qS7 (h1:LkC tab 160 qTh)(h2:LkC tab 161 kP)(s:Rd)(hs:qEo s)(k:Nat)(hk:1≤k∧k≤8) :
  vR.1.wp tab gl (qE 0 [.ref 0 0 0,.t (.int .i64 k)]) (qE 0 [vD s]) (qV [(4,none)] 1 (fun r o=>r = .t (.int .i64 (qQ s k).1)∧o=[vD (qQ s k).2])):=by
 obtain⟨b,a,e⟩:=s;have ha:a≤b.length∧b.length<1000000000:=hs;by_cases he:e=0
 ·subst he;by_cases hl:b.length<a+k
  ·simp(disch:=omega)only[go_sem,vR,zL,h1,h2,zEd,qQg,qQ,ne_eq,hl]
  ·have hc:(List.take k (List.drop a b)).length=k:=by simp only[length_take,length_drop];omega
   simp(disch:=omega)only[go_sem,vR,zL,h1,h2,zEe];generalize hC:List.take k (List.drop a b)=c at hc ⊢;refine qB k (fun i=>[(40,.t (.int .i64 i)),(39,.t (.int .i64 k)),(38,.t (.sl (c.map qA))),(7,.t (.int .u64 (beV (c.take i)))),(0,.ref 0 0 0),(1,.t (.int .i64 k))])
    (fun _=>[(0,.live 3 [.t (.agg [.sl (b.map qA),.int .i64 (a:Int),.int .i64 0])] true true)]) ?_ (fun i hi=>?_)
   ·refine qJ.rd id ?_ ?_ rfl;all_goals simp(disch:=omega)only[go_sem,id,beV,foldl_nil]
   ·by_cases hlt:i<k
    ·have hb:beV (c.take i)<72057594037927936:=zRv (by rw[length_take];omega);have ht:=zMj (bs:=c) (k:=i) oM;simp(disch:=omega)only[go_sem,hc];refine⟨hlt,qJ.rd id ?_ ?_ rfl⟩;all_goals simp(disch:=omega)only[go_sem,id,ht]
    ·have e:i=k:=oM;subst e;have ht:List.take i c=c:=take_of_length_le oM;have hb8:beV c<18446744073709551616:=zRw oM;by_cases hbig:9223372036854775808≤beV c
     ·simp(disch:=omega)only[go_sem,hc,ht,h1,qQg,qQ,zL,hl,hbig,ne_eq,hC]
     ·simp(disch:=omega)only[go_sem,hc,ht,qQ,zL,hl,hbig,ne_eq,hC]
 ·simp(disch:=omega)only[go_sem,vR,zL,qQ,ne_eq,he]
theorem qU2 (h1:LkC tab 160 qTh)(h2:LkC tab 161 kP)(s:Rd)(hs:qEo s)(k:Nat)(hk:k≤1000000000) :
  wR.1.wp tab gl (qE 0 [.ref 0 0 0,.t (.int .i64 k)]) (qE 0 [vD s]) (qV [(4,none)] 1 (fun r o=>r = .t (.sl ((qDh s k).1.map qA))∧o=[vD (qDh s k).2])):=by
 obtain⟨b,a,e⟩:=s;have ha:a≤b.length∧b.length<1000000000:=hs;by_cases he:e=0
 ·subst he;by_cases hl:b.length<a+k
  ·simp(disch:=omega)only[go_sem,wR,zL,h1,h2,zEd,qQg,qDh,ne_eq,hl]
  ·have hc:(List.take k (List.drop a b)).length=k:=by simp only[length_take,length_drop];omega
   have ht:List.take k (List.take k (List.drop a b))=List.take k (List.drop a b):=take_of_length_le oM;simp(disch:=omega)only[go_sem,wR,zL,h1,h2,zEe,qDh,ne_eq,hl,ht]
 ·simp(disch:=omega)only[go_sem,wR,zL,qDh,ne_eq,he]
theorem zBe (b:List UInt8)(a:Nat)(e:Int)(k:Nat)(ha:a≤b.length∧b.length<1000000000)(hk:k≤1000000000) :
  yL.1.wp tab gl (qE 0 [.ref 0 0 0,.t (.int .i64 k)]) (qE 0 [vD (b,a,e)]) (qV [(4,none)] 1 (fun r o=>r = .t (.bool (decide (e=0) && !decide (b.length<a+k)))∧o=[vD (b,a,if e=0∧b.length<a+k then 2 else e)])):=by
 by_cases he:e=0
 ·subst he;by_cases hl:b.length<a+k
  ·simp(disch:=omega)only[go_sem,yL,zL,hl];repeat refine And.intro rfl ?_
   trivial
  ·simp(disch:=omega)only[go_sem,yL,zL,hl];repeat refine And.intro rfl ?_
   trivial
 ·simp(disch:=omega)only[go_sem,yL,zL,he];repeat refine And.intro rfl ?_
  trivial
def qAl:Ct where
 α:=Rd×Nat
 aS x:=[.ref 0 0 0,.t (.int .i64 x.2)]
 ins x:=[vD x.1]
 pre x:=qEo x.1∧x.2≤1000000000
 r x:= .t (.bool (decide (x.1.2.2=0) && !decide (x.1.1.length<x.1.2.1+x.2)))
 outs x:=[vD (x.1.1,x.1.2.1,if x.1.2.2=0∧x.1.1.length<x.1.2.1+x.2 then 2 else x.1.2.2)]
 inj:=by
  rintro⟨s,a⟩ ⟨t,c⟩ h1 h2;simp[Int.natCast_inj] at h1;simp only[List.cons.injEq,and_true] at h2;subst h1;cases kC h2;exact⟨rfl,rfl⟩
theorem zKk {b:List UInt8}{a k:Nat}(h:a≤b.length∧b.length<1000000000∧a+k≤b.length):qAl.fs [.ref 0 0 0,.t (.int .i64 k)] [.live 3 [.t (.agg [.sl (b.map qA),.int .i64 (a:Int),.int .i64 0])] true true] =
  some (.t (.bool true),[.live 3 [.t (.agg [.sl (b.map qA),.int .i64 (a:Int),.int .i64 0])] true true]):=by
 refine (qAl.eq ((b,a,0),k) ⟨⟨h.1,h.2.1⟩,?_⟩).trans ?_
 ·simp only;omega
 ·have : ¬ b.length<a+k:=oM;simp[qAl,zL,this]
theorem zKj {b:List UInt8}{a k:Nat}(h:a≤b.length∧b.length<1000000000∧k≤1000000000∧b.length<a+k):qAl.fs [.ref 0 0 0,.t (.int .i64 k)] [.live 3 [.t (.agg [.sl (b.map qA),.int .i64 (a:Int),.int .i64 0])] true true] =
  some (.t (.bool false),[.live 3 [.t (.agg [.sl (b.map qA),.int .i64 (a:Int),.int .i64 2])] true true]):=by
 refine (qAl.eq ((b,a,0),k) ⟨⟨h.1,h.2.1⟩,h.2.2.1⟩).trans ?_;have:=h.2.2.2;simp[qAl,zL,this]
theorem qSy (h1:LkC tab 118 qAl)(s:Rd)(hs:qEo s)(k:Nat)(hk:1≤k∧k≤8) :
  vQ.1.wp tab gl (qE 0 [.ref 0 0 0,.t (.int .i64 k)]) (qE 0 [vD s]) (qV [(4,none)] 1 (fun r o=>r = .t (.int .i64 (qQ s k).1)∧o=[vD (qQ s k).2])):=by
 obtain⟨b,a,e⟩:=s;have ha:a≤b.length∧b.length<1000000000:=hs;by_cases he:e=0
 ·subst he;by_cases hl:b.length<a+k
  ·simp(disch:=omega)only[go_sem,vQ,zL,h1,zKj,qQ,ne_eq,hl];repeat refine And.intro rfl ?_
   all_goals trivial
  ·have hc:(List.take k (List.drop a b)).length=k:=by simp only[length_take,length_drop];omega
   simp(disch:=omega)only[go_sem,vQ,zL,h1,zKk];repeat refine And.intro rfl ?_
   generalize hC:List.take k (List.drop a b)=c at hc;have hget : ∀ i,i<k→b.getD (a+i) 0=c.getD i 0:=by
    intro i hi;rw[←hC];simp[List.getD,getElem?_take,hi]
   refine qB k (fun i=>[(6,.t (.int .i64 i)),(5,.t (.int .u64 (beV (c.take i)))),(0,.ref 0 0 0),(1,.t (.int .i64 k))])
    (fun _=>[(0,.live 3 [.t (.agg [.sl (b.map qA),.int .i64 (a:Int),.int .i64 0])] true true)]) ?_ (fun i hi=>?_)
   ·refine qJ.rd id ?_ ?_ rfl;all_goals simp(disch:=omega)only[go_sem,id,beV,foldl_nil]
   ·by_cases hlt:i<k
    ·have hb:beV (c.take i)<72057594037927936:=zRv (by rw[length_take];omega);have ht:=zMj (bs:=c) (k:=i) oM;simp(disch:=omega)only[go_sem,hc,hget i hlt];repeat refine And.intro rfl ?_
     refine⟨hlt,qJ.rd id ?_ ?_ rfl⟩;all_goals simp(disch:=omega)only[go_sem,id,ht]
    ·have e:i=k:=oM;subst e;have ht:List.take i c=c:=take_of_length_le oM;have hb8:beV c<18446744073709551616:=zRw oM;by_cases hbig:9223372036854775808≤beV c
     ·simp(disch:=omega)only[go_sem,hc,ht,qQ,zL,hl,hbig,ne_eq,hC]
     ·simp(disch:=omega)only[go_sem,hc,ht,qQ,zL,hl,hbig,ne_eq,hC]
 ·simp(disch:=omega)only[go_sem,vQ,zL,qQ,ne_eq,he];repeat refine And.intro rfl ?_
  all_goals trivial
theorem qS6 (s:Rd)(hs:qEo s):qA6.1.wp tab gl (qE 0 [.ref 0 0 0]) (qE 0 [vD s]) (qV [(2,none)] 1 (fun r o=>r = .t (.int .i64 (s.1.length-s.2.1:Nat))∧o=[vD s])):=by
 obtain⟨b,a,e⟩:=s;have ha:a≤b.length∧b.length<1000000000:=hs;simp(disch:=omega)only[go_sem,qA6,zL];repeat refine And.intro rfl ?_
 all_goals trivial
theorem qSx (s:Rd)(hs:qEo s):qA2.1.wp tab gl (qE 0 [.ref 0 0 0]) (qE 0 [vD s]) (qV [(2,none)] 1 (fun r o=>r = .t (.int .i64 (s.1.length-s.2.1:Nat))∧o=[vD s])):=by
 obtain⟨b,a,e⟩:=s;have ha:a≤b.length∧b.length<1000000000:=hs;simp(disch:=omega)only[go_sem,qA2,zL];repeat refine And.intro rfl ?_
 all_goals trivial
theorem qU1 (s:Rd)(hs:qEo s):qB1.1.wp tab gl (qE 0 [.ref 0 0 0]) (qE 0 [vD s]) (qV [(2,none)] 1 (fun r o=>r = .t (.int .i64 s.2.2)∧o=[vD s])):=by
 obtain⟨b,a,e⟩:=s;simp(disch:=omega)only[go_sem,qB1,zL]
def qTj:Ct where
 α:=Rd
 aS _:=[.ref 0 0 0]
 ins x:=[vD x]
 pre x:=qEo x
 r x:= .t (.int .i64 (x.1.length-x.2.1:Nat))
 outs x:=[vD x]
 inj:=by
  intro s t _ h2;simp only[List.cons.injEq,and_true] at h2;cases kC h2;exact⟨rfl,rfl⟩
theorem zDn {b:List UInt8}{a:Nat}{e:Int}(h:a≤b.length∧b.length<1000000000):qTj.fs [.ref 0 0 0] [.live 3 [.t (.agg [.sl (b.map qA),.int .i64 (a:Int),.int .i64 e])] true true] =
  some (.t (.int .i64 (b.length-a:Nat)),[.live 3 [.t (.agg [.sl (b.map qA),.int .i64 (a:Int),.int .i64 e])] true true]):=qTj.eq (b,a,e) h
theorem qU0 (h1:LkC tab 159 qTj)(s:Rd)(hs:qEo s):wQ.1.wp tab gl (qE 0 [.ref 0 0 0]) (qE 0 [vD s]) (qV [(2,none)] 1 (fun r o=>r = .t (.int .i64 (kF s))∧o=[vD s])):=by
 obtain⟨b,a,e⟩:=s;have ha:a≤b.length∧b.length<1000000000:=hs;by_cases he:e=0
 ·subst he;by_cases hl:a<b.length
  ·simp(disch:=omega)only[go_sem,wQ,zL,h1,zDn,kF,hl];repeat refine And.intro rfl ?_
   all_goals trivial
  ·simp(disch:=omega)only[go_sem,wQ,zL,h1,zDn,kF,hl];repeat refine And.intro rfl ?_
   all_goals trivial
 ·simp(disch:=omega)only[go_sem,wQ,zL,kF,he];repeat refine And.intro rfl ?_
  all_goals trivial
theorem qUo (h1:LkC tab 119 qTj)(s:Rd)(hs:qEo s):wK.1.wp tab gl (qE 0 [.ref 0 0 0]) (qE 0 [vD s]) (qV [(2,none)] 1 (fun r o=>r = .t (.int .i64 (kF s))∧o=[vD s])):=by
 obtain⟨b,a,e⟩:=s;have ha:a≤b.length∧b.length<1000000000:=hs;by_cases he:e=0
 ·subst he;by_cases hl:a<b.length
  ·simp(disch:=omega)only[go_sem,wK,zL,h1,zDn,kF,hl];repeat refine And.intro rfl ?_
   all_goals trivial
  ·simp(disch:=omega)only[go_sem,wK,zL,h1,zDn,kF,hl];repeat refine And.intro rfl ?_
   all_goals trivial
 ·simp(disch:=omega)only[go_sem,wK,zL,kF,he];repeat refine And.intro rfl ?_
  all_goals trivial
def qM5:Ct where
 α:=Int
 aS x:=[.t (.int .u64 1),.t (.int .u64 x)]
 ins _:=[]
 pre x:=x=20∨x=32
 r x:= .tup [.t (.int .u64 0),.t (.int .u64 x)]
 outs _:=[]
 inj:=by
  intro a b h _;simp at h;subst h;exact⟨rfl,rfl⟩
theorem zNs {n:Int}(h:n=20∨n=32):qM5.fs [.t (.int .u64 1),.t (.int .u64 n)] []=some (.tup [.t (.int .u64 0),.t (.int .u64 n)],[]):=qM5.eq n h
theorem zQy (h2:LkC tab 344 qM5)(n:Int)(hn:n=20∨n=32):qN6.1.wp tab gl (qE 0 [.t (.int .u64 1),.t (.int .u64 n)]) (qE 0 []) (qV [(4,none),(5,none)] 0 (fun r o=>r = .tup [.t (.int .u64 0),.t (.int .u64 n)]∧o=[])):=by
 simp(disch:=omega)only[go_sem,qN6,h2,zNs]
def zGc:Ct where
 α:=Int
 aS x:=[.t (.int .i64 x)]
 ins _:=[]
 pre x:=x=20∨x=32
 r x:= .sl 0 0 x.toNat
 outs _:=[.live 1 [] true false]
 inj:=by
  intro a b h _;simp at h;subst h;exact⟨rfl,rfl⟩
theorem jNn {n:Int}(h:n=20∨n=32):zGc.fs [.t (.int .i64 n)] []=some (.sl 0 0 n.toNat,[.live 1 [] true false]):=zGc.eq n h
theorem zHx {α:Type}{l xs:List α}:jE l l.length xs=l++xs:=by simp[jE]
theorem zA8 (h1:LkC tab 329 qM5)(h2:LkC tab 330 zGc)(x:UInt8)(n:Nat)(hn:n=20∨n=32) :
  qEw.1.wp tab gl (qE 0 [.t (.sl ([x].map qA)),.t (.int .i64 n)]) (qE 0 []) (kG [] [(4,none)] 0 (fun r o=>r = .sl 0 0 n∧o=[.live 1 (((List.replicate n x).map qA).map V.t) true false])):=by
 have hn2:(n:Int)=20∨(n:Int)=32:=oM;have ht1 : ∀ v:V,List.take n [v]=[v]:=fun v=>take_of_length_le (by simp only[length_cons,length_nil];omega)
 simp(disch:=omega)only[go_sem,qEw,h1,h2,zNs,jNn,ht1];refine qMu (ι := { p:Nat // 1≤p∧p≤n }) (fun p=>([(7,.t (.int .i64 n)),(8,.t (.int .i64 n)),(9,.sl 69648 0 n),(10,.t (.int .i64 p.1))],[(69648,.live 1 (((List.replicate p.1 x).map qA).map V.t) true false)])) (fun p=>n-p.1) ⟨1,oM⟩ ?_ (fun p=>?_)
 ·refine qJ.rd id ?_ ?_ rfl;all_goals simp(disch:=omega)only[go_sem,id,mcn]
 ·obtain⟨p,hp1,hp2⟩:=p;by_cases hlt:p<n
  ·have hse : ∀ xs,jE (List.map V.t (List.map qA (List.replicate p x))) p xs=List.map V.t (List.map qA (List.replicate p x))++xs:=by
    intro xs;have:=zHx (l:=List.map V.t (List.map qA (List.replicate p x))) (xs:=xs);simpa using this
   have hm:(if (n:Int)<(p:Int) then (n:Int) else (p:Int))=p:=if_neg oM;by_cases hd:p≤n-p
   ·simp(disch:=omega)only[go_sem,hse,take_replicate,hm];refine⟨rfl,⟨p+p,oM⟩,by simp only;omega,qJ.rd id ?_ ?_ rfl⟩;all_goals simp(disch:=omega)only[go_sem,id,replicate_append_replicate]
   ·simp(disch:=omega)only[go_sem,hse,take_replicate,hm];refine⟨rfl,⟨p+(n-p),oM⟩,by simp only;omega,qJ.rd id ?_ ?_ rfl⟩;all_goals simp(disch:=omega)only[go_sem,id,replicate_append_replicate]
  ·have e:p=n:=oM;subst e;simp(disch:=omega)only[go_sem]
def qRn:Ct where
 α:=UInt8×Nat
 aS x:=[.t (.sl ([x.1].map qA)),.t (.int .i64 x.2)]
 ins _:=[]
 pre x:=x.2=20∨x.2=32
 r x:= .sl 0 0 x.2
 outs x:=[.live 1 (((List.replicate x.2 x.1).map qA).map V.t) true false]
 inj:=by
  rintro⟨a,b⟩ ⟨c,d⟩ h _;simp[qRi,Int.natCast_inj] at h;obtain⟨rfl,rfl⟩:=h;exact⟨rfl,rfl⟩
theorem zUy {x:UInt8}{n:Nat}(h:n=20∨n=32):qRn.fs [.t (.sl [qA x]),.t (.int .i64 n)] []=some (.sl 0 0 n,[.live 1 (((List.replicate n x).map qA).map V.t) true false]):=qRn.eq (x,n) h
theorem qWf (h1:LkC tab 301 qRn)(x:UInt8)(n:Nat)(hn:n=20∨n=32):qCu.1.wp tab gl (qE 0 [.t (.int .i64 n),.t (qA x)]) (qE 0 []) (kG [] [(4,none)] 0 (fun r o=>r = .sl 0 0 n∧o=[.live 1 (((List.replicate n x).map qA).map V.t) true false])):=by
 simp(disch:=omega)only[go_sem,qCu,h1,zUy]
theorem jBq {α:Type}{x d:α}{n k:Nat}(h:k<n):(List.replicate k x++List.replicate (n-k) d).set k x=List.replicate (k+1) x++List.replicate (n-(k+1)) d:=by
 rw[show n-k=(n-(k+1))+1 by omega,replicate_succ,set_append_right _ _ sM];simp[replicate_succ']
theorem zLy (x:UInt8)(n:Nat)(hn:n<1000000000):qGa.1.wp tab gl (qE 0 [.t (.int .i64 n),.t (qA x)]) (qE 0 []) (kG [] [(4,none)] 0 (fun r o=>r = .sl 0 0 n∧o=[.live 1 (((List.replicate n x).map qA).map V.t) true false])):=by
 simp(disch:=omega)only[go_sem,qGa];refine qB n (fun k=>[(0,.t (.int .i64 n)),(1,.t (qA x)),(5,.sl 8208 0 n),(6,.t (.int .i64 k))]) (fun k=>[(8208,.live 1 (((List.replicate k x++List.replicate (n-k) 0).map qA).map V.t) true false)]) ?_ (fun k hk=>?_)
 ·refine qJ.rd id ?_ ?_ rfl;all_goals simp(disch:=omega)only[go_sem,id]
 ·by_cases hlt:k<n
  ·simp(maxSteps:=9^9)(disch:=try exact dS)only[go_sem];refine⟨hlt,qJ.rd id ?_ ?_ rfl⟩;all_goals simp(disch:=omega)only[go_sem,id,jBq hlt]
  ·have e:k=n:=oM;subst e;simp(disch:=omega)only[go_sem,Nat.sub_self,append_nil]
abbrev zB:=List (List UInt8)
def vS (b:zB):T:= .sl (b.map bsT)
def zY (bk:List zB)(u:Int):T:= .agg [.sl (bk.map vS),.int .i64 u]
theorem zF1 {b:zB}:vS b = .sl (b.map bsT):=Eq.trans (Eq.refl _) rfl
theorem jAo {bk:List zB}{u:Int}:zY bk u = .agg [.sl (bk.map vS),.int .i64 u]:=Eq.trans (Eq.refl _) rfl
attribute [go_sem] zF1 jAo
def qWn (b:zB):Prop:=b.length=0∨b.length=16
def zFs (b0 b1:zB):Int:=(if b0.length=16 then 1 else 0)+(if b1.length=16 then 2 else 0)
theorem qRa (u:Int):yN.1.wp tab gl (qE 0 [.t (zY [] u)]) (qE 0 []) (qV [(2,none)] 0 (fun r o=>r = .t (.int .i64 0)∧o=[])):=by
 simp(disch:=omega)only[go_sem,yN,mcn];refine qG 1 ?_;simp(disch:=omega)only[go_sem,qD]
theorem qRb (b0 b1:zB)(h0:b0.length<1000000000)(h1:b1.length<1000000000)(u:Int):yN.1.wp tab gl (qE 0 [.t (zY [b0,b1] u)]) (qE 0 []) (qV [(2,none)] 0 (fun r o=>r = .t (.int .i64 (zFs b0 b1))∧o=[])):=by
 simp(disch:=omega)only[go_sem,yN,mcn];refine qG 3 ?_;by_cases e0:b0.length=16
 ·by_cases e1:b1.length=16
  ·simp(disch:=omega)only[go_sem,qD,zFs,e0,e1,BitVec.reduceOfInt,BitVec.reduceOr,BitVec.reduceToNat]
  ·simp(disch:=omega)only[go_sem,qD,zFs,e0,e1,BitVec.reduceOfInt,BitVec.reduceOr,BitVec.reduceToNat]
 ·by_cases e1:b1.length=16
  ·simp(disch:=omega)only[go_sem,qD,zFs,e0,e1,BitVec.reduceOfInt,BitVec.reduceOr,BitVec.reduceToNat]
  ·simp(disch:=omega)only[go_sem,qD,zFs,e0,e1,BitVec.reduceOfInt,BitVec.reduceOr,BitVec.reduceToNat]
inductive RK:List zB→Prop
 | nil:RK []
 | two (b0 b1:zB) (h0:qWn b0) (h1:qWn b1):RK [b0,b1]
def zBq:List zB→Int
 | [b0,b1]=>zFs b0 b1
 | _=>0
theorem qXk {a b:zB}(h:vS a=vS b):a=b:=by
 simpa [vS,qDg] using h
theorem qA0 {a b:List zB}{u v:Int}(h:zY a u=zY b v):a=b∧u=v:=by
 simp only[zY,T.agg.injEq,List.cons.injEq,T.sl.injEq,T.int.injEq,true_and,and_true] at h;exact⟨qB8 (fun _ _=>qXk) h.1,h.2⟩
def kT:Ct where
 α:=List zB×Int
 aS x:=[.t (zY x.1 x.2)]
 ins _:=[]
 pre x:=RK x.1
 r x:= .t (.int .i64 (zBq x.1))
 outs _:=[]
 inj:=by
  rintro⟨a,u⟩ ⟨b,v⟩ h _;simp only[List.cons.injEq,V.t.injEq,and_true] at h;obtain⟨rfl,rfl⟩:=qA0 h;exact⟨rfl,rfl⟩
theorem zFx {bk:List zB}{u:Int}(h:RK bk):kT.fs [.t (.agg [.sl (bk.map vS),.int .i64 u])] []=some (.t (.int .i64 (zBq bk)),[]):=kT.eq (bk,u) h
def onB (bk:List zB)(a:Nat):Bool:=decide ((bk.getD a []).length=16)
theorem zBk (h1:LkC tab 126 kT)(bk:List zB)(u:Int)(hk:RK bk)(a:Nat)(ha:a<2):qFf.1.wp tab gl (qE 0 [.t (zY bk u),.t (.int .i64 a)]) (qE 0 []) (qV [(4,none)] 0 (fun r o=>r = .t (.bool (onB bk a))∧o=[])):=by
 have he:=zFx (u:=u) hk;have hv:zBq bk=0∨zBq bk=1∨zBq bk=2∨zBq bk=3:=by
  cases hk with
  | nil=>left;rfl
  | two b0 b1 h0 h1=>simp only[zBq,zFs];split<;>split<;>simp
 have hon:onB bk a=decide ((zBq bk).toNat/2^a%2=1):=by
  cases hk with
  | nil=>
   rcases (show a=0∨a=1 by omega) with rfl | rfl<;>simp[onB,zBq]
  | two b0 b1 h0 h1=>
   rcases (show a=0∨a=1 by omega) with rfl | rfl
   ·simp only[onB,zBq,zFs,getD_cons_zero];split<;>split<;>simp_all
   ·simp only[onB,zBq,zFs,getD_cons_succ,getD_cons_zero];split<;>split<;>simp_all
 rw[hon];rcases (show a=0∨a=1 by omega) with rfl | rfl<;>rcases hv with hv | hv | hv | hv<;>rw[hv] at he<;>simp only[hv];all_goals simp(disch:=omega)only[go_sem,qFf,h1,he,Int.reduceFDiv,Int.reduceToNat,Nat.reduceDiv,Nat.reduceMod,Int.reduceBEq]
theorem qUs (i:Int):wP.1.wp tab gl (qE 0 [.t (.int .i64 i)]) (qE 0 []) (qV [(2,none)] 0 (fun r o=>r = .t (.bool (decide (0≤i∧i<16)))∧o=[])):=by
 by_cases h:0≤i
 ·by_cases h2:i<16
  ·simp(disch:=omega)only[go_sem,wP,h,h2]
  ·simp(disch:=omega)only[go_sem,wP,h,h2]
 ·simp(disch:=omega)only[go_sem,wP,h]
def yR (i:Int)(reset:Bool):Int:=if reset=true∧i<12 then 5 else if i=14 then (if reset then 3 else 2) else if i=15 then (if reset then 4 else 3) else 0
theorem qUt (i:Int)(rs:Bool):qBw.1.wp tab gl (qE 0 [.t (.int .i64 i),.t (.bool rs)]) (qE 0 []) (qV [(4,none)] 0 (fun r o=>r = .t (.int .i64 (yR i rs))∧o=[])):=by
 cases rs<;>by_cases h12:i<12<;>by_cases h14:i=14<;>by_cases h15:i=15;all_goals try omega
 all_goals simp(disch:=omega)only[go_sem,qBw,yR,h12,h14,h15]
theorem zIr (i:Int)(rs:Bool):qIv.1.wp tab gl (qE 0 [.t (.int .i64 i),.t (.bool rs)]) (qE 0 []) (qV [(4,none)] 0 (fun r o=>r = .t (.int .i64 (if yR i rs=5 then -1 else yR i rs))∧o=[])):=by
 cases rs<;>by_cases h12:i<12<;>by_cases h14:i=14<;>by_cases h15:i=15;all_goals try omega
 all_goals simp(disch:=omega)only[go_sem,qIv,yR,h12,h14,h15]
def zWz (bk:List zB)(a:Nat):Bool:=decide (a<bk.length)&&decide (0<(bk.getD a []).length)
theorem zFh (bk:List zB)(u:Int)(a:Nat)(ha:a<1000000000)(hb:bk.length<1000000000)(hm : ∀ b∈bk,b.length<1000000000):kX.1.wp tab gl (qE 0 [.t (zY bk u),.t (.int .i64 a)]) (qE 0 []) (qV [(4,none)] 0 (fun r o=>r = .t (.bool (zWz bk a))∧o=[])):=by
 by_cases h:a<bk.length
 ·have hg:bk[a]?=some (bk.getD a []):=by simp[List.getD,h]
  have hl:(bk.getD a []).length<1000000000:=by
   have:bk.getD a []=bk[a]:=by simp[List.getD,h]
   rw[this];exact hm _ (getElem_mem h)
  by_cases h0:0<(bk.getD a []).length
  ·simp(disch:=omega)only[go_sem,kX,zWz,h,hg,h0]
  ·simp(disch:=omega)only[go_sem,kX,zWz,h,hg,h0]
 ·simp(disch:=omega)only[go_sem,kX,zWz,h]
theorem qUu (u:Int):vK.1.wp tab gl (qE 0 [.t (zY [] u)]) (qE 0 []) (kG [] [(2,some (2,true))] 0 (fun r o=>r = .agg [.nil,.t (.int .i64 u)]∧o=[])):=by
 simp(disch:=omega)only[go_sem,vK,map_nil,Int.natCast_zero];refine qG 1 ?_;simp(disch:=omega)only[go_sem,qD]
theorem qUv (b0 b1:zB)(u:Int)(m0:zT3 b0)(m1:zT3 b1):vK.1.wp tab gl (qE 0 [.t (zY [b0,b1] u)]) (qE 0 []) (kG [] [(2,some (2,true))] 0 (fun r o=>r = .agg [.sl 0 0 2,.t (.int .i64 u)]∧o=[.live 1 [.sl 1 0 b0.length,.sl 2 0 b1.length] true false,.live 1 ((b0.map bsT).map V.t) true false,.live 1 ((b1.map bsT).map V.t) true false])):=by
 simp(disch:=omega)only[go_sem,vK,mcn];have hl0:=m0.1;have hl1:=m1.1;refine qB 2 (fun k=>match k with | 0=>[(2,.ref 4112 0 0),(3,.ref 8240 0 0),(15,.t (.int .i64 0)),(13,.t (T.sl [T.sl (List.map bsT b0),T.sl (List.map bsT b1)])),(14,.t (.int .i64 2))] | 1=>[(2,.ref 4112 0 0),(3,.ref 8240 0 0),(15,.t (.int .i64 1)),(13,.t (T.sl [T.sl (List.map bsT b0),T.sl (List.map bsT b1)])),(14,.t (.int .i64 2))] | _=>[(2,.ref 4112 0 0),(3,.ref 8240 0 0),(15,.t (.int .i64 2)),(13,.t (T.sl [T.sl (List.map bsT b0),T.sl (List.map bsT b1)])),(14,.t (.int .i64 2))]) (fun k=>match k with | 0=>[(8240,.live 2 [.agg [.nil,.t (.int .i64 u)]] true true),(4112,.live 2 [.agg [.nil,.t (.int .i64 0)]] true true)] | 1=>[(8240,.live 2 [.agg [.sl 9000 0 1,.t (.int .i64 u)]] true true),(9000,.live 1 [.sl 9001 0 b0.length] true false),(9001,.live 1 ((b0.map bsT).map V.t) true false),(4112,.live 2 [.agg [.nil,.t (.int .i64 0)]] true true)] | _=>[(8240,.live 2 [.agg [.sl 9000 0 2,.t (.int .i64 u)]] true true),(9000,.live 1 [.sl 9001 0 b0.length,.sl 9002 0 b1.length] true false),(9001,.live 1 ((b0.map bsT).map V.t) true false),(9002,.live 1 ((b1.map bsT).map V.t) true false),(4112,.live 2 [.agg [.nil,.t (.int .i64 0)]] true true)]) ?_ (fun k hk=>?_)
 ·refine qJ.rd id ?_ ?_ rfl;all_goals simp(disch:=omega)only[go_sem,id]
 ·rcases (show k=0∨k=1∨k=2 by omega) with rfl | rfl | rfl
  ·simp(disch:=omega)only[go_sem];refine qB b0.length (fun i=>[(2,.ref 4112 0 0),(3,.ref 8240 0 0),(15,.t (.int .i64 0)),(13,.t (T.sl [T.sl (List.map bsT b0),T.sl (List.map bsT b1)])),(14,.t (.int .i64 2)),(6,.sl 9100 0 i),(21,.t (.int .i64 (i:Nat))),(19,.t (.sl (b0.map bsT))),(20,.t (.int .i64 b0.length))]) (fun i=>[(9100,.live 1 (((b0.take i).map bsT).map V.t) true false),(8240,.live 2 [.agg [.nil,.t (.int .i64 u)]] true true),(4112,.live 2 [.agg [.nil,.t (.int .i64 0)]] true true)]) ?_ (fun i hi=>?_)
   ·refine qJ.cv0 (hv:=[(9100,.live 1 [] true false)]) (ho:=[(8240,.live 2 [.agg [.nil,.t (.int .i64 u)]] true true),(4112,.live 2 [.agg [.nil,.t (.int .i64 0)]] true true)]) id ?_ ?_ rfl rfl;all_goals simp(disch:=omega)only[go_sem,id,mcn]
   ·have hm:=qR3 m0 i;by_cases hlt:i<b0.length
    ·simp(disch:=omega)only[go_sem];refine⟨hlt,qJ.cv (hv:=[]) [40992] (fun j=>if j=9100 then 41024 else j) ?_ rfl⟩;simp(disch:=omega)only[go_sem,qEe (d:=[]) hlt];rfl
    ·have e:i=b0.length:=oM;subst e;simp(disch:=omega)only[go_sem];refine qJ.rd (fun j=>if j=9000 then 49216 else if j=9001 then 9100 else j) ?_ ?_ rfl;all_goals simp(disch:=omega)only[go_sem]
  ·simp(disch:=omega)only[go_sem];refine qB b1.length (fun i=>[(2,.ref 4112 0 0),(3,.ref 8240 0 0),(15,.t (.int .i64 1)),(13,.t (T.sl [T.sl (List.map bsT b0),T.sl (List.map bsT b1)])),(14,.t (.int .i64 2)),(6,.sl 9100 0 i),(21,.t (.int .i64 (i:Nat))),(19,.t (.sl (b1.map bsT))),(20,.t (.int .i64 b1.length))]) (fun i=>[(9100,.live 1 (((b1.take i).map bsT).map V.t) true false),(8240,.live 2 [.agg [.sl 9000 0 1,.t (.int .i64 u)]] true true),(9000,.live 1 [.sl 9001 0 b0.length] true false),(9001,.live 1 ((b0.map bsT).map V.t) true false),(4112,.live 2 [.agg [.nil,.t (.int .i64 0)]] true true)]) ?_ (fun i hi=>?_)
   ·refine qJ.cv0 (hv:=[(9100,.live 1 [] true false)]) (ho:=[(8240,.live 2 [.agg [.sl 9000 0 1,.t (.int .i64 u)]] true true),(9000,.live 1 [.sl 9001 0 b0.length] true false),(9001,.live 1 ((b0.map bsT).map V.t) true false),(4112,.live 2 [.agg [.nil,.t (.int .i64 0)]] true true)]) id ?_ ?_ rfl rfl;all_goals simp(disch:=omega)only[go_sem,id,mcn]
   ·have hm:=qR3 m1 i;by_cases hlt:i<b1.length
    ·simp(disch:=omega)only[go_sem];refine⟨hlt,qJ.cv (hv:=[]) [40992] (fun j=>if j=9100 then 41024 else j) ?_ rfl⟩;simp(disch:=omega)only[go_sem,qEe (d:=[]) hlt];rfl
    ·have e:i=b1.length:=oM;subst e;simp(disch:=omega)only[go_sem];refine qJ.rd (fun j=>if j=9000 then 49216 else if j=9002 then 9100 else j) ?_ ?_ rfl;all_goals simp(disch:=omega)only[go_sem]
  ·simp(disch:=omega)only[go_sem]
theorem zIo (u:Int):qBh.1.wp tab gl (qE 0 [.t (zY [] u)]) (qE 0 []) (kG [] [(2,some (2,true))] 0 (fun r o=>r = .agg [.nil,.t (.int .i64 u)]∧o=[])):=by
 simp(disch:=omega)only[go_sem,qBh,map_nil];refine qG 1 ?_;simp(disch:=omega)only[go_sem,qD]
def qHd:Ct where
 α:=List UInt8
 aS x:=[.t (.sl (x.map qA))]
 ins _:=[]
 pre x:=x.length<1000000000
 r x:= .sl 0 0 x.length
 outs x:=[.live 1 ((x.map qA).map V.t) true false]
 inj:=by
  intro a b h _;simp[zN] at h;subst h;exact⟨rfl,rfl⟩
theorem jK {bs:List UInt8}(h:bs.length<1000000000):qHd.fs [.t (.sl (bs.map qA))] []=some (.sl 0 0 bs.length,[.live 1 ((bs.map qA).map V.t) true false]):=qHd.eq bs h
theorem zIp (h1:LkC tab 49 qHd)(b0 b1:zB)(u:Int)(m0:zT3 b0)(m1:zT3 b1):qBh.1.wp tab gl (qE 0 [.t (zY [b0,b1] u)]) (qE 0 []) (kG [] [(2,some (2,true))] 0 (fun r o=>r = .agg [.sl 0 0 2,.t (.int .i64 u)]∧o=[.live 1 [.sl 1 0 b0.length,.sl 2 0 b1.length] true false,.live 1 ((b0.map bsT).map V.t) true false,.live 1 ((b1.map bsT).map V.t) true false])):=by
 simp(disch:=omega)only[go_sem,qBh,mcn];have hl0:=m0.1;have hl1:=m1.1;refine qB 2 (fun k=>match k with | 0=>[(2,.ref 4112 0 0),(3,.ref 8240 0 0),(4,.t (.int .i64 0)),(1,.ref 4096 0 0)] | 1=>[(2,.ref 4112 0 0),(3,.ref 8240 0 0),(4,.t (.int .i64 1)),(1,.ref 4096 0 0)] | _=>[(2,.ref 4112 0 0),(3,.ref 8240 0 0),(4,.t (.int .i64 2)),(1,.ref 4096 0 0)]) (fun k=>match k with | 0=>[(8240,.live 2 [.agg [.nil,.t (.int .i64 u)]] true true),(4112,.live 2 [.agg [.nil,.t (.int .i64 0)]] true true),(4096,.live 2 [.t (.agg [T.sl [T.sl (List.map bsT b0),T.sl (List.map bsT b1)],.int .i64 u])] true true)] | 1=>[(8240,.live 2 [.agg [.sl 9000 0 1,.t (.int .i64 u)]] true true),(9000,.live 1 [.sl 9001 0 b0.length] true false),(9001,.live 1 ((b0.map bsT).map V.t) true false),(4112,.live 2 [.agg [.nil,.t (.int .i64 0)]] true true),(4096,.live 2 [.t (.agg [T.sl [T.sl (List.map bsT b0),T.sl (List.map bsT b1)],.int .i64 u])] true true)] | _=>[(8240,.live 2 [.agg [.sl 9000 0 2,.t (.int .i64 u)]] true true),(9000,.live 1 [.sl 9001 0 b0.length,.sl 9002 0 b1.length] true false),(9001,.live 1 ((b0.map bsT).map V.t) true false),(9002,.live 1 ((b1.map bsT).map V.t) true false),(4112,.live 2 [.agg [.nil,.t (.int .i64 0)]] true true),(4096,.live 2 [.t (.agg [T.sl [T.sl (List.map bsT b0),T.sl (List.map bsT b1)],.int .i64 u])] true true)]) ?_ (fun k hk=>?_)
 ·refine qJ.rd id ?_ ?_ rfl;all_goals simp(disch:=omega)only[go_sem,id]
 ·rcases (show k=0∨k=1∨k=2 by omega) with rfl | rfl | rfl
  ·simp(disch:=omega)only[go_sem,h1,jK];refine qB b0.length (fun i=>[(2,.ref 4112 0 0),(3,.ref 8240 0 0),(4,.t (.int .i64 0)),(1,.ref 4096 0 0),(5,.sl 9100 0 i),(6,.t (.int .i64 (i:Nat)))]) (fun i=>[(9100,.live 1 (((b0.take i).map bsT).map V.t) true false),(8240,.live 2 [.agg [.nil,.t (.int .i64 u)]] true true),(4112,.live 2 [.agg [.nil,.t (.int .i64 0)]] true true),(4096,.live 2 [.t (.agg [T.sl [T.sl (List.map bsT b0),T.sl (List.map bsT b1)],.int .i64 u])] true true)]) ?_ (fun i hi=>?_)
   ·refine qJ.cv0 (hv:=[(9100,.live 1 [] true false)]) (ho:=[(8240,.live 2 [.agg [.nil,.t (.int .i64 u)]] true true),(4112,.live 2 [.agg [.nil,.t (.int .i64 0)]] true true),(4096,.live 2 [.t (.agg [T.sl [T.sl (List.map bsT b0),T.sl (List.map bsT b1)],.int .i64 u])] true true)]) id ?_ ?_ rfl rfl;all_goals simp(disch:=omega)only[go_sem,id,mcn]
   ·have hm:=qR3 m0 i;by_cases hlt:i<b0.length
    ·simp(disch:=omega)only[go_sem,h1,jK];refine⟨hlt,qJ.cv (hv:=[]) [41104] (fun j=>if j=9100 then 41136 else j) ?_ rfl⟩;simp(disch:=omega)only[go_sem,qEe (d:=[]) hlt];rfl
    ·have e:i=b0.length:=oM;subst e;simp(disch:=omega)only[go_sem,h1,jK];refine qJ.rd (fun j=>if j=9000 then 45120 else if j=9001 then 9100 else j) ?_ ?_ rfl;all_goals simp(disch:=omega)only[go_sem]
  ·simp(disch:=omega)only[go_sem,h1,jK];refine qB b1.length (fun i=>[(2,.ref 4112 0 0),(3,.ref 8240 0 0),(4,.t (.int .i64 1)),(1,.ref 4096 0 0),(5,.sl 9100 0 i),(6,.t (.int .i64 (i:Nat)))]) (fun i=>[(9100,.live 1 (((b1.take i).map bsT).map V.t) true false),(8240,.live 2 [.agg [.sl 9000 0 1,.t (.int .i64 u)]] true true),(9000,.live 1 [.sl 9001 0 b0.length] true false),(9001,.live 1 ((b0.map bsT).map V.t) true false),(4112,.live 2 [.agg [.nil,.t (.int .i64 0)]] true true),(4096,.live 2 [.t (.agg [T.sl [T.sl (List.map bsT b0),T.sl (List.map bsT b1)],.int .i64 u])] true true)]) ?_ (fun i hi=>?_)
   ·refine qJ.cv0 (hv:=[(9100,.live 1 [] true false)]) (ho:=[(8240,.live 2 [.agg [.sl 9000 0 1,.t (.int .i64 u)]] true true),(9000,.live 1 [.sl 9001 0 b0.length] true false),(9001,.live 1 ((b0.map bsT).map V.t) true false),(4112,.live 2 [.agg [.nil,.t (.int .i64 0)]] true true),(4096,.live 2 [.t (.agg [T.sl [T.sl (List.map bsT b0),T.sl (List.map bsT b1)],.int .i64 u])] true true)]) id ?_ ?_ rfl rfl;all_goals simp(disch:=omega)only[go_sem,id,mcn]
   ·have hm:=qR3 m1 i;by_cases hlt:i<b1.length
    ·simp(disch:=omega)only[go_sem,h1,jK];refine⟨hlt,qJ.cv (hv:=[]) [41104] (fun j=>if j=9100 then 41136 else j) ?_ rfl⟩;simp(disch:=omega)only[go_sem,qEe (d:=[]) hlt];rfl
    ·have e:i=b1.length:=oM;subst e;simp(disch:=omega)only[go_sem,h1,jK];refine qJ.rd (fun j=>if j=9000 then 45120 else if j=9002 then 9100 else j) ?_ ?_ rfl;all_goals simp(disch:=omega)only[go_sem]
  ·simp(disch:=omega)only[go_sem,h1,jK]
def twR (bk:List zB)(u:Int):V:=match bk with
 | [_,_]=> .agg [.sl 0 0 2,.t (.int .i64 u)]
 | _=> .agg [.nil,.t (.int .i64 u)]
def twO (bk:List zB):List Ob:=match bk with
 | [b0,b1]=>[.live 1 [.sl 1 0 b0.length,.sl 2 0 b1.length] true false,.live 1 ((b0.map bsT).map V.t) true false,.live 1 ((b1.map bsT).map V.t) true false]
 | _=>[]
def RM (bk:List zB):Prop:=RK bk ∧ ∀ b∈bk,zT3 b
def jP:Ct where
 α:=List zB×Int
 aS x:=[.t (zY x.1 x.2)]
 ins _:=[]
 pre x:=RM x.1
 r x:=twR x.1 x.2
 outs x:=twO x.1
 inj:=by
  rintro⟨a,u⟩ ⟨b,v⟩ h _;simp only[List.cons.injEq,V.t.injEq,and_true] at h;obtain⟨rfl,rfl⟩:=qA0 h;exact⟨rfl,rfl⟩
theorem qW4 {u:Int}:jP.fs [.t (.agg [.sl [],.int .i64 u])] []=some (.agg [.nil,.t (.int .i64 u)],[]):=jP.eq ([],u) ⟨.nil,sM⟩
theorem qY {b0 b1:zB}{u:Int}(h:RM [b0,b1]):jP.fs [.t (.agg [.sl [.sl (b0.map bsT),.sl (b1.map bsT)],.int .i64 u])] [] =
  some (.agg [.sl 0 0 2,.t (.int .i64 u)],[.live 1 [.sl 1 0 b0.length,.sl 2 0 b1.length] true false,.live 1 ((b0.map bsT).map V.t) true false,.live 1 ((b1.map bsT).map V.t) true false]):=jP.eq ([b0,b1],u) h
end Go.Eng
end
