/- A part of an abstract machine, its walks, their tie. -/
import Derived.Test.YtekghmfbgbhobaaGreatDoorD17
import Derived.Test.YtekghmfbgbhobaaGreatDoorD16
set_option linter.all false
section
set_option maxHeartbeats 64000000
set_option maxRecDepth 20000
namespace Go.Eng
variable (tab:Tab) (gl:Gl)
def qSm (w:UInt8)(k:List UInt8):List UInt8:=(k++List.replicate (64-k.length) 0).map (· ^^^ w)
def zD8 (k b:List UInt8):List UInt8:=yK (qSm 92 k++yK (qSm 54 k++b))
theorem qJa {w:UInt8}{k:List UInt8}(h:k.length≤64):(qSm w k).length=64:=by simp[qSm];omega
theorem zD9 {k b:List UInt8}:List.take 32 (zD8 k b)=zD8 k b:=List.take_of_length_le (by rw[zD8,qS];omega)
theorem qFj {k b:List UInt8}:(zD8 k b).length=32:=qS
def xk (w:UInt8)(z:List UInt8)(k:Nat):List UInt8:=(z.take k).map (· ^^^ w)++z.drop k
theorem jXo {w:UInt8}{z:List UInt8}:xk w z 0=z:=by simp[xk]
theorem jXp {w:UInt8}{z:List UInt8}{n:Nat}(h:z.length=n):xk w z n=z.map (· ^^^ w):=by subst h;simp[xk]
theorem zTt {w:UInt8}{z:List UInt8}{k:Nat}:(xk w z k).length=z.length:=by simp[xk];omega
theorem jM9 {w:UInt8}{z:List UInt8}{k:Nat}(h:k<z.length):(xk w z k).getD k 0=z.getD k 0:=by
 have hl:((z.take k).map (· ^^^ w)).length=k:=soM;rw[xk,List.getD_eq_getElem?_getD,List.getElem?_append_right oM,hl,Nat.sub_self,List.getElem?_drop,List.getD_eq_getElem?_getD];rfl
theorem jNa {w:UInt8}{z:List UInt8}{k:Nat}(h:k<z.length):(xk w z k).set k (z.getD k 0 ^^^ w)=xk w z (k+1):=by
 have hl:((z.take k).map (· ^^^ w)).length=k:=soM;have hd:z.drop k=z.getD k 0::z.drop (k+1):=by
  rw[List.drop_eq_getElem_cons h];simp[List.getD,List.getElem?_eq_getElem h]
 rw[xk,xk,List.set_append_right _ _ oM,hl,Nat.sub_self,hd,List.set_cons_zero,qCh (d:=0) h,List.map_append,List.append_assoc];rfl
theorem zJe (w:UInt8)(key:List UInt8)(hk:key.length≤64) :
  qJx.1.wp tab gl (qE 0 [.t (qA w),.ref 0 0 0]) (qE 0 [.live 1 [.t (.sl (key.map qA))] true true]) (xU [] [(3,none)] 1 (fun r o=>r = .sl 1 0 64∧o=[.live 1 [.t (.sl (key.map qA))] true true,.live 1 (((qSm w key).map qA).map V.t) true false])):=by
 simp(maxSteps:=9^9)(disch:=try exact dS)only[go_sem,qJx];have hz:(List.take 64 key++List.replicate (64-key.length) 0).length=64:=soM;have hp:qSm w key=(List.take 64 key++List.replicate (64-key.length) 0).map (· ^^^ w):=by rw[qSm,List.take_of_length_le hk]
 rw[hp];generalize List.take 64 key++List.replicate (64-key.length) 0=z at *;refine qD 64 (fun k=>[(0,.t (qA w)),(4,.sl 8192 0 64),(10,.t (.int .i64 (k:Nat)))]) (fun k=>[(8192,.live 1 (((xk w z k).map qA).map V.t) true false),(0,.live 1 [.t (.sl (key.map qA))] true true)]) ?_ (fun k hk=>?_)
 ·refine qI.rd id ?_ ?_ rfl;all_goals simp(maxSteps:=9^9)(disch:=try exact dS)only[go_sem,id,jXo]
  all_goals rfl
 ·have hx:(xk w z k).length=64:=by rw[zTt,hz]
  by_cases hlt:k<64
  ·have hg:=jM9 (w:=w) (z:=z) (k:=k) oM;have hs:=jNa (w:=w) (z:=z) (k:=k) oM;simp(maxSteps:=9^9)(disch:=try exact dS)only[go_sem,hx,hg,hs];refine⟨hlt,qI.rd id ?_ ?_ rfl⟩;all_goals simp(maxSteps:=9^9)(disch:=try exact dS)only[go_sem,id]
   all_goals first | omega | rfl
  ·have e:k=64:=oM;subst e;have hn:=jXp (w:=w) hz;have ht:List.take 64 z=z:=List.take_of_length_le oM;simp(maxSteps:=9^9)(disch:=try exact dS)only[go_sem,hn,hz,ht]
def zAt:Ct where
 α:=UInt8×List UInt8
 aS x:=[.t (qA x.1),.ref 0 0 0]
 ins x:=[.live 1 [.t (.sl (x.2.map qA))] true true]
 pre x:=x.2.length≤64
 r _:= .sl 1 0 64
 outs x:=[.live 1 [.t (.sl (x.2.map qA))] true true,.live 1 (((qSm x.1 x.2).map qA).map V.t) true false]
 inj:=by
  rintro⟨a,b⟩ ⟨c,d⟩ h h2;simp only[List.cons.injEq,V.t.injEq,qP6,and_true,bsT,Ob.live.injEq,T.sl.injEq,yD,true_and] at h h2;subst h h2;exact⟨rfl,rfl⟩
theorem zQ4 {w:UInt8}{k:List UInt8}(h:k.length≤64):zAt.fs [.t (qA w),.ref 0 0 0] [.live 1 [.t (.sl (k.map qA))] true true]=some (.sl 1 0 64,[.live 1 [.t (.sl (k.map qA))] true true,.live 1 (((qSm w k).map qA).map V.t) true false]):=zAt.eq (w,k) h
theorem zTn (h1:LkC tab 100 qGz)(h2:LkC tab 101 zAt)(key b:List UInt8)(hk:key.length≤64)(hb:b.length<500000000) :
  qR0.1.wp tab gl (qE 0 [.t (bsT key),.t (bsT b)]) (qE 0 []) (xU [] [(4,none)] 0 (fun r o=>r = .sl 0 0 32∧o=[.live 1 (((zD8 key b).map qA).map V.t) true false])):=by
 have m1:=zQ4 (w:=54) hk;have m2:=zQ4 (w:=92) hk;have l1:=qJa (w:=54) hk;have t1:List.take (64+b.length) (qSm 54 key++b)=qSm 54 key++b:=List.take_of_length_le (by simp[l1]);have l2:=qJa (w:=92) hk;have t2 : ∀ x,List.take 32 (yK x)=yK x:=fun x=>List.take_of_length_le (by rw[qS];omega)
 have t3 : ∀ x,List.take 96 (qSm 92 key++yK x)=qSm 92 key++yK x:=fun x=>List.take_of_length_le (by rw[List.length_append,l2,qS];omega)
 have hl:(qSm 54 key++b).length=64+b.length:=by simp[l1]
 have hl2:(qSm 92 key++yK (qSm 54 key++b)).length=96:=by rw[List.length_append,l2,qS]
 simp(maxSteps:=9^9)(disch:=try exact dS)only[go_sem,qR0,h1,h2,m1,m2,l1,l2,qS,hl,t1,t2,t3,zN,zD8]
theorem zK8 {w:UInt8}{key:List UInt8}{k:Nat}(h:key.length≤64)(hk:k<64):(qSm w key).getD k 0=key.getD k 0 ^^^ w:=by
 rw[qSm,List.getD_eq_getElem?_getD,List.getElem?_map];by_cases hl:k<key.length
 ·rw[List.getElem?_append_left hl,List.getElem?_eq_getElem hl];simp[List.getD,List.getElem?_eq_getElem hl]
 ·rw[List.getElem?_append_right oM,List.getElem?_replicate,if_pos oM];simp[List.getD,List.getElem?_eq_none (show key.length≤k by omega)]
theorem zXu {d:List UInt8}{j n:Nat}{x:UInt8}(h:d.length=j)(hj:j<n):(d++List.replicate (n-j) 0).set j x=d++[x]++List.replicate (n-(j+1)) 0:=by
 rw[List.set_append_right _ _ oM,h,Nat.sub_self,show n-j=(n-(j+1))+1 by omega,List.replicate_succ,List.set_cons_zero];simp
def upZ (p:List UInt8)(k:Nat):List UInt8:=p.take k++List.replicate (64-k) 0
theorem jQk {p:List UInt8}:upZ p 0=List.replicate 64 0:=rfl
theorem jL4 {p:List UInt8}(h:p.length=64):upZ p 64=p:=by
 simp[upZ];exact List.take_of_length_le oM
theorem qZ4 {p:List UInt8}{k:Nat}(h:p.length=64)(hk:k≤64):(upZ p k).length=64:=by simp[upZ];omega
theorem zTe {p:List UInt8}{k:Nat}{x:UInt8}(h:p.length=64)(hk:k<64)(hx:p.getD k 0=x):(upZ p k).set k x=upZ p (k+1):=by
 rw[upZ,zXu soM hk,upZ,qCh (d:=0) oM,hx]
theorem zN7 (h1:tab.look 102=some (qJm 32 yK).fs)(key b:List UInt8)(hk:key.length≤64)(hb:b.length<500000000) :
  qMy.1.wp tab gl (qE 0 [.t (bsT key),.t (bsT b)]) (qE 0 []) (xU [] [(4,none)] 0 (fun r o=>r = .sl 0 0 32∧o=[.live 1 (((zD8 key b).map qA).map V.t) true false])):=by
 have l1:=qJa (w:=54) hk;have l2:=qJa (w:=92) hk;simp(maxSteps:=9^9)(disch:=try exact dS)only[go_sem,qMy];refine And.intro rfl ?_;refine qD 64 (fun k=>[(0,.t (.sl (key.map qA))),(1,.t (.sl (b.map qA))),(5,.sl 16384 0 64),(6,.sl 16400 0 64),(7,.t (.int .i64 (k:Nat)))]) (fun k=>[(16384,.live 1 (((upZ (qSm 54 key) k).map qA).map V.t) true false),(16400,.live 1 (((upZ (qSm 92 key) k).map qA).map V.t) true false)]) ?_ (fun k hk'=>?_)
 ·refine qI.rd id ?_ ?_ rfl;all_goals simp(maxSteps:=9^9)(disch:=try exact dS)only[go_sem,id,jQk]
 ·have u1:=qZ4 (k:=k) l1 hk';have u2:=qZ4 (k:=k) l2 hk';by_cases hlt:k<64
  ·have g1:=zK8 (w:=54) hk hlt;have g2:=zK8 (w:=92) hk hlt;have s1:=zTe l1 hlt g1;have s2:=zTe l2 hlt g2;by_cases hin:k<key.length
   ·simp(maxSteps:=9^9)(disch:=try exact dS)only[go_sem,hin,u1,u2,s1,s2];refine⟨hlt,qI.rd id ?_ ?_ rfl⟩;all_goals simp(maxSteps:=9^9)(disch:=try exact dS)only[go_sem,id]
    all_goals first | omega | rfl
   ·rw[show key.getD k 0=0 by simp[List.getD,List.getElem?_eq_none (show key.length≤k by omega)]] at s1 s2;simp(maxSteps:=9^9)(disch:=try exact dS)only[go_sem,hin,u1,u2,s1,s2];refine⟨hlt,qI.rd id ?_ ?_ rfl⟩;all_goals simp(maxSteps:=9^9)(disch:=try exact dS)only[go_sem,id]
    all_goals first | omega | rfl
  ·have e:k=64:=oM;subst e;have t1:List.take (64+b.length) (qSm 54 key++b)=qSm 54 key++b:=List.take_of_length_le (by simp[l1]);have t2 : ∀ x,List.take 32 (yK x)=yK x:=fun x=>List.take_of_length_le (by rw[qS];omega)
   have t3 : ∀ x,List.take 96 (qSm 92 key++yK x)=qSm 92 key++yK x:=fun x=>List.take_of_length_le (by rw[List.length_append,l2,qS];omega)
   have hl:(qSm 54 key++b).length=64+b.length:=by simp[l1]
   have hl2:(qSm 92 key++yK (qSm 54 key++b)).length=96:=by rw[List.length_append,l2,qS]
   simp(maxSteps:=9^9)(disch:=try exact dS)only[go_sem,jL4 l1,jL4 l2,h1,l1,l2,qS,hl,t1,t2,t3,qZ3,zD8]
def qTe:Ct where
 α:=List UInt8×List UInt8
 aS x:=[.t (.sl (x.1.map qA)),.t (.sl (x.2.map qA))]
 ins _:=[]
 pre x:=x.1.length≤64∧x.2.length<500000000
 r _:= .sl 0 0 32
 outs x:=[.live 1 (((zD8 x.1 x.2).map qA).map V.t) true false]
 inj:=by
  rintro⟨a,b⟩ ⟨c,d⟩ h _;simp[yD] at h;obtain⟨rfl,rfl⟩:=h;exact⟨rfl,rfl⟩
theorem zKy {k b:List UInt8}(h:k.length≤64∧b.length<500000000):qTe.fs [.t (.sl (k.map qA)),.t (.sl (b.map qA))] []=some (.sl 0 0 32,[.live 1 (((zD8 k b).map qA).map V.t) true false]):=qTe.eq (k,b) h
def qC6 (n:Nat):List UInt8:=[UInt8.ofNat (n/16777216),UInt8.ofNat (n/65536),UInt8.ofNat (n/256),UInt8.ofNat n]
theorem xT {n:Nat}:(qC6 n).length=4:=rfl
theorem zN4 (n:Nat):qMw.1.wp tab gl (qE 0 [.t (.int .i64 n)]) (qE 0 []) (xU [] [(2,none)] 0 (fun r o=>r = .sl 0 0 4∧o=[.live 1 (((qC6 n).map qA).map V.t) true true])):=by
 simp(maxSteps:=9^9)(disch:=try exact dS)only[go_sem,qMw,zIg,qC6,mcn]
theorem zJp (n:Nat):qKb.1.wp tab gl (qE 0 [.t (.int .i64 n)]) (qE 0 []) (xU [] [(2,none)] 0 (fun r o=>r = .sl 0 0 4∧o=[.live 1 (((qC6 n).map qA).map V.t) true true])):=by
 simp(maxSteps:=9^9)(disch:=try exact dS)only[go_sem,qKb,zIg,qC6,mcn]
def qR7:Ct where
 α:=Nat
 aS x:=[.t (.int .i64 x)]
 ins _:=[]
 pre _:=True
 r _:= .sl 0 0 4
 outs x:=[.live 1 (((qC6 x).map qA).map V.t) true true]
 inj:=by
  intro a b h _;simp only[List.cons.injEq,V.t.injEq,T.int.injEq,true_and,and_true,Int.natCast_inj] at h;subst h;exact⟨rfl,rfl⟩
theorem zHs {n:Nat}:qR7.fs [.t (.int .i64 n)] []=some (.sl 0 0 4,[.live 1 (((qC6 n).map qA).map V.t) true true]):=qR7.eq n trivial
theorem zG7 {nb id n:Nat}{a:List UInt8}:qC9 nb [.sl id 0 n,.t (qMb a)]=Q.get id fun x=>match x with
  | .live z' es true full=>Q.assert (z'=1∧es.length=n∧qDu (n+a.length) 1∧100≤id) (.free nb (.ret (.sl nb 0 (n+a.length),[(id,.dead),(nb,.live 1 (es++(a.map qA).map V.t) true false)])))
  | x=> .fail:=by
 have e : ∀ st:ByteArray,st.size=a.length→(st.data.toList.map fun b=>V.t (qA b))=(a.map qA).map V.t→qC9 nb [.sl id 0 n,.t (.str st)]=Q.get id fun x=>match x with
  | .live z' es true full=>Q.assert (z'=1∧es.length=n∧qDu (n+a.length) 1∧100≤id) (.free nb (.ret (.sl nb 0 (n+a.length),[(id,.dead),(nb,.live 1 (es++(a.map qA).map V.t) true false)])))
  | x=> .fail:=fun st h1 h2=>by
  simp only[qC9,h1,h2];congr 1
 exact e _ (by simp[ByteArray.size]) sM
attribute [go_sem ↓] zG7
def drT (label ctx:List UInt8)(n:Nat):List UInt8:=label++[0]++ctx++qC6 (8*n)
def drR (key rest:List UInt8)(k:Nat):List UInt8:=(List.range k).flatMap fun i=>zD8 key (qC6 (i+1)++rest)
def drv (key label ctx:List UInt8)(n:Nat):List UInt8:=(drR key (drT label ctx n) ((n+31)/32)).take n
theorem qL6 {key rest:List UInt8} : ∀ {k:Nat},(drR key rest k).length=32*k
 | 0=>rfl
 | k+1=>by
  have:=qL6 (key:=key) (rest:=rest) (k:=k);simp only[drR] at this ⊢;rw[List.range_succ,List.flatMap_append,List.length_append,this];simp[qFj];omega
theorem zKs {key rest:List UInt8}{k:Nat}:drR key rest (k+1)=drR key rest k++zD8 key (qC6 (k+1)++rest):=by
 simp[drR,List.range_succ]
theorem qEc {key label ctx:List UInt8}{n:Nat}:(drv key label ctx n).length=n:=by
 rw[drv,List.length_take,qL6];omega
theorem zGf (h1:LkC tab 80 qR7)(h2:LkC tab 81 qTe)(key label ctx:List UInt8)(n:Nat)(hk:key.length≤64)(hl:label.length<100000000)(hc:ctx.length<100000000)(hn:n≤1024) :
  qDw.1.wp tab gl (qE 0 [.t (.sl (key.map qA)),.t (qMb label),.t (.sl (ctx.map qA)),.t (.int .i64 n)]) (qE 0 []) (qX [(8,none)] 0 (fun r o=>r = .t (.sl ((drv key label ctx n).map qA))∧o=[])):=by
 rcases Nat.eq_zero_or_pos n with rfl | hn0
 ·rw[show drv key label ctx 0=[] from rfl];simp(maxSteps:=9^9)(disch:=try exact dS)only[go_sem,qDw]
 have t4:List.take 4 (qC6 (8*n))=qC6 (8*n):=rfl;have lD:(drT label ctx n).length=label.length+1+ctx.length+4:=by simp[drT,qC6];omega
 simp(maxSteps:=9^9)(disch:=try exact dS)only[go_sem,qDw,h1,h2,zHs,xT,t4];have hD:label++[0]++ctx++qC6 (8*n)=drT label ctx n:=rfl;rw[hD];generalize hr:drT label ctx n=rest at *;have hm:label.length+1+ctx.length+4<300000000:=oM;generalize label.length+1+ctx.length+4=m at *;refine qD ((n+31)/32) (fun k=>[(0,.t (.sl (key.map qA))),(3,.t (.int .i64 n)),(9,.sl 20544 0 m),(10,.sl 9000 0 (32*k)),(11,.t (.int .i64 ((k+1:Nat):Int)))]) (fun k=>[(9000,.live 1 (((drR key rest k).map qA).map V.t) true false),(20544,.live 1 ((rest.map qA).map V.t) true false)]) ?_ (fun k hk'=>?_)
 ·refine qI.cv0 (hv:=[(9000,.live 1 [] true false)]) (ho:=[(20544,.live 1 ((rest.map qA).map V.t) true false)]) id ?_ ?_ rfl rfl;all_goals simp(maxSteps:=9^9)(disch:=try exact dS)only[go_sem,id]
  all_goals rfl
 ·have hR:=qL6 (key:=key) (rest:=rest) (k:=k);by_cases hlt:32*k<n
  ·have t5:List.take m rest=rest:=List.take_of_length_le oM;have t6:List.take (4+m) (qC6 (k+1)++rest)=qC6 (k+1)++rest:=List.take_of_length_le (by rw[List.length_append,xT];omega);have hM:=zKy (k:=key) (b:=qC6 (k+1)++rest) ⟨hk,by rw[List.length_append,xT];omega⟩;simp(maxSteps:=9^9)(disch:=try exact dS)only[go_sem,h1,h2,zHs,xT,hR,t5,t6,lD,hM,qFj,zD9];refine⟨oM,qI.rd (fun j=>if j=9000 then 41072 else j) ?_ ?_ rfl⟩;all_goals simp(maxSteps:=9^9)(disch:=try exact dS)only[go_sem,id,zKs]
   all_goals first | omega | rfl
  ·have e:k=(n+31)/32:=oM;subst e;simp(maxSteps:=9^9)(disch:=try exact dS)only[go_sem,hR,drv,hr]
def qB1:Ct where
 α:=List UInt8×List UInt8×List UInt8×Nat
 aS x:=[.t (.sl (x.1.map qA)),.t (qMb x.2.1),.t (.sl (x.2.2.1.map qA)),.t (.int .i64 x.2.2.2)]
 ins _:=[]
 pre x:=x.1.length≤64∧x.2.1.length<100000000∧x.2.2.1.length<100000000∧x.2.2.2≤1024
 r x:= .t (.sl ((drv x.1 x.2.1 x.2.2.1 x.2.2.2).map qA))
 outs _:=[]
 inj:=by
  rintro⟨a,b,c,d⟩ ⟨e,f,g,h⟩ hh _;simp only[List.cons.injEq,V.t.injEq,T.int.injEq,T.sl.injEq,true_and,and_true,yD,zLw,Int.natCast_inj] at hh;obtain⟨rfl,rfl,rfl,rfl⟩:=hh;exact⟨rfl,rfl⟩
theorem qVw {k l c:List UInt8}{n:Nat}(h:k.length≤64∧l.length<100000000∧c.length<100000000∧1≤n∧n≤1024):qB1.fs [.t (.sl (k.map qA)),.t (qMb l),.t (.sl (c.map qA)),.t (.int .i64 n)] []=some (.t (.sl ((drv k l c n).map qA)),[]):=qB1.eq (k,l,c,n) ⟨h.1,h.2.1,h.2.2.1,h.2.2.2.2⟩
theorem jB2 {k l c:List UInt8}(h:k.length≤64∧l.length<100000000∧c.length<100000000):qB1.fs [.t (.sl (k.map qA)),.t (qMb l),.t (.sl (c.map qA)),.t (.int .i64 0)] []=some (.t (.sl []),[]):=qB1.eq (k,l,c,0) ⟨h.1,h.2.1,h.2.2,Nat.zero_le _⟩
theorem zC4 (h1:LkC tab 82 qR7)(h2:LkC tab 83 qTe)(key label ctx:List UInt8)(n:Nat)(hk:key.length≤64)(hl:label.length<100000000)(hc:ctx.length<100000000)(hn:n≤1024) :
  qC1.1.wp tab gl (qE 0 [.t (.sl (key.map qA)),.t (qMb label),.t (.sl (ctx.map qA)),.t (.int .i64 n)]) (qE 0 []) (qX [(8,none)] 0 (fun r o=>r = .t (.sl ((drv key label ctx n).map qA))∧o=[])):=by
 rcases Nat.eq_zero_or_pos n with rfl | hn0
 ·rw[show drv key label ctx 0=[] from rfl];simp(maxSteps:=9^9)(disch:=try exact dS)only[go_sem,qC1]
 simp(maxSteps:=9^9)(disch:=try exact dS)only[go_sem,qC1];have lD:(drT label ctx n).length=label.length+1+ctx.length+4:=by simp[drT,qC6];omega
 obtain⟨rest,hr⟩ : ∃ rest,drT label ctx n=rest:=⟨_,rfl⟩;have lR:rest.length=label.length+1+ctx.length+4:=by rw[←hr,lD]
 refine qD ((n+31)/32) (fun k=>[(0,.t (.sl (key.map qA))),(1,.t (qMb label)),(2,.t (.sl (ctx.map qA))),(3,.t (.int .i64 n)),(9,.sl 9000 0 (32*k)),(10,.t (.int .i64 ((k+1:Nat):Int)))]) (fun k=>[(9000,.live 1 (((drR key rest k).map qA).map V.t) true false)]) ?_ (fun k hk'=>?_)
 ·refine qI.cv0 (hv:=[(9000,.live 1 [] true false)]) (ho:=[]) id ?_ ?_ rfl rfl;all_goals simp(maxSteps:=9^9)(disch:=try exact dS)only[go_sem,id]
  all_goals rfl
 ·have hR:=qL6 (key:=key) (rest:=rest) (k:=k);by_cases hlt:32*k<n
  ·have t4:List.take 4 (qC6 (8*n))=qC6 (8*n):=rfl;have hM:=zKy (k:=key) (b:=qC6 (k+1)++rest) ⟨hk,by rw[List.length_append,xT];omega⟩;have hA:qC6 (k+1)++label++[0]++ctx++qC6 (8*n)=qC6 (k+1)++rest:=by rw[←hr,drT];simp only[List.append_assoc]
   have t5:List.take (4+label.length+1+ctx.length+4) (qC6 (k+1)++rest)=qC6 (k+1)++rest:=List.take_of_length_le (by rw[List.length_append,xT];omega);simp(maxSteps:=9^9)(disch:=try exact dS)only[go_sem,h1,h2,zHs,xT,hR,t4,t5,hA,hM,qFj,zD9];refine⟨oM,qI.rd (fun j=>if j=9000 then 41024 else j) ?_ ?_ rfl⟩;all_goals simp(maxSteps:=9^9)(disch:=try exact dS)only[go_sem,id,zKs]
   all_goals first | omega | rfl
  ·have e:k=(n+31)/32:=oM;subst e;simp(maxSteps:=9^9)(disch:=try exact dS)only[go_sem,hR,drv,hr]
theorem qV {b:List UInt8}{a:Nat}{e:Int}:yU (b,a,e) = .live 3 [.t (.agg [.sl (b.map qA),.int .i64 (a:Int),.int .i64 e])] true true:=rfl
theorem yV {s t:Rd}(h:yU s=yU t):s=t:=by
 obtain⟨b,a,e⟩:=s;obtain⟨b',a',e'⟩:=t;simp only[qV,Ob.live.injEq,List.cons.injEq,V.t.injEq,T.agg.injEq,T.sl.injEq,T.int.injEq,yD,Int.natCast_inj] at h;simp only[Prod.mk.injEq];exact⟨h.2.1.1.1,h.2.1.1.2.1.2,h.2.1.1.2.2.1.2⟩
def kC:Ct where
 α:=Rd×Nat×Nat
 aS x:=[.ref 0 0 0,.t (.int .i64 x.2.1),.t (.int .i64 x.2.2)]
 ins x:=[yU x.1]
 pre x:=yH x.1∧x.2.1≤x.1.1.length∧x.2.2≤1000000000
 r x:=if x.2.1+x.2.2≤x.1.1.length then .tup [.t (.sl (((x.1.1.drop x.2.1).take x.2.2).map qA)),.t (.int .i64 0)] else .tup [.t (.sl []),.t (.int .i64 2)]
 outs x:=[yU x.1]
 inj:=by
  rintro⟨s,a,b⟩ ⟨t,c,d⟩ h1 h2;simp[Int.natCast_inj] at h1;simp only[List.cons.injEq,and_true] at h2;obtain⟨rfl,rfl⟩:=h1;cases yV h2;exact⟨rfl,rfl⟩
theorem zBt {b:List UInt8}{a p n:Nat}{e:Int}(h:a≤b.length∧b.length<1000000000∧p+n≤b.length):kC.fs [.ref 0 0 0,.t (.int .i64 p),.t (.int .i64 n)] [.live 3 [.t (.agg [.sl (b.map qA),.int .i64 (a:Int),.int .i64 e])] true true] =
  some (.tup [.t (.sl (((b.drop p).take n).map qA)),.t (.int .i64 0)],[.live 3 [.t (.agg [.sl (b.map qA),.int .i64 (a:Int),.int .i64 e])] true true]):=by
 refine (kC.eq ((b,a,e),p,n) ⟨⟨h.1,h.2.1⟩,?_,?_⟩).trans ?_
 ·simp only;omega
 ·simp only;omega
 ·simp only[kC,if_pos h.2.2,qV]
theorem zBs {b:List UInt8}{a p n:Nat}{e:Int}(h:a≤b.length∧b.length<1000000000∧p≤b.length∧n≤1000000000∧b.length<p+n):kC.fs [.ref 0 0 0,.t (.int .i64 p),.t (.int .i64 n)] [.live 3 [.t (.agg [.sl (b.map qA),.int .i64 (a:Int),.int .i64 e])] true true] =
  some (.tup [.t (.sl []),.t (.int .i64 2)],[.live 3 [.t (.agg [.sl (b.map qA),.int .i64 (a:Int),.int .i64 e])] true true]):=by
 refine (kC.eq ((b,a,e),p,n) ⟨⟨h.1,h.2.1⟩,h.2.2.1,h.2.2.2.1⟩).trans ?_;simp only[kC,qV];rw[if_neg oM]
def qR6:Ct where
 α:=Rd×Int
 aS x:=[.ref 0 0 0,.t (.int .i64 x.2)]
 ins x:=[yU x.1]
 pre x:=yH x.1
 r x:= .tup []
 outs x:=[yU (x.1.1,x.1.2.1,x.2)]
 inj:=by
  rintro⟨s,a⟩ ⟨t,c⟩ h1 h2;simp at h1;simp only[List.cons.injEq,and_true] at h2;subst h1;cases yV h2;exact⟨rfl,rfl⟩
theorem qPi {b:List UInt8}{a:Nat}{e n:Int}(h:a≤b.length∧b.length<1000000000):qR6.fs [.ref 0 0 0,.t (.int .i64 n)] [.live 3 [.t (.agg [.sl (b.map qA),.int .i64 (a:Int),.int .i64 e])] true true] =
  some (.tup [],[.live 3 [.t (.agg [.sl (b.map qA),.int .i64 (a:Int),.int .i64 n])] true true]):=qR6.eq ((b,a,e),n) h
def beV (bs:List UInt8):Nat:=bs.foldl (fun n x=>256*n+x.toNat) 0
theorem zKg {bs:List UInt8}{k:Nat}(h:k<bs.length):beV (bs.take (k+1))=256*beV (bs.take k)+(bs.getD k 0).toNat:=by
 rw[qCh (d:=0) h];simp[beV]
theorem zY1 {bs:List UInt8}:beV bs<256^bs.length:=by
 have : ∀ (bs:List UInt8) (n:Nat),bs.foldl (fun n x=>256*n+x.toNat) n<256^bs.length*(n+1):=by
  intro bs
  induction bs with
  | nil=>intro n;simp
  | cons x r ih=>
   intro n;simp only[List.foldl_cons,List.length_cons];have h1:=ih (256*n+x.toNat);have h2:=x.toNat_lt;have h3:256^r.length*(256*n+x.toNat+1)≤256^r.length*(256*(n+1)):=Nat.mul_le_mul_left _ oM;rw[Nat.pow_succ,Nat.mul_assoc];omega
 have:=this bs 0;simpa [beV] using this
theorem zOt {bs:List UInt8}(h:bs.length≤7):beV bs<72057594037927936:=by
 have h1:=zY1 (bs:=bs);have h2:256^bs.length≤256^7:=Nat.pow_le_pow_right oM h;omega
theorem zOu {bs:List UInt8}(h:bs.length≤8):beV bs<18446744073709551616:=by
 have h1:=zY1 (bs:=bs);have h2:256^bs.length≤256^8:=Nat.pow_le_pow_right oM h;omega
def qL (s:Rd)(k:Nat):Int×Rd:=
 if s.2.2≠0 then (0,s) else if s.1.length<s.2.1+k then (0,(s.1,s.2.1,2))
 else if 9223372036854775808≤beV ((s.1.drop s.2.1).take k) then (0,(s.1,s.2.1,4)) else (beV ((s.1.drop s.2.1).take k),(s.1,s.2.1+k,0))
def qBb (s:Rd)(k:Nat):List UInt8×Rd:=
 if s.2.2≠0 then ([],s) else if s.1.length<s.2.1+k then ([],(s.1,s.2.1,2)) else ((s.1.drop s.2.1).take k,(s.1,s.2.1+k,0))
def vS (s:Rd):Int:=if s.2.2=0∧s.2.1<s.1.length then 3 else s.2.2
theorem qRx (h1:LkC tab 103 qR6)(h2:LkC tab 104 kC)(s:Rd)(hs:yH s)(k:Nat)(hk:1≤k∧k≤8) :
  vM.1.wp tab gl (qE 0 [.ref 0 0 0,.t (.int .i64 k)]) (qE 0 [yU s]) (qX [(4,none)] 1 (fun r o=>r = .t (.int .i64 (qL s k).1)∧o=[yU (qL s k).2])):=by
 obtain⟨b,a,e⟩:=s;have ha:a≤b.length∧b.length<1000000000:=hs;by_cases he:e=0
 ·subst he;by_cases hl:b.length<a+k
  ·simp(disch:=omega)only[go_sem,vM,qV,h1,h2,zBs,qPi,qL,ne_eq,hl]
  ·have hc:(List.take k (List.drop a b)).length=k:=by simp only[List.length_take,List.length_drop];omega
   simp(disch:=omega)only[go_sem,vM,qV,h1,h2,zBt];generalize hC:List.take k (List.drop a b)=c at hc ⊢;refine qD k (fun i=>[(40,.t (.int .i64 i)),(39,.t (.int .i64 k)),(38,.t (.sl (c.map qA))),(7,.t (.int .u64 (beV (c.take i)))),(0,.ref 0 0 0),(1,.t (.int .i64 k))])
    (fun _=>[(0,.live 3 [.t (.agg [.sl (b.map qA),.int .i64 (a:Int),.int .i64 0])] true true)]) ?_ (fun i hi=>?_)
   ·refine qI.rd id ?_ ?_ rfl;all_goals simp(disch:=omega)only[go_sem,id,beV,List.foldl_nil]
   ·by_cases hlt:i<k
    ·have hb:beV (c.take i)<72057594037927936:=zOt (by rw[List.length_take];omega);have ht:=zKg (bs:=c) (k:=i) oM;simp(disch:=omega)only[go_sem,hc];refine⟨hlt,qI.rd id ?_ ?_ rfl⟩;all_goals simp(disch:=omega)only[go_sem,id,ht]
    ·have e:i=k:=oM;subst e;have ht:List.take i c=c:=List.take_of_length_le oM;have hb8:beV c<18446744073709551616:=zOu oM;by_cases hbig:9223372036854775808≤beV c
     ·simp(disch:=omega)only[go_sem,hc,ht,h1,qPi,qL,qV,hl,hbig,ne_eq,hC]
     ·simp(disch:=omega)only[go_sem,hc,ht,qL,qV,hl,hbig,ne_eq,hC]
 ·simp(disch:=omega)only[go_sem,vM,qV,qL,ne_eq,he]
theorem qS8 (h1:LkC tab 103 qR6)(h2:LkC tab 104 kC)(s:Rd)(hs:yH s)(k:Nat)(hk:k≤1000000000) :
  wF.1.wp tab gl (qE 0 [.ref 0 0 0,.t (.int .i64 k)]) (qE 0 [yU s]) (qX [(4,none)] 1 (fun r o=>r = .t (.sl ((qBb s k).1.map qA))∧o=[yU (qBb s k).2])):=by
 obtain⟨b,a,e⟩:=s;have ha:a≤b.length∧b.length<1000000000:=hs;by_cases he:e=0
 ·subst he;by_cases hl:b.length<a+k
  ·simp(disch:=omega)only[go_sem,wF,qV,h1,h2,zBs,qPi,qBb,ne_eq,hl]
  ·have hc:(List.take k (List.drop a b)).length=k:=by simp only[List.length_take,List.length_drop];omega
   have ht:List.take k (List.take k (List.drop a b))=List.take k (List.drop a b):=List.take_of_length_le oM;simp(disch:=omega)only[go_sem,wF,qV,h1,h2,zBt,qBb,ne_eq,hl,ht]
 ·simp(disch:=omega)only[go_sem,wF,qV,qBb,ne_eq,he]
theorem qY8 (b:List UInt8)(a:Nat)(e:Int)(k:Nat)(ha:a≤b.length∧b.length<1000000000)(hk:k≤1000000000) :
  yO.1.wp tab gl (qE 0 [.ref 0 0 0,.t (.int .i64 k)]) (qE 0 [yU (b,a,e)]) (qX [(4,none)] 1 (fun r o=>r = .t (.bool (decide (e=0) && !decide (b.length<a+k)))∧o=[yU (b,a,if e=0∧b.length<a+k then 2 else e)])):=by
 by_cases he:e=0
 ·subst he;by_cases hl:b.length<a+k
  ·simp(disch:=omega)only[go_sem,yO,qV,hl];repeat refine And.intro rfl ?_
   trivial
  ·simp(disch:=omega)only[go_sem,yO,qV,hl];repeat refine And.intro rfl ?_
   trivial
 ·simp(disch:=omega)only[go_sem,yO,qV,he];repeat refine And.intro rfl ?_
  trivial
def xM:Ct where
 α:=Rd×Nat
 aS x:=[.ref 0 0 0,.t (.int .i64 x.2)]
 ins x:=[yU x.1]
 pre x:=yH x.1∧x.2≤1000000000
 r x:= .t (.bool (decide (x.1.2.2=0) && !decide (x.1.1.length<x.1.2.1+x.2)))
 outs x:=[yU (x.1.1,x.1.2.1,if x.1.2.2=0∧x.1.1.length<x.1.2.1+x.2 then 2 else x.1.2.2)]
 inj:=by
  rintro⟨s,a⟩ ⟨t,c⟩ h1 h2;simp[Int.natCast_inj] at h1;simp only[List.cons.injEq,and_true] at h2;subst h1;cases yV h2;exact⟨rfl,rfl⟩
theorem zA6 {b:List UInt8}{a k:Nat}(h:a≤b.length∧b.length<1000000000∧a+k≤b.length):xM.fs [.ref 0 0 0,.t (.int .i64 k)] [.live 3 [.t (.agg [.sl (b.map qA),.int .i64 (a:Int),.int .i64 0])] true true] =
  some (.t (.bool true),[.live 3 [.t (.agg [.sl (b.map qA),.int .i64 (a:Int),.int .i64 0])] true true]):=by
 refine (xM.eq ((b,a,0),k) ⟨⟨h.1,h.2.1⟩,?_⟩).trans ?_
 ·simp only;omega
 ·have : ¬ b.length<a+k:=oM;simp[xM,qV,this]
theorem zA5 {b:List UInt8}{a k:Nat}(h:a≤b.length∧b.length<1000000000∧k≤1000000000∧b.length<a+k):xM.fs [.ref 0 0 0,.t (.int .i64 k)] [.live 3 [.t (.agg [.sl (b.map qA),.int .i64 (a:Int),.int .i64 0])] true true] =
  some (.t (.bool false),[.live 3 [.t (.agg [.sl (b.map qA),.int .i64 (a:Int),.int .i64 2])] true true]):=by
 refine (xM.eq ((b,a,0),k) ⟨⟨h.1,h.2.1⟩,h.2.2.1⟩).trans ?_;have:=h.2.2.2;simp[xM,qV,this]
theorem qRs (h1:LkC tab 89 xM)(s:Rd)(hs:yH s)(k:Nat)(hk:1≤k∧k≤8) :
  vL.1.wp tab gl (qE 0 [.ref 0 0 0,.t (.int .i64 k)]) (qE 0 [yU s]) (qX [(4,none)] 1 (fun r o=>r = .t (.int .i64 (qL s k).1)∧o=[yU (qL s k).2])):=by
 obtain⟨b,a,e⟩:=s;have ha:a≤b.length∧b.length<1000000000:=hs;by_cases he:e=0
 ·subst he;by_cases hl:b.length<a+k
  ·simp(disch:=omega)only[go_sem,vL,qV,h1,zA5,qL,ne_eq,hl];repeat refine And.intro rfl ?_
   all_goals trivial
  ·have hc:(List.take k (List.drop a b)).length=k:=by simp only[List.length_take,List.length_drop];omega
   simp(disch:=omega)only[go_sem,vL,qV,h1,zA6];repeat refine And.intro rfl ?_
   generalize hC:List.take k (List.drop a b)=c at hc;have hget : ∀ i,i<k→b.getD (a+i) 0=c.getD i 0:=by
    intro i hi;rw[←hC];simp[List.getD,List.getElem?_take,hi]
   refine qD k (fun i=>[(6,.t (.int .i64 i)),(5,.t (.int .u64 (beV (c.take i)))),(0,.ref 0 0 0),(1,.t (.int .i64 k))])
    (fun _=>[(0,.live 3 [.t (.agg [.sl (b.map qA),.int .i64 (a:Int),.int .i64 0])] true true)]) ?_ (fun i hi=>?_)
   ·refine qI.rd id ?_ ?_ rfl;all_goals simp(disch:=omega)only[go_sem,id,beV,List.foldl_nil]
   ·by_cases hlt:i<k
    ·have hb:beV (c.take i)<72057594037927936:=zOt (by rw[List.length_take];omega);have ht:=zKg (bs:=c) (k:=i) oM;simp(disch:=omega)only[go_sem,hc,hget i hlt];repeat refine And.intro rfl ?_
     refine⟨hlt,qI.rd id ?_ ?_ rfl⟩;all_goals simp(disch:=omega)only[go_sem,id,ht]
    ·have e:i=k:=oM;subst e;have ht:List.take i c=c:=List.take_of_length_le oM;have hb8:beV c<18446744073709551616:=zOu oM;by_cases hbig:9223372036854775808≤beV c
     ·simp(disch:=omega)only[go_sem,hc,ht,qL,qV,hl,hbig,ne_eq,hC]
     ·simp(disch:=omega)only[go_sem,hc,ht,qL,qV,hl,hbig,ne_eq,hC]
 ·simp(disch:=omega)only[go_sem,vL,qV,qL,ne_eq,he];repeat refine And.intro rfl ?_
  all_goals trivial
theorem qS2 (h1:LkC tab 89 xM)(s:Rd)(hs:yH s)(k:Nat)(hk:k≤1000000000) :
  wA.1.wp tab gl (qE 0 [.ref 0 0 0,.t (.int .i64 k)]) (qE 0 [yU s]) (qX [(4,none)] 1 (fun r o=>r = .t (.sl ((qBb s k).1.map qA))∧o=[yU (qBb s k).2])):=by
 obtain⟨b,a,e⟩:=s;have ha:a≤b.length∧b.length<1000000000:=hs;by_cases he:e=0
 ·subst he;by_cases hl:b.length<a+k
  ·simp(disch:=omega)only[go_sem,wA,qV,h1,zA5,qBb,ne_eq,hl];repeat refine And.intro rfl ?_
   all_goals trivial
  ·have hc:(List.take k (List.drop a b)).length=k:=by simp only[List.length_take,List.length_drop];omega
   have ht:List.take k (List.take k (List.drop a b))=List.take k (List.drop a b):=List.take_of_length_le oM;simp(disch:=omega)only[go_sem,wA,qV,h1,zA6,qBb,ne_eq,hl,ht];repeat refine And.intro rfl ?_
   all_goals trivial
 ·simp(disch:=omega)only[go_sem,wA,qV,qBb,ne_eq,he];repeat refine And.intro rfl ?_
  all_goals trivial
theorem qRw (s:Rd)(hs:yH s):qA3.1.wp tab gl (qE 0 [.ref 0 0 0]) (qE 0 [yU s]) (qX [(2,none)] 1 (fun r o=>r = .t (.int .i64 (s.1.length-s.2.1:Nat))∧o=[yU s])):=by
 obtain⟨b,a,e⟩:=s;have ha:a≤b.length∧b.length<1000000000:=hs;simp(disch:=omega)only[go_sem,qA3,qV];repeat refine And.intro rfl ?_
 all_goals trivial
theorem qRr (s:Rd)(hs:yH s):qA1.1.wp tab gl (qE 0 [.ref 0 0 0]) (qE 0 [yU s]) (qX [(2,none)] 1 (fun r o=>r = .t (.int .i64 (s.1.length-s.2.1:Nat))∧o=[yU s])):=by
 obtain⟨b,a,e⟩:=s;have ha:a≤b.length∧b.length<1000000000:=hs;simp(disch:=omega)only[go_sem,qA1,qV];repeat refine And.intro rfl ?_
 all_goals trivial
theorem qS7 (s:Rd)(hs:yH s):qB0.1.wp tab gl (qE 0 [.ref 0 0 0]) (qE 0 [yU s]) (qX [(2,none)] 1 (fun r o=>r = .t (.int .i64 s.2.2)∧o=[yU s])):=by
 obtain⟨b,a,e⟩:=s;simp(disch:=omega)only[go_sem,qB0,qV]
def qR8:Ct where
 α:=Rd
 aS _:=[.ref 0 0 0]
 ins x:=[yU x]
 pre x:=yH x
 r x:= .t (.int .i64 (x.1.length-x.2.1:Nat))
 outs x:=[yU x]
 inj:=by
  intro s t _ h2;simp only[List.cons.injEq,and_true] at h2;cases yV h2;exact⟨rfl,rfl⟩
theorem zA4 {b:List UInt8}{a:Nat}{e:Int}(h:a≤b.length∧b.length<1000000000):qR8.fs [.ref 0 0 0] [.live 3 [.t (.agg [.sl (b.map qA),.int .i64 (a:Int),.int .i64 e])] true true] =
  some (.t (.int .i64 (b.length-a:Nat)),[.live 3 [.t (.agg [.sl (b.map qA),.int .i64 (a:Int),.int .i64 e])] true true]):=qR8.eq (b,a,e) h
theorem qS6 (h1:LkC tab 88 qR8)(s:Rd)(hs:yH s):wE.1.wp tab gl (qE 0 [.ref 0 0 0]) (qE 0 [yU s]) (qX [(2,none)] 1 (fun r o=>r = .t (.int .i64 (vS s))∧o=[yU s])):=by
 obtain⟨b,a,e⟩:=s;have ha:a≤b.length∧b.length<1000000000:=hs;by_cases he:e=0
 ·subst he;by_cases hl:a<b.length
  ·simp(disch:=omega)only[go_sem,wE,qV,h1,zA4,vS,hl];repeat refine And.intro rfl ?_
   all_goals trivial
  ·simp(disch:=omega)only[go_sem,wE,qV,h1,zA4,vS,hl];repeat refine And.intro rfl ?_
   all_goals trivial
 ·simp(disch:=omega)only[go_sem,wE,qV,vS,he];repeat refine And.intro rfl ?_
  all_goals trivial
theorem qS1 (h1:LkC tab 91 qR8)(s:Rd)(hs:yH s):vZ.1.wp tab gl (qE 0 [.ref 0 0 0]) (qE 0 [yU s]) (qX [(2,none)] 1 (fun r o=>r = .t (.int .i64 (vS s))∧o=[yU s])):=by
 obtain⟨b,a,e⟩:=s;have ha:a≤b.length∧b.length<1000000000:=hs;by_cases he:e=0
 ·subst he;by_cases hl:a<b.length
  ·simp(disch:=omega)only[go_sem,vZ,qV,h1,zA4,vS,hl];repeat refine And.intro rfl ?_
   all_goals trivial
  ·simp(disch:=omega)only[go_sem,vZ,qV,h1,zA4,vS,hl];repeat refine And.intro rfl ?_
   all_goals trivial
 ·simp(disch:=omega)only[go_sem,vZ,qV,vS,he];repeat refine And.intro rfl ?_
  all_goals trivial
def qI8 (n m:Int):Int:=if m<1 then 0 else n%m
theorem zN3 (n m:Int)(hn : -9223372036854775808≤n∧n<9223372036854775808)(hm : -9223372036854775808≤m∧m<9223372036854775808):qEe.1.wp tab gl (qE 0 [.t (.int .i64 n),.t (.int .i64 m)]) (qE 0 []) (qX [(4,none)] 0 (fun r o=>r = .t (.int .i64 (qI8 n m))∧o=[])):=by
 by_cases h1:m<1
 ·simp(disch:=omega)only[go_sem,qEe,qI8,h1]
 ·have ht:n.tmod m=n%m∨n.tmod m=n%m-m:=by
   rcases Int.lt_or_le n 0 with h | h
   ·by_cases hz:n%m=0
    ·left;rw[Int.tmod_eq_emod];simp[hz,Int.dvd_of_emod_eq_zero hz]
    ·right;rw[Int.tmod_eq_emod];have : ¬ m ∣ n:=fun hd=>hz (Int.emod_eq_zero_of_dvd hd)
     rw[if_neg oM];omega
   ·left;exact Int.tmod_eq_emod_of_nonneg h
  have p1:=Int.emod_nonneg n (b:=m) oM;have p2:=Int.emod_lt_of_pos n (b:=m) oM;rcases ht with ht | ht
  ·simp(disch:=omega)only[go_sem,qEe,qI8,h1,ht]
  ·simp(disch:=omega)only[go_sem,qEe,qI8,h1,ht];omega
theorem zGc (n:Int)(hn:n=20∨n=32):qDv.1.wp tab gl (qE 0 [.t (.int .u64 1),.t (.int .u64 n)]) (qE 0 []) (qX [(4,none),(5,none)] 0 (fun r o=>r = .tup [.t (.int .u64 0),.t (.int .u64 n)]∧o=[])):=by
 rcases hn with rfl | rfl
 ·simp(disch:=omega)only[go_sem,qDv,BitVec.reduceOfInt,BitVec.reduceAnd,BitVec.reduceToNat,Int.reduceFDiv]
 ·simp(disch:=omega)only[go_sem,qDv,BitVec.reduceOfInt,BitVec.reduceAnd,BitVec.reduceToNat,Int.reduceFDiv]
def qL5:Ct where
 α:=Int
 aS x:=[.t (.int .u64 1),.t (.int .u64 x)]
 ins _:=[]
 pre x:=x=20∨x=32
 r x:= .tup [.t (.int .u64 0),.t (.int .u64 x)]
 outs _:=[]
 inj:=by
  intro a b h _;simp at h;subst h;exact⟨rfl,rfl⟩
theorem zK0 {n:Int}(h:n=20∨n=32):qL5.fs [.t (.int .u64 1),.t (.int .u64 n)] []=some (.tup [.t (.int .u64 0),.t (.int .u64 n)],[]):=qL5.eq n h
theorem zN1 (h2:LkC tab 177 qL5)(n:Int)(hn:n=20∨n=32):qMv.1.wp tab gl (qE 0 [.t (.int .u64 1),.t (.int .u64 n)]) (qE 0 []) (qX [(4,none),(5,none)] 0 (fun r o=>r = .tup [.t (.int .u64 0),.t (.int .u64 n)]∧o=[])):=by
 simp(disch:=omega)only[go_sem,qMv,h2,zK0]
def zDu:Ct where
 α:=Int
 aS x:=[.t (.int .i64 x)]
 ins _:=[]
 pre x:=x=20∨x=32
 r x:= .sl 0 0 x.toNat
 outs _:=[.live 1 [] true false]
 inj:=by
  intro a b h _;simp at h;subst h;exact⟨rfl,rfl⟩
theorem jJi {n:Int}(h:n=20∨n=32):zDu.fs [.t (.int .i64 n)] []=some (.sl 0 0 n.toNat,[.live 1 [] true false]):=zDu.eq n h
theorem zE8 {α:Type}{l xs:List α}:jB l l.length xs=l++xs:=by simp[jB]
theorem qY5 (h1:LkC tab 126 qL5)(h2:LkC tab 127 zDu)(x:UInt8)(n:Nat)(hn:n=20∨n=32) :
  qEd.1.wp tab gl (qE 0 [.t (.sl ([x].map qA)),.t (.int .i64 n)]) (qE 0 []) (xU [] [(4,none)] 0 (fun r o=>r = .sl 0 0 n∧o=[.live 1 (((List.replicate n x).map qA).map V.t) true false])):=by
 have hn2:(n:Int)=20∨(n:Int)=32:=oM;have ht1 : ∀ v:V,List.take n [v]=[v]:=fun v=>List.take_of_length_le (by simp only[List.length_cons,List.length_nil];omega)
 simp(disch:=omega)only[go_sem,qEd,h1,h2,zK0,jJi,ht1];refine qLu (ι := { p:Nat // 1≤p∧p≤n }) (fun p=>([(7,.t (.int .i64 n)),(8,.t (.int .i64 n)),(9,.sl 69648 0 n),(10,.t (.int .i64 p.1))],[(69648,.live 1 (((List.replicate p.1 x).map qA).map V.t) true false)])) (fun p=>n-p.1) ⟨1,oM⟩ ?_ (fun p=>?_)
 ·refine qI.rd id ?_ ?_ rfl;all_goals simp(disch:=omega)only[go_sem,id,mcn]
 ·obtain⟨p,hp1,hp2⟩:=p;by_cases hlt:p<n
  ·have hse : ∀ xs,jB (List.map V.t (List.map qA (List.replicate p x))) p xs=List.map V.t (List.map qA (List.replicate p x))++xs:=by
    intro xs;have:=zE8 (l:=List.map V.t (List.map qA (List.replicate p x))) (xs:=xs);simpa using this
   have hm:(if (n:Int)<(p:Int) then (n:Int) else (p:Int))=p:=if_neg oM;by_cases hd:p≤n-p
   ·simp(disch:=omega)only[go_sem,hse,List.take_replicate,hm];refine⟨rfl,⟨p+p,oM⟩,by simp only;omega,qI.rd id ?_ ?_ rfl⟩;all_goals simp(disch:=omega)only[go_sem,id,List.replicate_append_replicate]
   ·simp(disch:=omega)only[go_sem,hse,List.take_replicate,hm];refine⟨rfl,⟨p+(n-p),oM⟩,by simp only;omega,qI.rd id ?_ ?_ rfl⟩;all_goals simp(disch:=omega)only[go_sem,id,List.replicate_append_replicate]
  ·have e:p=n:=oM;subst e;simp(disch:=omega)only[go_sem]
def qQc:Ct where
 α:=UInt8×Nat
 aS x:=[.t (.sl ([x.1].map qA)),.t (.int .i64 x.2)]
 ins _:=[]
 pre x:=x.2=20∨x.2=32
 r x:= .sl 0 0 x.2
 outs x:=[.live 1 (((List.replicate x.2 x.1).map qA).map V.t) true false]
 inj:=by
  rintro⟨a,b⟩ ⟨c,d⟩ h _;simp[qP6,Int.natCast_inj] at h;obtain⟨rfl,rfl⟩:=h;exact⟨rfl,rfl⟩
theorem zRx {x:UInt8}{n:Nat}(h:n=20∨n=32):qQc.fs [.t (.sl [qA x]),.t (.int .i64 n)] []=some (.sl 0 0 n,[.live 1 (((List.replicate n x).map qA).map V.t) true false]):=qQc.eq (x,n) h
theorem qUi (h1:LkC tab 96 qQc)(x:UInt8)(n:Nat)(hn:n=20∨n=32):qCn.1.wp tab gl (qE 0 [.t (.int .i64 n),.t (qA x)]) (qE 0 []) (xU [] [(4,none)] 0 (fun r o=>r = .sl 0 0 n∧o=[.live 1 (((List.replicate n x).map qA).map V.t) true false])):=by
 simp(disch:=omega)only[go_sem,qCn,h1,zRx]
theorem zXs {α:Type}{x d:α}{n k:Nat}(h:k<n):(List.replicate k x++List.replicate (n-k) d).set k x=List.replicate (k+1) x++List.replicate (n-(k+1)) d:=by
 rw[show n-k=(n-(k+1))+1 by omega,List.replicate_succ,List.set_append_right _ _ sM];simp[List.replicate_succ']
theorem zJv (x:UInt8)(n:Nat)(hn:n<1000000000):qFy.1.wp tab gl (qE 0 [.t (.int .i64 n),.t (qA x)]) (qE 0 []) (xU [] [(4,none)] 0 (fun r o=>r = .sl 0 0 n∧o=[.live 1 (((List.replicate n x).map qA).map V.t) true false])):=by
 simp(disch:=omega)only[go_sem,qFy];refine qD n (fun k=>[(0,.t (.int .i64 n)),(1,.t (qA x)),(5,.sl 8208 0 n),(6,.t (.int .i64 k))]) (fun k=>[(8208,.live 1 (((List.replicate k x++List.replicate (n-k) 0).map qA).map V.t) true false)]) ?_ (fun k hk=>?_)
 ·refine qI.rd id ?_ ?_ rfl;all_goals simp(disch:=omega)only[go_sem,id]
 ·by_cases hlt:k<n
  ·simp(maxSteps:=9^9)(disch:=try exact dS)only[go_sem];refine⟨hlt,qI.rd id ?_ ?_ rfl⟩;all_goals simp(disch:=omega)only[go_sem,id,zXs hlt]
  ·have e:k=n:=oM;subst e;simp(disch:=omega)only[go_sem,Nat.sub_self,List.append_nil]
abbrev zB:=List (List UInt8)
def yS (b:zB):T:= .sl (b.map bsT)
def jN (bk:List zB)(u:Int):T:= .agg [.sl (bk.map yS),.int .i64 u]
theorem qVk {b:zB}:yS b = .sl (b.map bsT):=Eq.trans (Eq.refl _) rfl
theorem qUx {bk:List zB}{u:Int}:jN bk u = .agg [.sl (bk.map yS),.int .i64 u]:=Eq.trans (Eq.refl _) rfl
attribute [go_sem] qVk qUx
def qTt (b:zB):Prop:=b.length=0∨b.length=16
def zAd (b0 b1:zB):Int:=(if b0.length=16 then 1 else 0)+(if b1.length=16 then 2 else 0)
theorem qPz (u:Int):yQ.1.wp tab gl (qE 0 [.t (jN [] u)]) (qE 0 []) (qX [(2,none)] 0 (fun r o=>r = .t (.int .i64 0)∧o=[])):=by
 simp(disch:=omega)only[go_sem,yQ,mcn];refine qM 1 ?_;simp(disch:=omega)only[go_sem,qG]
theorem qP0 (b0 b1:zB)(h0:b0.length<1000000000)(h1:b1.length<1000000000)(u:Int):yQ.1.wp tab gl (qE 0 [.t (jN [b0,b1] u)]) (qE 0 []) (qX [(2,none)] 0 (fun r o=>r = .t (.int .i64 (zAd b0 b1))∧o=[])):=by
 simp(disch:=omega)only[go_sem,yQ,mcn];refine qM 3 ?_;by_cases e0:b0.length=16
 ·by_cases e1:b1.length=16
  ·simp(disch:=omega)only[go_sem,qG,zAd,e0,e1,BitVec.reduceOfInt,BitVec.reduceOr,BitVec.reduceToNat]
  ·simp(disch:=omega)only[go_sem,qG,zAd,e0,e1,BitVec.reduceOfInt,BitVec.reduceOr,BitVec.reduceToNat]
 ·by_cases e1:b1.length=16
  ·simp(disch:=omega)only[go_sem,qG,zAd,e0,e1,BitVec.reduceOfInt,BitVec.reduceOr,BitVec.reduceToNat]
  ·simp(disch:=omega)only[go_sem,qG,zAd,e0,e1,BitVec.reduceOfInt,BitVec.reduceOr,BitVec.reduceToNat]
inductive RK:List zB→Prop
 | nil:RK []
 | two (b0 b1:zB) (h0:qTt b0) (h1:qTt b1):RK [b0,b1]
def zG2:List zB→Int
 | [b0,b1]=>zAd b0 b1
 | _=>0
theorem qVl {a b:zB}(h:yS a=yS b):a=b:=by
 simpa [yS,qHj] using h
theorem qCb {a b:List zB}{u v:Int}(h:jN a u=jN b v):a=b∧u=v:=by
 simp only[jN,T.agg.injEq,List.cons.injEq,T.sl.injEq,T.int.injEq,true_and,and_true] at h;exact⟨qB9 (fun _ _=>qVl) h.1,h.2⟩
def xL:Ct where
 α:=List zB×Int
 aS x:=[.t (jN x.1 x.2)]
 ins _:=[]
 pre x:=RK x.1
 r x:= .t (.int .i64 (zG2 x.1))
 outs _:=[]
 inj:=by
  rintro⟨a,u⟩ ⟨b,v⟩ h _;simp only[List.cons.injEq,V.t.injEq,and_true] at h;obtain⟨rfl,rfl⟩:=qCb h;exact⟨rfl,rfl⟩
theorem zOn {bk:List zB}{u:Int}(h:RK bk):xL.fs [.t (.agg [.sl (bk.map yS),.int .i64 u])] []=some (.t (.int .i64 (zG2 bk)),[]):=xL.eq (bk,u) h
def onB (bk:List zB)(a:Nat):Bool:=decide ((bk.getD a []).length=16)
def vA (i:Int)(reset:Bool):Int:=if reset=true∧i<12 then 5 else if i=14 then (if reset then 3 else 2) else if i=15 then (if reset then 4 else 3) else 0
theorem zGm (i:Int)(rs:Bool):qIe.1.wp tab gl (qE 0 [.t (.int .i64 i),.t (.bool rs)]) (qE 0 []) (qX [(4,none)] 0 (fun r o=>r = .t (.int .i64 (if vA i rs=5 then -1 else vA i rs))∧o=[])):=by
 cases rs<;>by_cases h12:i<12<;>by_cases h14:i=14<;>by_cases h15:i=15;all_goals try omega
 all_goals simp(disch:=omega)only[go_sem,qIe,vA,h12,h14,h15]
def zTx (bk:List zB)(a:Nat):Bool:=decide (a<bk.length)&&decide (0<(bk.getD a []).length)
theorem zC5 (bk:List zB)(u:Int)(a:Nat)(ha:a<1000000000)(hb:bk.length<1000000000)(hm : ∀ b∈bk,b.length<1000000000):kP.1.wp tab gl (qE 0 [.t (jN bk u),.t (.int .i64 a)]) (qE 0 []) (qX [(4,none)] 0 (fun r o=>r = .t (.bool (zTx bk a))∧o=[])):=by
 by_cases h:a<bk.length
 ·have hg:bk[a]?=some (bk.getD a []):=by simp[List.getD,h]
  have hl:(bk.getD a []).length<1000000000:=by
   have:bk.getD a []=bk[a]:=by simp[List.getD,h]
   rw[this];exact hm _ (List.getElem_mem h)
  by_cases h0:0<(bk.getD a []).length
  ·simp(disch:=omega)only[go_sem,kP,zTx,h,hg,h0]
  ·simp(disch:=omega)only[go_sem,kP,zTx,h,hg,h0]
 ·simp(disch:=omega)only[go_sem,kP,zTx,h]
theorem qS4 (u:Int):vF.1.wp tab gl (qE 0 [.t (jN [] u)]) (qE 0 []) (xU [] [(2,some (2,true))] 0 (fun r o=>r = .agg [.nil,.t (.int .i64 u)]∧o=[])):=by
 simp(disch:=omega)only[go_sem,vF,List.map_nil,Int.natCast_zero];refine qM 1 ?_;simp(disch:=omega)only[go_sem,qG]
theorem qS5 (b0 b1:zB)(u:Int)(m0:zEk b0)(m1:zEk b1):vF.1.wp tab gl (qE 0 [.t (jN [b0,b1] u)]) (qE 0 []) (xU [] [(2,some (2,true))] 0 (fun r o=>r = .agg [.sl 0 0 2,.t (.int .i64 u)]∧o=[.live 1 [.sl 1 0 b0.length,.sl 2 0 b1.length] true false,.live 1 ((b0.map bsT).map V.t) true false,.live 1 ((b1.map bsT).map V.t) true false])):=by
 simp(disch:=omega)only[go_sem,vF,mcn];have hl0:=m0.1;have hl1:=m1.1;refine qD 2 (fun k=>match k with | 0=>[(2,.ref 4112 0 0),(3,.ref 8240 0 0),(15,.t (.int .i64 0)),(13,.t (T.sl [T.sl (List.map bsT b0),T.sl (List.map bsT b1)])),(14,.t (.int .i64 2))] | 1=>[(2,.ref 4112 0 0),(3,.ref 8240 0 0),(15,.t (.int .i64 1)),(13,.t (T.sl [T.sl (List.map bsT b0),T.sl (List.map bsT b1)])),(14,.t (.int .i64 2))] | _=>[(2,.ref 4112 0 0),(3,.ref 8240 0 0),(15,.t (.int .i64 2)),(13,.t (T.sl [T.sl (List.map bsT b0),T.sl (List.map bsT b1)])),(14,.t (.int .i64 2))]) (fun k=>match k with | 0=>[(8240,.live 2 [.agg [.nil,.t (.int .i64 u)]] true true),(4112,.live 2 [.agg [.nil,.t (.int .i64 0)]] true true)] | 1=>[(8240,.live 2 [.agg [.sl 9000 0 1,.t (.int .i64 u)]] true true),(9000,.live 1 [.sl 9001 0 b0.length] true false),(9001,.live 1 ((b0.map bsT).map V.t) true false),(4112,.live 2 [.agg [.nil,.t (.int .i64 0)]] true true)] | _=>[(8240,.live 2 [.agg [.sl 9000 0 2,.t (.int .i64 u)]] true true),(9000,.live 1 [.sl 9001 0 b0.length,.sl 9002 0 b1.length] true false),(9001,.live 1 ((b0.map bsT).map V.t) true false),(9002,.live 1 ((b1.map bsT).map V.t) true false),(4112,.live 2 [.agg [.nil,.t (.int .i64 0)]] true true)]) ?_ (fun k hk=>?_)
 ·refine qI.rd id ?_ ?_ rfl;all_goals simp(disch:=omega)only[go_sem,id]
 ·rcases (show k=0∨k=1∨k=2 by omega) with rfl | rfl | rfl
  ·simp(disch:=omega)only[go_sem];refine qD b0.length (fun i=>[(2,.ref 4112 0 0),(3,.ref 8240 0 0),(15,.t (.int .i64 0)),(13,.t (T.sl [T.sl (List.map bsT b0),T.sl (List.map bsT b1)])),(14,.t (.int .i64 2)),(6,.sl 9100 0 i),(21,.t (.int .i64 (i:Nat))),(19,.t (.sl (b0.map bsT))),(20,.t (.int .i64 b0.length))]) (fun i=>[(9100,.live 1 (((b0.take i).map bsT).map V.t) true false),(8240,.live 2 [.agg [.nil,.t (.int .i64 u)]] true true),(4112,.live 2 [.agg [.nil,.t (.int .i64 0)]] true true)]) ?_ (fun i hi=>?_)
   ·refine qI.cv0 (hv:=[(9100,.live 1 [] true false)]) (ho:=[(8240,.live 2 [.agg [.nil,.t (.int .i64 u)]] true true),(4112,.live 2 [.agg [.nil,.t (.int .i64 0)]] true true)]) id ?_ ?_ rfl rfl;all_goals simp(disch:=omega)only[go_sem,id,mcn]
   ·have hm:=qI9 m0 i;by_cases hlt:i<b0.length
    ·simp(disch:=omega)only[go_sem];refine⟨hlt,qI.cv (hv:=[]) [40992] (fun j=>if j=9100 then 41024 else j) ?_ rfl⟩;simp(disch:=omega)only[go_sem,qCh (d:=[]) hlt];rfl
    ·have e:i=b0.length:=oM;subst e;simp(disch:=omega)only[go_sem];refine qI.rd (fun j=>if j=9000 then 49216 else if j=9001 then 9100 else j) ?_ ?_ rfl;all_goals simp(disch:=omega)only[go_sem]
  ·simp(disch:=omega)only[go_sem];refine qD b1.length (fun i=>[(2,.ref 4112 0 0),(3,.ref 8240 0 0),(15,.t (.int .i64 1)),(13,.t (T.sl [T.sl (List.map bsT b0),T.sl (List.map bsT b1)])),(14,.t (.int .i64 2)),(6,.sl 9100 0 i),(21,.t (.int .i64 (i:Nat))),(19,.t (.sl (b1.map bsT))),(20,.t (.int .i64 b1.length))]) (fun i=>[(9100,.live 1 (((b1.take i).map bsT).map V.t) true false),(8240,.live 2 [.agg [.sl 9000 0 1,.t (.int .i64 u)]] true true),(9000,.live 1 [.sl 9001 0 b0.length] true false),(9001,.live 1 ((b0.map bsT).map V.t) true false),(4112,.live 2 [.agg [.nil,.t (.int .i64 0)]] true true)]) ?_ (fun i hi=>?_)
   ·refine qI.cv0 (hv:=[(9100,.live 1 [] true false)]) (ho:=[(8240,.live 2 [.agg [.sl 9000 0 1,.t (.int .i64 u)]] true true),(9000,.live 1 [.sl 9001 0 b0.length] true false),(9001,.live 1 ((b0.map bsT).map V.t) true false),(4112,.live 2 [.agg [.nil,.t (.int .i64 0)]] true true)]) id ?_ ?_ rfl rfl;all_goals simp(disch:=omega)only[go_sem,id,mcn]
   ·have hm:=qI9 m1 i;by_cases hlt:i<b1.length
    ·simp(disch:=omega)only[go_sem];refine⟨hlt,qI.cv (hv:=[]) [40992] (fun j=>if j=9100 then 41024 else j) ?_ rfl⟩;simp(disch:=omega)only[go_sem,qCh (d:=[]) hlt];rfl
    ·have e:i=b1.length:=oM;subst e;simp(disch:=omega)only[go_sem];refine qI.rd (fun j=>if j=9000 then 49216 else if j=9002 then 9100 else j) ?_ ?_ rfl;all_goals simp(disch:=omega)only[go_sem]
  ·simp(disch:=omega)only[go_sem]
theorem zGj (u:Int):qBh.1.wp tab gl (qE 0 [.t (jN [] u)]) (qE 0 []) (xU [] [(2,some (2,true))] 0 (fun r o=>r = .agg [.nil,.t (.int .i64 u)]∧o=[])):=by
 simp(disch:=omega)only[go_sem,qBh,List.map_nil];refine qM 1 ?_;simp(disch:=omega)only[go_sem,qG]
def qAg:Ct where
 α:=List UInt8
 aS x:=[.t (.sl (x.map qA))]
 ins _:=[]
 pre x:=x.length<1000000000
 r x:= .sl 0 0 x.length
 outs x:=[.live 1 ((x.map qA).map V.t) true false]
 inj:=by
  intro a b h _;simp[yD] at h;subst h;exact⟨rfl,rfl⟩
theorem zY {bs:List UInt8}(h:bs.length<1000000000):qAg.fs [.t (.sl (bs.map qA))] []=some (.sl 0 0 bs.length,[.live 1 ((bs.map qA).map V.t) true false]):=qAg.eq bs h
theorem zGk (h1:LkC tab 99 qAg)(b0 b1:zB)(u:Int)(m0:zEk b0)(m1:zEk b1):qBh.1.wp tab gl (qE 0 [.t (jN [b0,b1] u)]) (qE 0 []) (xU [] [(2,some (2,true))] 0 (fun r o=>r = .agg [.sl 0 0 2,.t (.int .i64 u)]∧o=[.live 1 [.sl 1 0 b0.length,.sl 2 0 b1.length] true false,.live 1 ((b0.map bsT).map V.t) true false,.live 1 ((b1.map bsT).map V.t) true false])):=by
 simp(disch:=omega)only[go_sem,qBh,mcn];have hl0:=m0.1;have hl1:=m1.1;refine qD 2 (fun k=>match k with | 0=>[(2,.ref 4112 0 0),(3,.ref 8240 0 0),(4,.t (.int .i64 0)),(1,.ref 4096 0 0)] | 1=>[(2,.ref 4112 0 0),(3,.ref 8240 0 0),(4,.t (.int .i64 1)),(1,.ref 4096 0 0)] | _=>[(2,.ref 4112 0 0),(3,.ref 8240 0 0),(4,.t (.int .i64 2)),(1,.ref 4096 0 0)]) (fun k=>match k with | 0=>[(8240,.live 2 [.agg [.nil,.t (.int .i64 u)]] true true),(4112,.live 2 [.agg [.nil,.t (.int .i64 0)]] true true),(4096,.live 2 [.t (.agg [T.sl [T.sl (List.map bsT b0),T.sl (List.map bsT b1)],.int .i64 u])] true true)] | 1=>[(8240,.live 2 [.agg [.sl 9000 0 1,.t (.int .i64 u)]] true true),(9000,.live 1 [.sl 9001 0 b0.length] true false),(9001,.live 1 ((b0.map bsT).map V.t) true false),(4112,.live 2 [.agg [.nil,.t (.int .i64 0)]] true true),(4096,.live 2 [.t (.agg [T.sl [T.sl (List.map bsT b0),T.sl (List.map bsT b1)],.int .i64 u])] true true)] | _=>[(8240,.live 2 [.agg [.sl 9000 0 2,.t (.int .i64 u)]] true true),(9000,.live 1 [.sl 9001 0 b0.length,.sl 9002 0 b1.length] true false),(9001,.live 1 ((b0.map bsT).map V.t) true false),(9002,.live 1 ((b1.map bsT).map V.t) true false),(4112,.live 2 [.agg [.nil,.t (.int .i64 0)]] true true),(4096,.live 2 [.t (.agg [T.sl [T.sl (List.map bsT b0),T.sl (List.map bsT b1)],.int .i64 u])] true true)]) ?_ (fun k hk=>?_)
 ·refine qI.rd id ?_ ?_ rfl;all_goals simp(disch:=omega)only[go_sem,id]
 ·rcases (show k=0∨k=1∨k=2 by omega) with rfl | rfl | rfl
  ·simp(disch:=omega)only[go_sem,h1,zY];refine qD b0.length (fun i=>[(2,.ref 4112 0 0),(3,.ref 8240 0 0),(4,.t (.int .i64 0)),(1,.ref 4096 0 0),(5,.sl 9100 0 i),(6,.t (.int .i64 (i:Nat)))]) (fun i=>[(9100,.live 1 (((b0.take i).map bsT).map V.t) true false),(8240,.live 2 [.agg [.nil,.t (.int .i64 u)]] true true),(4112,.live 2 [.agg [.nil,.t (.int .i64 0)]] true true),(4096,.live 2 [.t (.agg [T.sl [T.sl (List.map bsT b0),T.sl (List.map bsT b1)],.int .i64 u])] true true)]) ?_ (fun i hi=>?_)
   ·refine qI.cv0 (hv:=[(9100,.live 1 [] true false)]) (ho:=[(8240,.live 2 [.agg [.nil,.t (.int .i64 u)]] true true),(4112,.live 2 [.agg [.nil,.t (.int .i64 0)]] true true),(4096,.live 2 [.t (.agg [T.sl [T.sl (List.map bsT b0),T.sl (List.map bsT b1)],.int .i64 u])] true true)]) id ?_ ?_ rfl rfl;all_goals simp(disch:=omega)only[go_sem,id,mcn]
   ·have hm:=qI9 m0 i;by_cases hlt:i<b0.length
    ·simp(disch:=omega)only[go_sem,h1,zY];refine⟨hlt,qI.cv (hv:=[]) [41104] (fun j=>if j=9100 then 41136 else j) ?_ rfl⟩;simp(disch:=omega)only[go_sem,qCh (d:=[]) hlt];rfl
    ·have e:i=b0.length:=oM;subst e;simp(disch:=omega)only[go_sem,h1,zY];refine qI.rd (fun j=>if j=9000 then 45120 else if j=9001 then 9100 else j) ?_ ?_ rfl;all_goals simp(disch:=omega)only[go_sem]
  ·simp(disch:=omega)only[go_sem,h1,zY];refine qD b1.length (fun i=>[(2,.ref 4112 0 0),(3,.ref 8240 0 0),(4,.t (.int .i64 1)),(1,.ref 4096 0 0),(5,.sl 9100 0 i),(6,.t (.int .i64 (i:Nat)))]) (fun i=>[(9100,.live 1 (((b1.take i).map bsT).map V.t) true false),(8240,.live 2 [.agg [.sl 9000 0 1,.t (.int .i64 u)]] true true),(9000,.live 1 [.sl 9001 0 b0.length] true false),(9001,.live 1 ((b0.map bsT).map V.t) true false),(4112,.live 2 [.agg [.nil,.t (.int .i64 0)]] true true),(4096,.live 2 [.t (.agg [T.sl [T.sl (List.map bsT b0),T.sl (List.map bsT b1)],.int .i64 u])] true true)]) ?_ (fun i hi=>?_)
   ·refine qI.cv0 (hv:=[(9100,.live 1 [] true false)]) (ho:=[(8240,.live 2 [.agg [.sl 9000 0 1,.t (.int .i64 u)]] true true),(9000,.live 1 [.sl 9001 0 b0.length] true false),(9001,.live 1 ((b0.map bsT).map V.t) true false),(4112,.live 2 [.agg [.nil,.t (.int .i64 0)]] true true),(4096,.live 2 [.t (.agg [T.sl [T.sl (List.map bsT b0),T.sl (List.map bsT b1)],.int .i64 u])] true true)]) id ?_ ?_ rfl rfl;all_goals simp(disch:=omega)only[go_sem,id,mcn]
   ·have hm:=qI9 m1 i;by_cases hlt:i<b1.length
    ·simp(disch:=omega)only[go_sem,h1,zY];refine⟨hlt,qI.cv (hv:=[]) [41104] (fun j=>if j=9100 then 41136 else j) ?_ rfl⟩;simp(disch:=omega)only[go_sem,qCh (d:=[]) hlt];rfl
    ·have e:i=b1.length:=oM;subst e;simp(disch:=omega)only[go_sem,h1,zY];refine qI.rd (fun j=>if j=9000 then 45120 else if j=9002 then 9100 else j) ?_ ?_ rfl;all_goals simp(disch:=omega)only[go_sem]
  ·simp(disch:=omega)only[go_sem,h1,zY]
def twR (bk:List zB)(u:Int):V:=match bk with
 | [_,_]=> .agg [.sl 0 0 2,.t (.int .i64 u)]
 | _=> .agg [.nil,.t (.int .i64 u)]
def twO (bk:List zB):List Ob:=match bk with
 | [b0,b1]=>[.live 1 [.sl 1 0 b0.length,.sl 2 0 b1.length] true false,.live 1 ((b0.map bsT).map V.t) true false,.live 1 ((b1.map bsT).map V.t) true false]
 | _=>[]
def RM (bk:List zB):Prop:=RK bk ∧ ∀ b∈bk,zEk b
def jP:Ct where
 α:=List zB×Int
 aS x:=[.t (jN x.1 x.2)]
 ins _:=[]
 pre x:=RM x.1
 r x:=twR x.1 x.2
 outs x:=twO x.1
 inj:=by
  rintro⟨a,u⟩ ⟨b,v⟩ h _;simp only[List.cons.injEq,V.t.injEq,and_true] at h;obtain⟨rfl,rfl⟩:=qCb h;exact⟨rfl,rfl⟩
theorem qU7 {u:Int}:jP.fs [.t (.agg [.sl [],.int .i64 u])] []=some (.agg [.nil,.t (.int .i64 u)],[]):=jP.eq ([],u) ⟨.nil,sM⟩
theorem jK {b0 b1:zB}{u:Int}(h:RM [b0,b1]):jP.fs [.t (.agg [.sl [.sl (b0.map bsT),.sl (b1.map bsT)],.int .i64 u])] [] =
  some (.agg [.sl 0 0 2,.t (.int .i64 u)],[.live 1 [.sl 1 0 b0.length,.sl 2 0 b1.length] true false,.live 1 ((b0.map bsT).map V.t) true false,.live 1 ((b1.map bsT).map V.t) true false]):=jP.eq ([b0,b1],u) h
end Go.Eng
end
