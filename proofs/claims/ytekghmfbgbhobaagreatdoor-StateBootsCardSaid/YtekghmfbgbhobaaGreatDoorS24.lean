/- A part of an abstract machine, its walks, their tie. -/
import Derived.Test.YtekghmfbgbhobaaGreatDoorS23
import Derived.Test.YtekghmfbgbhobaaGreatDoorS22
set_option linter.all false
section
set_option maxHeartbeats 64000000
set_option maxRecDepth 20000
namespace Go.Eng
variable (tab:Tab) (gl:Gl)
def m64 (n:Int):Nat:=(n%18446744073709551616).toNat
def beI (size:Nat)(n:Int)(k:Nat):List UInt8:=(List.range k).map fun i=>UInt8.ofNat (m64 n/2^(8*(size-1-i)))
theorem zGq {size:Nat}{n:Int}:beI size n 0=[]:=rfl
theorem qWt {size:Nat}{n:Int}{k:Nat}:(beI size n k).length=k:=by simp[beI]
theorem zGp {size:Nat}{n:Int}{k:Nat}:beI size n (k+1)=beI size n k++[UInt8.ofNat (m64 n/2^(8*(size-1-k)))]:=by simp[beI,List.range_succ]
theorem zG3 {n:Int}:IntKind.u64.wrap n=(m64 n:Int):=by rw[qSm,m64];omega
theorem zGb (b:List UInt8)(size:Nat)(n:Int)(hb:b.length<1000000000)(hs:1≤size∧size≤8):qIu.1.wp tab gl (qD 0 [.t (.sl (b.map qA)),.t (.int .i64 size),.t (.int .i64 n)]) (qD 0 []) (xU [] [(6,none)] 0 (fun r o=>r = .sl 0 0 (b.length+size)∧o=[.live 1 (((b++beI size n size).map qA).map V.t) true false])):=by
 have hw:=zG3 (n:=n);simp(disch:=omega)only[go_sem,qIu];refine qF size (fun k=>[(2,.t (.int .i64 n)),(7,.sl 8208 0 (b.length+k)),(8,.t (.int .i64 ((size:Int)-1-k)))]) (fun k=>[(8208,.live 1 (((b++beI size n k).map qA).map V.t) true false)]) ?_ (fun k hk=>?_)
 ·refine qI.rd id ?_ ?_ rfl;all_goals simp(disch:=omega)only[go_sem,id,zGq,List.append_nil]
  all_goals omega
 ·have hl:(beI size n k).length=k:=qWt;by_cases hlt:k<size
  ·simp(disch:=omega)only[go_sem,hl,hw];refine⟨hlt,qI.rd (fun _=>32912) ?_ ?_ rfl⟩;all_goals simp(disch:=omega)only[go_sem,zGp,List.append_assoc,Nat.add_assoc]
   all_goals first | omega | rfl
  ·have e:k=size:=oM;subst e;simp(disch:=omega)only[go_sem,hl]
theorem zF6 (b:List UInt8)(size:Nat)(n:Int)(hb:b.length<1000000000)(hs:1≤size∧size≤8):qIp.1.wp tab gl (qD 0 [.t (.sl (b.map qA)),.t (.int .i64 size),.t (.int .i64 n)]) (qD 0 []) (xU [] [(6,none)] 0 (fun r o=>r = .sl 0 0 (b.length+size)∧o=[.live 1 (((b++beI size n size).map qA).map V.t) true false])):=by
 have hw:=zG3 (n:=n);simp(disch:=omega)only[go_sem,qIp];refine qF size (fun k=>[(2,.t (.int .i64 n)),(7,.sl 8224 0 (b.length+k)),(8,.t (.int .i64 ((size:Int)-1-k)))]) (fun k=>[(8224,.live 1 (((b++beI size n k).map qA).map V.t) true false)]) ?_ (fun k hk=>?_)
 ·refine qI.rd id ?_ ?_ rfl;all_goals simp(disch:=omega)only[go_sem,id,zGq,List.append_nil]
  all_goals omega
 ·have hl:(beI size n k).length=k:=qWt;by_cases hlt:k<size
  ·simp(disch:=omega)only[go_sem,hl,hw];refine⟨hlt,qI.rd (fun _=>32912) ?_ ?_ rfl⟩;all_goals simp(disch:=omega)only[go_sem,zGp,List.append_assoc,Nat.add_assoc]
   all_goals first | omega | rfl
  ·have e:k=size:=oM;subst e;simp(disch:=omega)only[go_sem,hl]
abbrev Rd:=List UInt8×Nat×Int
def rdT (s:Rd):T:= .agg [bsT s.1,.int .i64 (s.2.1:Int),.int .i64 s.2.2]
def qOz (s:Rd):Ob:= .live 3 [.t (rdT s)] true true
def qN2 (s:Rd):Prop:=s.2.1≤s.1.length∧s.1.length<1000000000
theorem zJz (b:List UInt8)(hb:b.length<1000000000):qLb.1.wp tab gl (qD 0 [.t (.sl (b.map qA))]) (qD 0 []) (xU [] [(2,none)] 0 (fun r o=>r = .ref 0 0 0∧o=[qOz (b,0,0)])):=by
 simp(disch:=omega)only[go_sem,qLb];rfl
def qQb (w:UInt8)(k:List UInt8):List UInt8:=(k++List.replicate (64-k.length) 0).map (· ^^^ w)
def zAw (k b:List UInt8):List UInt8:=jY (qQb 92 k++jY (qQb 54 k++b))
theorem qHn {w:UInt8}{k:List UInt8}(h:k.length≤64):(qQb w k).length=64:=by simp[qQb];omega
theorem zAx {k b:List UInt8}:List.take 32 (zAw k b)=zAw k b:=List.take_of_length_le (by rw[zAw,qO];omega)
theorem qDx {k b:List UInt8}:(zAw k b).length=32:=qO
def xk (w:UInt8)(z:List UInt8)(k:Nat):List UInt8:=(z.take k).map (· ^^^ w)++z.drop k
theorem jRh {w:UInt8}{z:List UInt8}:xk w z 0=z:=by simp[xk]
theorem jRi {w:UInt8}{z:List UInt8}{n:Nat}(h:z.length=n):xk w z n=z.map (· ^^^ w):=by subst h;simp[xk]
theorem zPa {w:UInt8}{z:List UInt8}{k:Nat}:(xk w z k).length=z.length:=by simp[xk];omega
theorem jHu {w:UInt8}{z:List UInt8}{k:Nat}(h:k<z.length):(xk w z k).getD k 0=z.getD k 0:=by
 have hl:((z.take k).map (· ^^^ w)).length=k:=soM;rw[xk,List.getD_eq_getElem?_getD,List.getElem?_append_right oM,hl,Nat.sub_self,List.getElem?_drop,List.getD_eq_getElem?_getD];rfl
theorem jHv {w:UInt8}{z:List UInt8}{k:Nat}(h:k<z.length):(xk w z k).set k (z.getD k 0 ^^^ w)=xk w z (k+1):=by
 have hl:((z.take k).map (· ^^^ w)).length=k:=soM;have hd:z.drop k=z.getD k 0::z.drop (k+1):=by
  rw[List.drop_eq_getElem_cons h];simp[List.getD,List.getElem?_eq_getElem h]
 rw[xk,xk,List.set_append_right _ _ oM,hl,Nat.sub_self,hd,List.set_cons_zero,qEj (d:=0) h,List.map_append,List.append_assoc];rfl
theorem zFt (w:UInt8)(key:List UInt8)(hk:key.length≤64) :
  qIa.1.wp tab gl (qD 0 [.t (qA w),.ref 0 0 0]) (qD 0 [.live 1 [.t (.sl (key.map qA))] true true]) (xU [] [(3,none)] 1 (fun r o=>r = .sl 1 0 64∧o=[.live 1 [.t (.sl (key.map qA))] true true,.live 1 (((qQb w key).map qA).map V.t) true false])):=by
 simp(maxSteps:=9^9)(disch:=try exact dS)only[go_sem,qIa];have hz:(List.take 64 key++List.replicate (64-key.length) 0).length=64:=soM;have hp:qQb w key=(List.take 64 key++List.replicate (64-key.length) 0).map (· ^^^ w):=by rw[qQb,List.take_of_length_le hk]
 rw[hp];generalize List.take 64 key++List.replicate (64-key.length) 0=z at *;refine qF 64 (fun k=>[(0,.t (qA w)),(4,.sl 8192 0 64),(10,.t (.int .i64 (k:Nat)))]) (fun k=>[(8192,.live 1 (((xk w z k).map qA).map V.t) true false),(0,.live 1 [.t (.sl (key.map qA))] true true)]) ?_ (fun k hk=>?_)
 ·refine qI.rd id ?_ ?_ rfl;all_goals simp(maxSteps:=9^9)(disch:=try exact dS)only[go_sem,id,jRh]
  all_goals rfl
 ·have hx:(xk w z k).length=64:=by rw[zPa,hz]
  by_cases hlt:k<64
  ·have hg:=jHu (w:=w) (z:=z) (k:=k) oM;have hs:=jHv (w:=w) (z:=z) (k:=k) oM;simp(maxSteps:=9^9)(disch:=try exact dS)only[go_sem,hx,hg,hs];refine⟨hlt,qI.rd id ?_ ?_ rfl⟩;all_goals simp(maxSteps:=9^9)(disch:=try exact dS)only[go_sem,id]
   all_goals first | omega | rfl
  ·have e:k=64:=oM;subst e;have hn:=jRi (w:=w) hz;have ht:List.take 64 z=z:=List.take_of_length_le oM;simp(maxSteps:=9^9)(disch:=try exact dS)only[go_sem,hn,hz,ht]
def qXv:Ct where
 α:=UInt8×List UInt8
 aS x:=[.t (qA x.1),.ref 0 0 0]
 ins x:=[.live 1 [.t (.sl (x.2.map qA))] true true]
 pre x:=x.2.length≤64
 r _:= .sl 1 0 64
 outs x:=[.live 1 [.t (.sl (x.2.map qA))] true true,.live 1 (((qQb x.1 x.2).map qA).map V.t) true false]
 inj:=by
  rintro⟨a,b⟩ ⟨c,d⟩ h h2;simp only[List.cons.injEq,V.t.injEq,qOf,and_true,bsT,Ob.live.injEq,T.sl.injEq,yC,true_and] at h h2;subst h h2;exact⟨rfl,rfl⟩
theorem zMk {w:UInt8}{k:List UInt8}(h:k.length≤64):qXv.fs [.t (qA w),.ref 0 0 0] [.live 1 [.t (.sl (k.map qA))] true true]=some (.sl 1 0 64,[.live 1 [.t (.sl (k.map qA))] true true,.live 1 (((qQb w k).map qA).map V.t) true false]):=qXv.eq (w,k) h
theorem zO4 (h1:LkC tab 100 qE9)(h2:LkC tab 101 qXv)(key b:List UInt8)(hk:key.length≤64)(hb:b.length<500000000) :
  qPw.1.wp tab gl (qD 0 [.t (bsT key),.t (bsT b)]) (qD 0 []) (xU [] [(4,none)] 0 (fun r o=>r = .sl 0 0 32∧o=[.live 1 (((zAw key b).map qA).map V.t) true false])):=by
 have m1:=zMk (w:=54) hk;have m2:=zMk (w:=92) hk;have l1:=qHn (w:=54) hk;have t1:List.take (64+b.length) (qQb 54 key++b)=qQb 54 key++b:=List.take_of_length_le (by simp[l1]);have l2:=qHn (w:=92) hk;have t2 : ∀ x,List.take 32 (jY x)=jY x:=fun x=>List.take_of_length_le (by rw[qO];omega)
 have t3 : ∀ x,List.take 96 (qQb 92 key++jY x)=qQb 92 key++jY x:=fun x=>List.take_of_length_le (by rw[List.length_append,l2,qO];omega)
 have hl:(qQb 54 key++b).length=64+b.length:=by simp[l1]
 have hl2:(qQb 92 key++jY (qQb 54 key++b)).length=96:=by rw[List.length_append,l2,qO]
 simp(maxSteps:=9^9)(disch:=try exact dS)only[go_sem,qPw,h1,h2,m1,m2,l1,l2,qO,hl,t1,t2,t3,zJ,zAw]
theorem zHc {w:UInt8}{key:List UInt8}{k:Nat}(h:key.length≤64)(hk:k<64):(qQb w key).getD k 0=key.getD k 0 ^^^ w:=by
 rw[qQb,List.getD_eq_getElem?_getD,List.getElem?_map];by_cases hl:k<key.length
 ·rw[List.getElem?_append_left hl,List.getElem?_eq_getElem hl];simp[List.getD,List.getElem?_eq_getElem hl]
 ·rw[List.getElem?_append_right oM,List.getElem?_replicate,if_pos oM];simp[List.getD,List.getElem?_eq_none (show key.length≤k by omega)]
theorem zS9 {d:List UInt8}{j n:Nat}{x:UInt8}(h:d.length=j)(hj:j<n):(d++List.replicate (n-j) 0).set j x=d++[x]++List.replicate (n-(j+1)) 0:=by
 rw[List.set_append_right _ _ oM,h,Nat.sub_self,show n-j=(n-(j+1))+1 by omega,List.replicate_succ,List.set_cons_zero];simp
def upZ (p:List UInt8)(k:Nat):List UInt8:=p.take k++List.replicate (64-k) 0
theorem jK7 {p:List UInt8}:upZ p 0=List.replicate 64 0:=rfl
theorem jGp {p:List UInt8}(h:p.length=64):upZ p 64=p:=by
 simp[upZ];exact List.take_of_length_le oM
theorem qW6 {p:List UInt8}{k:Nat}(h:p.length=64)(hk:k≤64):(upZ p k).length=64:=by simp[upZ];omega
theorem zOv {p:List UInt8}{k:Nat}{x:UInt8}(h:p.length=64)(hk:k<64)(hx:p.getD k 0=x):(upZ p k).set k x=upZ p (k+1):=by
 rw[upZ,zS9 soM hk,upZ,qEj (d:=0) oM,hx]
theorem zJy (h1:tab.look 102=some (qHx 32 jY).fs)(key b:List UInt8)(hk:key.length≤64)(hb:b.length<500000000) :
  qLa.1.wp tab gl (qD 0 [.t (bsT key),.t (bsT b)]) (qD 0 []) (xU [] [(4,none)] 0 (fun r o=>r = .sl 0 0 32∧o=[.live 1 (((zAw key b).map qA).map V.t) true false])):=by
 have l1:=qHn (w:=54) hk;have l2:=qHn (w:=92) hk;simp(maxSteps:=9^9)(disch:=try exact dS)only[go_sem,qLa];refine And.intro rfl ?_;refine qF 64 (fun k=>[(0,.t (.sl (key.map qA))),(1,.t (.sl (b.map qA))),(5,.sl 16384 0 64),(6,.sl 16400 0 64),(7,.t (.int .i64 (k:Nat)))]) (fun k=>[(16384,.live 1 (((upZ (qQb 54 key) k).map qA).map V.t) true false),(16400,.live 1 (((upZ (qQb 92 key) k).map qA).map V.t) true false)]) ?_ (fun k hk'=>?_)
 ·refine qI.rd id ?_ ?_ rfl;all_goals simp(maxSteps:=9^9)(disch:=try exact dS)only[go_sem,id,jK7]
 ·have u1:=qW6 (k:=k) l1 hk';have u2:=qW6 (k:=k) l2 hk';by_cases hlt:k<64
  ·have g1:=zHc (w:=54) hk hlt;have g2:=zHc (w:=92) hk hlt;have s1:=zOv l1 hlt g1;have s2:=zOv l2 hlt g2;by_cases hin:k<key.length
   ·simp(maxSteps:=9^9)(disch:=try exact dS)only[go_sem,hin,u1,u2,s1,s2];refine⟨hlt,qI.rd id ?_ ?_ rfl⟩;all_goals simp(maxSteps:=9^9)(disch:=try exact dS)only[go_sem,id]
    all_goals first | omega | rfl
   ·rw[show key.getD k 0=0 by simp[List.getD,List.getElem?_eq_none (show key.length≤k by omega)]] at s1 s2;simp(maxSteps:=9^9)(disch:=try exact dS)only[go_sem,hin,u1,u2,s1,s2];refine⟨hlt,qI.rd id ?_ ?_ rfl⟩;all_goals simp(maxSteps:=9^9)(disch:=try exact dS)only[go_sem,id]
    all_goals first | omega | rfl
  ·have e:k=64:=oM;subst e;have t1:List.take (64+b.length) (qQb 54 key++b)=qQb 54 key++b:=List.take_of_length_le (by simp[l1]);have t2 : ∀ x,List.take 32 (jY x)=jY x:=fun x=>List.take_of_length_le (by rw[qO];omega)
   have t3 : ∀ x,List.take 96 (qQb 92 key++jY x)=qQb 92 key++jY x:=fun x=>List.take_of_length_le (by rw[List.length_append,l2,qO];omega)
   have hl:(qQb 54 key++b).length=64+b.length:=by simp[l1]
   have hl2:(qQb 92 key++jY (qQb 54 key++b)).length=96:=by rw[List.length_append,l2,qO]
   simp(maxSteps:=9^9)(disch:=try exact dS)only[go_sem,jGp l1,jGp l2,h1,l1,l2,qO,hl,t1,t2,t3,qW5,zAw]
def qQv:Ct where
 α:=List UInt8×List UInt8
 aS x:=[.t (.sl (x.1.map qA)),.t (.sl (x.2.map qA))]
 ins _:=[]
 pre x:=x.1.length≤64∧x.2.length<500000000
 r _:= .sl 0 0 32
 outs x:=[.live 1 (((zAw x.1 x.2).map qA).map V.t) true false]
 inj:=by
  rintro⟨a,b⟩ ⟨c,d⟩ h _;simp[yC] at h;obtain⟨rfl,rfl⟩:=h;exact⟨rfl,rfl⟩
theorem zG4 {k b:List UInt8}(h:k.length≤64∧b.length<500000000):qQv.fs [.t (.sl (k.map qA)),.t (.sl (b.map qA))] []=some (.sl 0 0 32,[.live 1 (((zAw k b).map qA).map V.t) true false]):=qQv.eq (k,b) h
def qBr (n:Nat):List UInt8:=[UInt8.ofNat (n/16777216),UInt8.ofNat (n/65536),UInt8.ofNat (n/256),UInt8.ofNat n]
theorem kG {n:Nat}:(qBr n).length=4:=rfl
theorem zJv (n:Nat):qK8.1.wp tab gl (qD 0 [.t (.int .i64 n)]) (qD 0 []) (xU [] [(2,none)] 0 (fun r o=>r = .sl 0 0 4∧o=[.live 1 (((qBr n).map qA).map V.t) true true])):=by
 simp(maxSteps:=9^9)(disch:=try exact dS)only[go_sem,qK8,zEy,qBr,mcn]
theorem zF4 (n:Nat):qIn.1.wp tab gl (qD 0 [.t (.int .i64 n)]) (qD 0 []) (xU [] [(2,none)] 0 (fun r o=>r = .sl 0 0 4∧o=[.live 1 (((qBr n).map qA).map V.t) true true])):=by
 simp(maxSteps:=9^9)(disch:=try exact dS)only[go_sem,qIn,zEy,qBr,mcn]
def qPz:Ct where
 α:=Nat
 aS x:=[.t (.int .i64 x)]
 ins _:=[]
 pre _:=True
 r _:= .sl 0 0 4
 outs x:=[.live 1 (((qBr x).map qA).map V.t) true true]
 inj:=by
  intro a b h _;simp only[List.cons.injEq,V.t.injEq,T.int.injEq,true_and,and_true,Int.natCast_inj] at h;subst h;exact⟨rfl,rfl⟩
theorem zEe {n:Nat}:qPz.fs [.t (.int .i64 n)] []=some (.sl 0 0 4,[.live 1 (((qBr n).map qA).map V.t) true true]):=qPz.eq n trivial
theorem zDv {nb id n:Nat}{a:List UInt8}:qBv nb [.sl id 0 n,.t (qKm a)]=Q.get id fun x=>match x with
  | .live z' es true full=>Q.assert (z'=1∧es.length=n∧qCa (n+a.length) 1∧100≤id) (.free nb (.ret (.sl nb 0 (n+a.length),[(id,.dead),(nb,.live 1 (es++(a.map qA).map V.t) true false)])))
  | x=> .fail:=by
 have e : ∀ st:ByteArray,st.size=a.length→(st.data.toList.map fun b=>V.t (qA b))=(a.map qA).map V.t→qBv nb [.sl id 0 n,.t (.str st)]=Q.get id fun x=>match x with
  | .live z' es true full=>Q.assert (z'=1∧es.length=n∧qCa (n+a.length) 1∧100≤id) (.free nb (.ret (.sl nb 0 (n+a.length),[(id,.dead),(nb,.live 1 (es++(a.map qA).map V.t) true false)])))
  | x=> .fail:=fun st h1 h2=>by
  simp only[qBv,h1,h2];congr 1
 exact e _ (by simp[ByteArray.size]) sM
attribute [go_sem ↓] zDv
def drT (label ctx:List UInt8)(n:Nat):List UInt8:=label++[0]++ctx++qBr (8*n)
def drR (key rest:List UInt8)(k:Nat):List UInt8:=(List.range k).flatMap fun i=>zAw key (qBr (i+1)++rest)
def drv (key label ctx:List UInt8)(n:Nat):List UInt8:=(drR key (drT label ctx n) ((n+31)/32)).take n
theorem qKf {key rest:List UInt8} : ∀ {k:Nat},(drR key rest k).length=32*k
 | 0=>rfl
 | k+1=>by
  have:=qKf (key:=key) (rest:=rest) (k:=k);simp only[drR] at this ⊢;rw[List.range_succ,List.flatMap_append,List.length_append,this];simp[qDx];omega
theorem zGx {key rest:List UInt8}{k:Nat}:drR key rest (k+1)=drR key rest k++zAw key (qBr (k+1)++rest):=by
 simp[drR,List.range_succ]
theorem qBb {key label ctx:List UInt8}{n:Nat}:(drv key label ctx n).length=n:=by
 rw[drv,List.length_take,qKf];omega
theorem zC5 (h1:LkC tab 80 qPz)(h2:LkC tab 81 qQv)(key label ctx:List UInt8)(n:Nat)(hk:key.length≤64)(hl:label.length<100000000)(hc:ctx.length<100000000)(hn:n≤1024) :
  qCc.1.wp tab gl (qD 0 [.t (.sl (key.map qA)),.t (qKm label),.t (.sl (ctx.map qA)),.t (.int .i64 n)]) (qD 0 []) (qY [(8,none)] 0 (fun r o=>r = .t (.sl ((drv key label ctx n).map qA))∧o=[])):=by
 rcases Nat.eq_zero_or_pos n with rfl | hn0
 ·rw[show drv key label ctx 0=[] from rfl];simp(maxSteps:=9^9)(disch:=try exact dS)only[go_sem,qCc]
 have t4:List.take 4 (qBr (8*n))=qBr (8*n):=rfl;have lD:(drT label ctx n).length=label.length+1+ctx.length+4:=by simp[drT,qBr];omega
 simp(maxSteps:=9^9)(disch:=try exact dS)only[go_sem,qCc,h1,h2,zEe,kG,t4];have hD:label++[0]++ctx++qBr (8*n)=drT label ctx n:=rfl;rw[hD];generalize hr:drT label ctx n=rest at *;have hm:label.length+1+ctx.length+4<300000000:=oM;generalize label.length+1+ctx.length+4=m at *;refine qF ((n+31)/32) (fun k=>[(0,.t (.sl (key.map qA))),(3,.t (.int .i64 n)),(9,.sl 20544 0 m),(10,.sl 9000 0 (32*k)),(11,.t (.int .i64 ((k+1:Nat):Int)))]) (fun k=>[(9000,.live 1 (((drR key rest k).map qA).map V.t) true false),(20544,.live 1 ((rest.map qA).map V.t) true false)]) ?_ (fun k hk'=>?_)
 ·refine qI.cv0 (hv:=[(9000,.live 1 [] true false)]) (ho:=[(20544,.live 1 ((rest.map qA).map V.t) true false)]) id ?_ ?_ rfl rfl;all_goals simp(maxSteps:=9^9)(disch:=try exact dS)only[go_sem,id]
  all_goals rfl
 ·have hR:=qKf (key:=key) (rest:=rest) (k:=k);by_cases hlt:32*k<n
  ·have t5:List.take m rest=rest:=List.take_of_length_le oM;have t6:List.take (4+m) (qBr (k+1)++rest)=qBr (k+1)++rest:=List.take_of_length_le (by rw[List.length_append,kG];omega);have hM:=zG4 (k:=key) (b:=qBr (k+1)++rest) ⟨hk,by rw[List.length_append,kG];omega⟩;simp(maxSteps:=9^9)(disch:=try exact dS)only[go_sem,h1,h2,zEe,kG,hR,t5,t6,lD,hM,qDx,zAx];refine⟨oM,qI.rd (fun j=>if j=9000 then 41072 else j) ?_ ?_ rfl⟩;all_goals simp(maxSteps:=9^9)(disch:=try exact dS)only[go_sem,id,zGx]
   all_goals first | omega | rfl
  ·have e:k=(n+31)/32:=oM;subst e;simp(maxSteps:=9^9)(disch:=try exact dS)only[go_sem,hR,drv,hr]
def qAd:Ct where
 α:=List UInt8×List UInt8×List UInt8×Nat
 aS x:=[.t (.sl (x.1.map qA)),.t (qKm x.2.1),.t (.sl (x.2.2.1.map qA)),.t (.int .i64 x.2.2.2)]
 ins _:=[]
 pre x:=x.1.length≤64∧x.2.1.length<100000000∧x.2.2.1.length<100000000∧x.2.2.2≤1024
 r x:= .t (.sl ((drv x.1 x.2.1 x.2.2.1 x.2.2.2).map qA))
 outs _:=[]
 inj:=by
  rintro⟨a,b,c,d⟩ ⟨e,f,g,h⟩ hh _;simp only[List.cons.injEq,V.t.injEq,T.int.injEq,T.sl.injEq,true_and,and_true,yC,zHr,Int.natCast_inj] at hh;obtain⟨rfl,rfl,rfl,rfl⟩:=hh;exact⟨rfl,rfl⟩
theorem qQw {k l c:List UInt8}{n:Nat}(h:k.length≤64∧l.length<100000000∧c.length<100000000∧1≤n∧n≤1024):qAd.fs [.t (.sl (k.map qA)),.t (qKm l),.t (.sl (c.map qA)),.t (.int .i64 n)] []=some (.t (.sl ((drv k l c n).map qA)),[]):=qAd.eq (k,l,c,n) ⟨h.1,h.2.1,h.2.2.1,h.2.2.2.2⟩
theorem zW2 {k l c:List UInt8}(h:k.length≤64∧l.length<100000000∧c.length<100000000):qAd.fs [.t (.sl (k.map qA)),.t (qKm l),.t (.sl (c.map qA)),.t (.int .i64 0)] []=some (.t (.sl []),[]):=qAd.eq (k,l,c,0) ⟨h.1,h.2.1,h.2.2,Nat.zero_le _⟩
theorem qZw (h1:LkC tab 82 qPz)(h2:LkC tab 83 qQv)(key label ctx:List UInt8)(n:Nat)(hk:key.length≤64)(hl:label.length<100000000)(hc:ctx.length<100000000)(hn:n≤1024) :
  qBn.1.wp tab gl (qD 0 [.t (.sl (key.map qA)),.t (qKm label),.t (.sl (ctx.map qA)),.t (.int .i64 n)]) (qD 0 []) (qY [(8,none)] 0 (fun r o=>r = .t (.sl ((drv key label ctx n).map qA))∧o=[])):=by
 rcases Nat.eq_zero_or_pos n with rfl | hn0
 ·rw[show drv key label ctx 0=[] from rfl];simp(maxSteps:=9^9)(disch:=try exact dS)only[go_sem,qBn]
 simp(maxSteps:=9^9)(disch:=try exact dS)only[go_sem,qBn];have lD:(drT label ctx n).length=label.length+1+ctx.length+4:=by simp[drT,qBr];omega
 obtain⟨rest,hr⟩ : ∃ rest,drT label ctx n=rest:=⟨_,rfl⟩;have lR:rest.length=label.length+1+ctx.length+4:=by rw[←hr,lD]
 refine qF ((n+31)/32) (fun k=>[(0,.t (.sl (key.map qA))),(1,.t (qKm label)),(2,.t (.sl (ctx.map qA))),(3,.t (.int .i64 n)),(9,.sl 9000 0 (32*k)),(10,.t (.int .i64 ((k+1:Nat):Int)))]) (fun k=>[(9000,.live 1 (((drR key rest k).map qA).map V.t) true false)]) ?_ (fun k hk'=>?_)
 ·refine qI.cv0 (hv:=[(9000,.live 1 [] true false)]) (ho:=[]) id ?_ ?_ rfl rfl;all_goals simp(maxSteps:=9^9)(disch:=try exact dS)only[go_sem,id]
  all_goals rfl
 ·have hR:=qKf (key:=key) (rest:=rest) (k:=k);by_cases hlt:32*k<n
  ·have t4:List.take 4 (qBr (8*n))=qBr (8*n):=rfl;have hM:=zG4 (k:=key) (b:=qBr (k+1)++rest) ⟨hk,by rw[List.length_append,kG];omega⟩;have hA:qBr (k+1)++label++[0]++ctx++qBr (8*n)=qBr (k+1)++rest:=by rw[←hr,drT];simp only[List.append_assoc]
   have t5:List.take (4+label.length+1+ctx.length+4) (qBr (k+1)++rest)=qBr (k+1)++rest:=List.take_of_length_le (by rw[List.length_append,kG];omega);simp(maxSteps:=9^9)(disch:=try exact dS)only[go_sem,h1,h2,zEe,kG,hR,t4,t5,hA,hM,qDx,zAx];refine⟨oM,qI.rd (fun j=>if j=9000 then 41024 else j) ?_ ?_ rfl⟩;all_goals simp(maxSteps:=9^9)(disch:=try exact dS)only[go_sem,id,zGx]
   all_goals first | omega | rfl
  ·have e:k=(n+31)/32:=oM;subst e;simp(maxSteps:=9^9)(disch:=try exact dS)only[go_sem,hR,drv,hr]
theorem vA {b:List UInt8}{a:Nat}{e:Int}:qOz (b,a,e) = .live 3 [.t (.agg [.sl (b.map qA),.int .i64 (a:Int),.int .i64 e])] true true:=rfl
theorem qKk {s t:Rd}(h:qOz s=qOz t):s=t:=by
 obtain⟨b,a,e⟩:=s;obtain⟨b',a',e'⟩:=t;simp only[vA,Ob.live.injEq,List.cons.injEq,V.t.injEq,T.agg.injEq,T.sl.injEq,T.int.injEq,yC,Int.natCast_inj] at h;simp only[Prod.mk.injEq];exact⟨h.2.1.1.1,h.2.1.1.2.1.2,h.2.1.1.2.2.1.2⟩
def beV (bs:List UInt8):Nat:=bs.foldl (fun n x=>256*n+x.toNat) 0
theorem zPx {bs:List UInt8}{k:Nat}(h:k<bs.length):beV (bs.take (k+1))=256*beV (bs.take k)+(bs.getD k 0).toNat:=by
 rw[qEj (d:=0) h];simp[beV]
theorem zUc {bs:List UInt8}:beV bs<256^bs.length:=by
 have : ∀ (bs:List UInt8) (n:Nat),bs.foldl (fun n x=>256*n+x.toNat) n<256^bs.length*(n+1):=by
  intro bs
  induction bs with
  | nil=>intro n;simp
  | cons x r ih=>
   intro n;simp only[List.foldl_cons,List.length_cons];have h1:=ih (256*n+x.toNat);have h2:=x.toNat_lt;have h3:256^r.length*(256*n+x.toNat+1)≤256^r.length*(256*(n+1)):=Nat.mul_le_mul_left _ oM;rw[Nat.pow_succ,Nat.mul_assoc];omega
 have:=this bs 0;simpa [beV] using this
theorem zWj {bs:List UInt8}(h:bs.length≤7):beV bs<72057594037927936:=by
 have h1:=zUc (bs:=bs);have h2:256^bs.length≤256^7:=Nat.pow_le_pow_right oM h;omega
theorem zWk {bs:List UInt8}(h:bs.length≤8):beV bs<18446744073709551616:=by
 have h1:=zUc (bs:=bs);have h2:256^bs.length≤256^8:=Nat.pow_le_pow_right oM h;omega
def qBt (s:Rd)(k:Nat):Int×Rd:=
 if s.2.2≠0 then (0,s) else if s.1.length<s.2.1+k then (0,(s.1,s.2.1,2))
 else if 9223372036854775808≤beV ((s.1.drop s.2.1).take k) then (0,(s.1,s.2.1,4)) else (beV ((s.1.drop s.2.1).take k),(s.1,s.2.1+k,0))
def qQd (s:Rd)(k:Nat):List UInt8×Rd:=
 if s.2.2≠0 then ([],s) else if s.1.length<s.2.1+k then ([],(s.1,s.2.1,2)) else ((s.1.drop s.2.1).take k,(s.1,s.2.1+k,0))
def qU7 (s:Rd):Int:=if s.2.2=0∧s.2.1<s.1.length then 3 else s.2.2
theorem qWe (b:List UInt8)(a:Nat)(e:Int)(k:Nat)(ha:a≤b.length∧b.length<1000000000)(hk:k≤1000000000) :
  yE.1.wp tab gl (qD 0 [.ref 0 0 0,.t (.int .i64 k)]) (qD 0 [qOz (b,a,e)]) (qY [(4,none)] 1 (fun r o=>r = .t (.bool (decide (e=0) && !decide (b.length<a+k)))∧o=[qOz (b,a,if e=0∧b.length<a+k then 2 else e)])):=by
 by_cases he:e=0
 ·subst he;by_cases hl:b.length<a+k
  ·simp(disch:=omega)only[go_sem,yE,vA,hl];repeat refine And.intro rfl ?_
   trivial
  ·simp(disch:=omega)only[go_sem,yE,vA,hl];repeat refine And.intro rfl ?_
   trivial
 ·simp(disch:=omega)only[go_sem,yE,vA,he];repeat refine And.intro rfl ?_
  trivial
def kB:Ct where
 α:=Rd×Nat
 aS x:=[.ref 0 0 0,.t (.int .i64 x.2)]
 ins x:=[qOz x.1]
 pre x:=qN2 x.1∧x.2≤1000000000
 r x:= .t (.bool (decide (x.1.2.2=0) && !decide (x.1.1.length<x.1.2.1+x.2)))
 outs x:=[qOz (x.1.1,x.1.2.1,if x.1.2.2=0∧x.1.1.length<x.1.2.1+x.2 then 2 else x.1.2.2)]
 inj:=by
  rintro⟨s,a⟩ ⟨t,c⟩ h1 h2;simp[Int.natCast_inj] at h1;simp only[List.cons.injEq,and_true] at h2;subst h1;cases qKk h2;exact⟨rfl,rfl⟩
theorem qX3 {b:List UInt8}{a k:Nat}(h:a≤b.length∧b.length<1000000000∧a+k≤b.length):kB.fs [.ref 0 0 0,.t (.int .i64 k)] [.live 3 [.t (.agg [.sl (b.map qA),.int .i64 (a:Int),.int .i64 0])] true true] =
  some (.t (.bool true),[.live 3 [.t (.agg [.sl (b.map qA),.int .i64 (a:Int),.int .i64 0])] true true]):=by
 refine (kB.eq ((b,a,0),k) ⟨⟨h.1,h.2.1⟩,?_⟩).trans ?_
 ·simp only;omega
 ·have : ¬ b.length<a+k:=oM;simp[kB,vA,this]
theorem qX2 {b:List UInt8}{a k:Nat}(h:a≤b.length∧b.length<1000000000∧k≤1000000000∧b.length<a+k):kB.fs [.ref 0 0 0,.t (.int .i64 k)] [.live 3 [.t (.agg [.sl (b.map qA),.int .i64 (a:Int),.int .i64 0])] true true] =
  some (.t (.bool false),[.live 3 [.t (.agg [.sl (b.map qA),.int .i64 (a:Int),.int .i64 2])] true true]):=by
 refine (kB.eq ((b,a,0),k) ⟨⟨h.1,h.2.1⟩,h.2.2.1⟩).trans ?_;have:=h.2.2.2;simp[kB,vA,this]
theorem qPt (h1:LkC tab 89 kB)(s:Rd)(hs:qN2 s)(k:Nat)(hk:1≤k∧k≤8) :
  yW.1.wp tab gl (qD 0 [.ref 0 0 0,.t (.int .i64 k)]) (qD 0 [qOz s]) (qY [(4,none)] 1 (fun r o=>r = .t (.int .i64 (qBt s k).1)∧o=[qOz (qBt s k).2])):=by
 obtain⟨b,a,e⟩:=s;have ha:a≤b.length∧b.length<1000000000:=hs;by_cases he:e=0
 ·subst he;by_cases hl:b.length<a+k
  ·simp(disch:=omega)only[go_sem,yW,vA,h1,qX2,qBt,ne_eq,hl];repeat refine And.intro rfl ?_
   all_goals trivial
  ·have hc:(List.take k (List.drop a b)).length=k:=by simp only[List.length_take,List.length_drop];omega
   simp(disch:=omega)only[go_sem,yW,vA,h1,qX3];repeat refine And.intro rfl ?_
   generalize hC:List.take k (List.drop a b)=c at hc;have hget : ∀ i,i<k→b.getD (a+i) 0=c.getD i 0:=by
    intro i hi;rw[←hC];simp[List.getD,List.getElem?_take,hi]
   refine qF k (fun i=>[(6,.t (.int .i64 i)),(5,.t (.int .u64 (beV (c.take i)))),(0,.ref 0 0 0),(1,.t (.int .i64 k))])
    (fun _=>[(0,.live 3 [.t (.agg [.sl (b.map qA),.int .i64 (a:Int),.int .i64 0])] true true)]) ?_ (fun i hi=>?_)
   ·refine qI.rd id ?_ ?_ rfl;all_goals simp(disch:=omega)only[go_sem,id,beV,List.foldl_nil]
   ·by_cases hlt:i<k
    ·have hb:beV (c.take i)<72057594037927936:=zWj (by rw[List.length_take];omega);have ht:=zPx (bs:=c) (k:=i) oM;simp(disch:=omega)only[go_sem,hc,hget i hlt];repeat refine And.intro rfl ?_
     refine⟨hlt,qI.rd id ?_ ?_ rfl⟩;all_goals simp(disch:=omega)only[go_sem,id,ht]
    ·have e:i=k:=oM;subst e;have ht:List.take i c=c:=List.take_of_length_le oM;have hb8:beV c<18446744073709551616:=zWk oM;by_cases hbig:9223372036854775808≤beV c
     ·simp(disch:=omega)only[go_sem,hc,ht,qBt,vA,hl,hbig,ne_eq,hC]
     ·simp(disch:=omega)only[go_sem,hc,ht,qBt,vA,hl,hbig,ne_eq,hC]
 ·simp(disch:=omega)only[go_sem,yW,vA,qBt,ne_eq,he];repeat refine And.intro rfl ?_
  all_goals trivial
theorem qQn (h1:LkC tab 89 kB)(s:Rd)(hs:qN2 s)(k:Nat)(hk:k≤1000000000) :
  vJ.1.wp tab gl (qD 0 [.ref 0 0 0,.t (.int .i64 k)]) (qD 0 [qOz s]) (qY [(4,none)] 1 (fun r o=>r = .t (.sl ((qQd s k).1.map qA))∧o=[qOz (qQd s k).2])):=by
 obtain⟨b,a,e⟩:=s;have ha:a≤b.length∧b.length<1000000000:=hs;by_cases he:e=0
 ·subst he;by_cases hl:b.length<a+k
  ·simp(disch:=omega)only[go_sem,vJ,vA,h1,qX2,qQd,ne_eq,hl];repeat refine And.intro rfl ?_
   all_goals trivial
  ·have hc:(List.take k (List.drop a b)).length=k:=by simp only[List.length_take,List.length_drop];omega
   have ht:List.take k (List.take k (List.drop a b))=List.take k (List.drop a b):=List.take_of_length_le oM;simp(disch:=omega)only[go_sem,vJ,vA,h1,qX3,qQd,ne_eq,hl,ht];repeat refine And.intro rfl ?_
   all_goals trivial
 ·simp(disch:=omega)only[go_sem,vJ,vA,qQd,ne_eq,he];repeat refine And.intro rfl ?_
  all_goals trivial
theorem qPs (s:Rd)(hs:qN2 s):xM.1.wp tab gl (qD 0 [.ref 0 0 0]) (qD 0 [qOz s]) (qY [(2,none)] 1 (fun r o=>r = .t (.int .i64 (s.1.length-s.2.1:Nat))∧o=[qOz s])):=by
 obtain⟨b,a,e⟩:=s;have ha:a≤b.length∧b.length<1000000000:=hs;simp(disch:=omega)only[go_sem,xM,vA];repeat refine And.intro rfl ?_
 all_goals trivial
def qXu:Ct where
 α:=Rd
 aS _:=[.ref 0 0 0]
 ins x:=[qOz x]
 pre x:=qN2 x
 r x:= .t (.int .i64 (x.1.length-x.2.1:Nat))
 outs x:=[qOz x]
 inj:=by
  intro s t _ h2;simp only[List.cons.injEq,and_true] at h2;cases qKk h2;exact⟨rfl,rfl⟩
theorem zMb {b:List UInt8}{a:Nat}{e:Int}(h:a≤b.length∧b.length<1000000000):qXu.fs [.ref 0 0 0] [.live 3 [.t (.agg [.sl (b.map qA),.int .i64 (a:Int),.int .i64 e])] true true] =
  some (.t (.int .i64 (b.length-a:Nat)),[.live 3 [.t (.agg [.sl (b.map qA),.int .i64 (a:Int),.int .i64 e])] true true]):=qXu.eq (b,a,e) h
theorem qQm (h1:LkC tab 91 qXu)(s:Rd)(hs:qN2 s):vI.1.wp tab gl (qD 0 [.ref 0 0 0]) (qD 0 [qOz s]) (qY [(2,none)] 1 (fun r o=>r = .t (.int .i64 (qU7 s))∧o=[qOz s])):=by
 obtain⟨b,a,e⟩:=s;have ha:a≤b.length∧b.length<1000000000:=hs;by_cases he:e=0
 ·subst he;by_cases hl:a<b.length
  ·simp(disch:=omega)only[go_sem,vI,vA,h1,zMb,qU7,hl];repeat refine And.intro rfl ?_
   all_goals trivial
  ·simp(disch:=omega)only[go_sem,vI,vA,h1,zMb,qU7,hl];repeat refine And.intro rfl ?_
   all_goals trivial
 ·simp(disch:=omega)only[go_sem,vI,vA,qU7,he];repeat refine And.intro rfl ?_
  all_goals trivial
def qF1 (n m:Int):Int:=if m<1 then 0 else n%m
theorem zJu (n m:Int)(hn : -9223372036854775808≤n∧n<9223372036854775808)(hm : -9223372036854775808≤m∧m<9223372036854775808):qCx.1.wp tab gl (qD 0 [.t (.int .i64 n),.t (.int .i64 m)]) (qD 0 []) (qY [(4,none)] 0 (fun r o=>r = .t (.int .i64 (qF1 n m))∧o=[])):=by
 by_cases h1:m<1
 ·simp(disch:=omega)only[go_sem,qCx,qF1,h1]
 ·have ht:n.tmod m=n%m∨n.tmod m=n%m-m:=by
   rcases Int.lt_or_le n 0 with h | h
   ·by_cases hz:n%m=0
    ·left;rw[Int.tmod_eq_emod];simp[hz,Int.dvd_of_emod_eq_zero hz]
    ·right;rw[Int.tmod_eq_emod];have : ¬ m ∣ n:=fun hd=>hz (Int.emod_eq_zero_of_dvd hd)
     rw[if_neg oM];omega
   ·left;exact Int.tmod_eq_emod_of_nonneg h
  have p1:=Int.emod_nonneg n (b:=m) oM;have p2:=Int.emod_lt_of_pos n (b:=m) oM;rcases ht with ht | ht
  ·simp(disch:=omega)only[go_sem,qCx,qF1,h1,ht]
  ·simp(disch:=omega)only[go_sem,qCx,qF1,h1,ht];omega
theorem zC2 (n:Int)(hn:n=20∨n=32):qCb.1.wp tab gl (qD 0 [.t (.int .u64 1),.t (.int .u64 n)]) (qD 0 []) (qY [(4,none),(5,none)] 0 (fun r o=>r = .tup [.t (.int .u64 0),.t (.int .u64 n)]∧o=[])):=by
 rcases hn with rfl | rfl
 ·simp(disch:=omega)only[go_sem,qCb,BitVec.reduceOfInt,BitVec.reduceAnd,BitVec.reduceToNat,Int.reduceFDiv]
 ·simp(disch:=omega)only[go_sem,qCb,BitVec.reduceOfInt,BitVec.reduceAnd,BitVec.reduceToNat,Int.reduceFDiv]
def qKe:Ct where
 α:=Int
 aS x:=[.t (.int .u64 1),.t (.int .u64 x)]
 ins _:=[]
 pre x:=x=20∨x=32
 r x:= .tup [.t (.int .u64 0),.t (.int .u64 x)]
 outs _:=[]
 inj:=by
  intro a b h _;simp at h;subst h;exact⟨rfl,rfl⟩
theorem zG6 {n:Int}(h:n=20∨n=32):qKe.fs [.t (.int .u64 1),.t (.int .u64 n)] []=some (.tup [.t (.int .u64 0),.t (.int .u64 n)],[]):=qKe.eq n h
theorem zJs (h2:LkC tab 177 qKe)(n:Int)(hn:n=20∨n=32):qK7.1.wp tab gl (qD 0 [.t (.int .u64 1),.t (.int .u64 n)]) (qD 0 []) (qY [(4,none),(5,none)] 0 (fun r o=>r = .tup [.t (.int .u64 0),.t (.int .u64 n)]∧o=[])):=by
 simp(disch:=omega)only[go_sem,qK7,h2,zG6]
def zAk:Ct where
 α:=Int
 aS x:=[.t (.int .i64 x)]
 ins _:=[]
 pre x:=x=20∨x=32
 r x:= .sl 0 0 x.toNat
 outs _:=[.live 1 [] true false]
 inj:=by
  intro a b h _;simp at h;subst h;exact⟨rfl,rfl⟩
theorem jD5 {n:Int}(h:n=20∨n=32):zAk.fs [.t (.int .i64 n)] []=some (.sl 0 0 n.toNat,[.live 1 [] true false]):=zAk.eq n h
theorem zBs {α:Type}{l xs:List α}:zT l l.length xs=l++xs:=by simp[zT]
theorem qWb (h1:LkC tab 126 qKe)(h2:LkC tab 127 zAk)(x:UInt8)(n:Nat)(hn:n=20∨n=32) :
  qCw.1.wp tab gl (qD 0 [.t (.sl ([x].map qA)),.t (.int .i64 n)]) (qD 0 []) (xU [] [(4,none)] 0 (fun r o=>r = .sl 0 0 n∧o=[.live 1 (((List.replicate n x).map qA).map V.t) true false])):=by
 have hn2:(n:Int)=20∨(n:Int)=32:=oM;have ht1 : ∀ v:V,List.take n [v]=[v]:=fun v=>List.take_of_length_le (by simp only[List.length_cons,List.length_nil];omega)
 simp(disch:=omega)only[go_sem,qCw,h1,h2,zG6,jD5,ht1];refine qJ2 (ι := { p:Nat // 1≤p∧p≤n }) (fun p=>([(7,.t (.int .i64 n)),(8,.t (.int .i64 n)),(9,.sl 69648 0 n),(10,.t (.int .i64 p.1))],[(69648,.live 1 (((List.replicate p.1 x).map qA).map V.t) true false)])) (fun p=>n-p.1) ⟨1,oM⟩ ?_ (fun p=>?_)
 ·refine qI.rd id ?_ ?_ rfl;all_goals simp(disch:=omega)only[go_sem,id,mcn]
 ·obtain⟨p,hp1,hp2⟩:=p;by_cases hlt:p<n
  ·have hse : ∀ xs,zT (List.map V.t (List.map qA (List.replicate p x))) p xs=List.map V.t (List.map qA (List.replicate p x))++xs:=by
    intro xs;have:=zBs (l:=List.map V.t (List.map qA (List.replicate p x))) (xs:=xs);simpa using this
   have hm:(if (n:Int)<(p:Int) then (n:Int) else (p:Int))=p:=if_neg oM;by_cases hd:p≤n-p
   ·simp(disch:=omega)only[go_sem,hse,List.take_replicate,hm];refine⟨rfl,⟨p+p,oM⟩,by simp only;omega,qI.rd id ?_ ?_ rfl⟩;all_goals simp(disch:=omega)only[go_sem,id,List.replicate_append_replicate]
   ·simp(disch:=omega)only[go_sem,hse,List.take_replicate,hm];refine⟨rfl,⟨p+(n-p),oM⟩,by simp only;omega,qI.rd id ?_ ?_ rfl⟩;all_goals simp(disch:=omega)only[go_sem,id,List.replicate_append_replicate]
  ·have e:p=n:=oM;subst e;simp(disch:=omega)only[go_sem]
def qOj:Ct where
 α:=UInt8×Nat
 aS x:=[.t (.sl ([x.1].map qA)),.t (.int .i64 x.2)]
 ins _:=[]
 pre x:=x.2=20∨x.2=32
 r x:= .sl 0 0 x.2
 outs x:=[.live 1 (((List.replicate x.2 x.1).map qA).map V.t) true false]
 inj:=by
  rintro⟨a,b⟩ ⟨c,d⟩ h _;simp[qOf,Int.natCast_inj] at h;obtain⟨rfl,rfl⟩:=h;exact⟨rfl,rfl⟩
theorem zNf {x:UInt8}{n:Nat}(h:n=20∨n=32):qOj.fs [.t (.sl [qA x]),.t (.int .i64 n)] []=some (.sl 0 0 n,[.live 1 (((List.replicate n x).map qA).map V.t) true false]):=qOj.eq (x,n) h
theorem qRw (h1:LkC tab 96 qOj)(x:UInt8)(n:Nat)(hn:n=20∨n=32):qA9.1.wp tab gl (qD 0 [.t (.int .i64 n),.t (qA x)]) (qD 0 []) (xU [] [(4,none)] 0 (fun r o=>r = .sl 0 0 n∧o=[.live 1 (((List.replicate n x).map qA).map V.t) true false])):=by
 simp(disch:=omega)only[go_sem,qA9,h1,zNf]
theorem zS7 {α:Type}{x d:α}{n k:Nat}(h:k<n):(List.replicate k x++List.replicate (n-k) d).set k x=List.replicate (k+1) x++List.replicate (n-(k+1)) d:=by
 rw[show n-k=(n-(k+1))+1 by omega,List.replicate_succ,List.set_append_right _ _ sM];simp[List.replicate_succ']
theorem zF9 (x:UInt8)(n:Nat)(hn:n<1000000000):qEb.1.wp tab gl (qD 0 [.t (.int .i64 n),.t (qA x)]) (qD 0 []) (xU [] [(4,none)] 0 (fun r o=>r = .sl 0 0 n∧o=[.live 1 (((List.replicate n x).map qA).map V.t) true false])):=by
 simp(disch:=omega)only[go_sem,qEb];refine qF n (fun k=>[(0,.t (.int .i64 n)),(1,.t (qA x)),(5,.sl 8208 0 n),(6,.t (.int .i64 k))]) (fun k=>[(8208,.live 1 (((List.replicate k x++List.replicate (n-k) 0).map qA).map V.t) true false)]) ?_ (fun k hk=>?_)
 ·refine qI.rd id ?_ ?_ rfl;all_goals simp(disch:=omega)only[go_sem,id]
 ·by_cases hlt:k<n
  ·simp(maxSteps:=9^9)(disch:=try exact dS)only[go_sem];refine⟨hlt,qI.rd id ?_ ?_ rfl⟩;all_goals simp(disch:=omega)only[go_sem,id,zS7 hlt]
  ·have e:k=n:=oM;subst e;simp(disch:=omega)only[go_sem,Nat.sub_self,List.append_nil]
abbrev zE:=List (List UInt8)
def vM (b:zE):T:= .sl (b.map bsT)
def yL (bk:List zE)(u:Int):T:= .agg [.sl (bk.map vM),.int .i64 u]
theorem zKg {b:zE}:vM b = .sl (b.map bsT):=Eq.trans (Eq.refl _) rfl
theorem zR6 {bk:List zE}{u:Int}:yL bk u = .agg [.sl (bk.map vM),.int .i64 u]:=Eq.trans (Eq.refl _) rfl
attribute [go_sem] zKg zR6
def qUx (b:zE):Prop:=b.length=0∨b.length=16
inductive RK:List zE→Prop
 | nil:RK []
 | two (b0 b1:zE) (h0:qUx b0) (h1:qUx b1):RK [b0,b1]
theorem zAe {a b:zE}(h:vM a=vM b):a=b:=by
 simpa [vM,qFt] using h
theorem qCt {a b:List zE}{u v:Int}(h:yL a u=yL b v):a=b∧u=v:=by
 simp only[yL,T.agg.injEq,List.cons.injEq,T.sl.injEq,T.int.injEq,true_and,and_true] at h;exact⟨qCq (fun _ _=>zAe) h.1,h.2⟩
def onB (bk:List zE)(a:Nat):Bool:=decide ((bk.getD a []).length=16)
def yK (i:Int)(reset:Bool):Int:=if reset=true∧i<12 then 5 else if i=14 then (if reset then 3 else 2) else if i=15 then (if reset then 4 else 3) else 0
theorem zDc (i:Int)(rs:Bool):qGt.1.wp tab gl (qD 0 [.t (.int .i64 i),.t (.bool rs)]) (qD 0 []) (qY [(4,none)] 0 (fun r o=>r = .t (.int .i64 (if yK i rs=5 then -1 else yK i rs))∧o=[])):=by
 cases rs<;>by_cases h12:i<12<;>by_cases h14:i=14<;>by_cases h15:i=15;all_goals try omega
 all_goals simp(disch:=omega)only[go_sem,qGt,yK,h12,h14,h15]
def zPe (bk:List zE)(a:Nat):Bool:=decide (a<bk.length)&&decide (0<(bk.getD a []).length)
theorem qZx (bk:List zE)(u:Int)(a:Nat)(ha:a<1000000000)(hb:bk.length<1000000000)(hm : ∀ b∈bk,b.length<1000000000):wL.1.wp tab gl (qD 0 [.t (yL bk u),.t (.int .i64 a)]) (qD 0 []) (qY [(4,none)] 0 (fun r o=>r = .t (.bool (zPe bk a))∧o=[])):=by
 by_cases h:a<bk.length
 ·have hg:bk[a]?=some (bk.getD a []):=by simp[List.getD,h]
  have hl:(bk.getD a []).length<1000000000:=by
   have:bk.getD a []=bk[a]:=by simp[List.getD,h]
   rw[this];exact hm _ (List.getElem_mem h)
  by_cases h0:0<(bk.getD a []).length
  ·simp(disch:=omega)only[go_sem,wL,zPe,h,hg,h0]
  ·simp(disch:=omega)only[go_sem,wL,zPe,h,hg,h0]
 ·simp(disch:=omega)only[go_sem,wL,zPe,h]
theorem qQp (u:Int):yQ.1.wp tab gl (qD 0 [.t (yL [] u)]) (qD 0 []) (xU [] [(2,some (2,true))] 0 (fun r o=>r = .agg [.nil,.t (.int .i64 u)]∧o=[])):=by
 simp(disch:=omega)only[go_sem,yQ,List.map_nil,Int.natCast_zero];refine qT 1 ?_;simp(disch:=omega)only[go_sem,qJ]
theorem qQq (b0 b1:zE)(u:Int)(m0:zDo b0)(m1:zDo b1):yQ.1.wp tab gl (qD 0 [.t (yL [b0,b1] u)]) (qD 0 []) (xU [] [(2,some (2,true))] 0 (fun r o=>r = .agg [.sl 0 0 2,.t (.int .i64 u)]∧o=[.live 1 [.sl 1 0 b0.length,.sl 2 0 b1.length] true false,.live 1 ((b0.map bsT).map V.t) true false,.live 1 ((b1.map bsT).map V.t) true false])):=by
 simp(disch:=omega)only[go_sem,yQ,mcn];have hl0:=m0.1;have hl1:=m1.1;refine qF 2 (fun k=>match k with | 0=>[(2,.ref 4112 0 0),(3,.ref 8240 0 0),(15,.t (.int .i64 0)),(13,.t (T.sl [T.sl (List.map bsT b0),T.sl (List.map bsT b1)])),(14,.t (.int .i64 2))] | 1=>[(2,.ref 4112 0 0),(3,.ref 8240 0 0),(15,.t (.int .i64 1)),(13,.t (T.sl [T.sl (List.map bsT b0),T.sl (List.map bsT b1)])),(14,.t (.int .i64 2))] | _=>[(2,.ref 4112 0 0),(3,.ref 8240 0 0),(15,.t (.int .i64 2)),(13,.t (T.sl [T.sl (List.map bsT b0),T.sl (List.map bsT b1)])),(14,.t (.int .i64 2))]) (fun k=>match k with | 0=>[(8240,.live 2 [.agg [.nil,.t (.int .i64 u)]] true true),(4112,.live 2 [.agg [.nil,.t (.int .i64 0)]] true true)] | 1=>[(8240,.live 2 [.agg [.sl 9000 0 1,.t (.int .i64 u)]] true true),(9000,.live 1 [.sl 9001 0 b0.length] true false),(9001,.live 1 ((b0.map bsT).map V.t) true false),(4112,.live 2 [.agg [.nil,.t (.int .i64 0)]] true true)] | _=>[(8240,.live 2 [.agg [.sl 9000 0 2,.t (.int .i64 u)]] true true),(9000,.live 1 [.sl 9001 0 b0.length,.sl 9002 0 b1.length] true false),(9001,.live 1 ((b0.map bsT).map V.t) true false),(9002,.live 1 ((b1.map bsT).map V.t) true false),(4112,.live 2 [.agg [.nil,.t (.int .i64 0)]] true true)]) ?_ (fun k hk=>?_)
 ·refine qI.rd id ?_ ?_ rfl;all_goals simp(disch:=omega)only[go_sem,id]
 ·rcases (show k=0∨k=1∨k=2 by omega) with rfl | rfl | rfl
  ·simp(disch:=omega)only[go_sem];refine qF b0.length (fun i=>[(2,.ref 4112 0 0),(3,.ref 8240 0 0),(15,.t (.int .i64 0)),(13,.t (T.sl [T.sl (List.map bsT b0),T.sl (List.map bsT b1)])),(14,.t (.int .i64 2)),(6,.sl 9100 0 i),(21,.t (.int .i64 (i:Nat))),(19,.t (.sl (b0.map bsT))),(20,.t (.int .i64 b0.length))]) (fun i=>[(9100,.live 1 (((b0.take i).map bsT).map V.t) true false),(8240,.live 2 [.agg [.nil,.t (.int .i64 u)]] true true),(4112,.live 2 [.agg [.nil,.t (.int .i64 0)]] true true)]) ?_ (fun i hi=>?_)
   ·refine qI.cv0 (hv:=[(9100,.live 1 [] true false)]) (ho:=[(8240,.live 2 [.agg [.nil,.t (.int .i64 u)]] true true),(4112,.live 2 [.agg [.nil,.t (.int .i64 0)]] true true)]) id ?_ ?_ rfl rfl;all_goals simp(disch:=omega)only[go_sem,id,mcn]
   ·have hm:=qHl m0 i;by_cases hlt:i<b0.length
    ·simp(disch:=omega)only[go_sem];refine⟨hlt,qI.cv (hv:=[]) [40992] (fun j=>if j=9100 then 41024 else j) ?_ rfl⟩;simp(disch:=omega)only[go_sem,qEj (d:=[]) hlt];rfl
    ·have e:i=b0.length:=oM;subst e;simp(disch:=omega)only[go_sem];refine qI.rd (fun j=>if j=9000 then 49216 else if j=9001 then 9100 else j) ?_ ?_ rfl;all_goals simp(disch:=omega)only[go_sem]
  ·simp(disch:=omega)only[go_sem];refine qF b1.length (fun i=>[(2,.ref 4112 0 0),(3,.ref 8240 0 0),(15,.t (.int .i64 1)),(13,.t (T.sl [T.sl (List.map bsT b0),T.sl (List.map bsT b1)])),(14,.t (.int .i64 2)),(6,.sl 9100 0 i),(21,.t (.int .i64 (i:Nat))),(19,.t (.sl (b1.map bsT))),(20,.t (.int .i64 b1.length))]) (fun i=>[(9100,.live 1 (((b1.take i).map bsT).map V.t) true false),(8240,.live 2 [.agg [.sl 9000 0 1,.t (.int .i64 u)]] true true),(9000,.live 1 [.sl 9001 0 b0.length] true false),(9001,.live 1 ((b0.map bsT).map V.t) true false),(4112,.live 2 [.agg [.nil,.t (.int .i64 0)]] true true)]) ?_ (fun i hi=>?_)
   ·refine qI.cv0 (hv:=[(9100,.live 1 [] true false)]) (ho:=[(8240,.live 2 [.agg [.sl 9000 0 1,.t (.int .i64 u)]] true true),(9000,.live 1 [.sl 9001 0 b0.length] true false),(9001,.live 1 ((b0.map bsT).map V.t) true false),(4112,.live 2 [.agg [.nil,.t (.int .i64 0)]] true true)]) id ?_ ?_ rfl rfl;all_goals simp(disch:=omega)only[go_sem,id,mcn]
   ·have hm:=qHl m1 i;by_cases hlt:i<b1.length
    ·simp(disch:=omega)only[go_sem];refine⟨hlt,qI.cv (hv:=[]) [40992] (fun j=>if j=9100 then 41024 else j) ?_ rfl⟩;simp(disch:=omega)only[go_sem,qEj (d:=[]) hlt];rfl
    ·have e:i=b1.length:=oM;subst e;simp(disch:=omega)only[go_sem];refine qI.rd (fun j=>if j=9000 then 49216 else if j=9002 then 9100 else j) ?_ ?_ rfl;all_goals simp(disch:=omega)only[go_sem]
  ·simp(disch:=omega)only[go_sem]
theorem zC9 (u:Int):qAb.1.wp tab gl (qD 0 [.t (yL [] u)]) (qD 0 []) (xU [] [(2,some (2,true))] 0 (fun r o=>r = .agg [.nil,.t (.int .i64 u)]∧o=[])):=by
 simp(disch:=omega)only[go_sem,qAb,List.map_nil];refine qT 1 ?_;simp(disch:=omega)only[go_sem,qJ]
def kR:Ct where
 α:=List UInt8
 aS x:=[.t (.sl (x.map qA))]
 ins _:=[]
 pre x:=x.length<1000000000
 r x:= .sl 0 0 x.length
 outs x:=[.live 1 ((x.map qA).map V.t) true false]
 inj:=by
  intro a b h _;simp[yC] at h;subst h;exact⟨rfl,rfl⟩
theorem zR {bs:List UInt8}(h:bs.length<1000000000):kR.fs [.t (.sl (bs.map qA))] []=some (.sl 0 0 bs.length,[.live 1 ((bs.map qA).map V.t) true false]):=kR.eq bs h
theorem zDa (h1:LkC tab 99 kR)(b0 b1:zE)(u:Int)(m0:zDo b0)(m1:zDo b1):qAb.1.wp tab gl (qD 0 [.t (yL [b0,b1] u)]) (qD 0 []) (xU [] [(2,some (2,true))] 0 (fun r o=>r = .agg [.sl 0 0 2,.t (.int .i64 u)]∧o=[.live 1 [.sl 1 0 b0.length,.sl 2 0 b1.length] true false,.live 1 ((b0.map bsT).map V.t) true false,.live 1 ((b1.map bsT).map V.t) true false])):=by
 simp(disch:=omega)only[go_sem,qAb,mcn];have hl0:=m0.1;have hl1:=m1.1;refine qF 2 (fun k=>match k with | 0=>[(2,.ref 4112 0 0),(3,.ref 8240 0 0),(4,.t (.int .i64 0)),(1,.ref 4096 0 0)] | 1=>[(2,.ref 4112 0 0),(3,.ref 8240 0 0),(4,.t (.int .i64 1)),(1,.ref 4096 0 0)] | _=>[(2,.ref 4112 0 0),(3,.ref 8240 0 0),(4,.t (.int .i64 2)),(1,.ref 4096 0 0)]) (fun k=>match k with | 0=>[(8240,.live 2 [.agg [.nil,.t (.int .i64 u)]] true true),(4112,.live 2 [.agg [.nil,.t (.int .i64 0)]] true true),(4096,.live 2 [.t (.agg [T.sl [T.sl (List.map bsT b0),T.sl (List.map bsT b1)],.int .i64 u])] true true)] | 1=>[(8240,.live 2 [.agg [.sl 9000 0 1,.t (.int .i64 u)]] true true),(9000,.live 1 [.sl 9001 0 b0.length] true false),(9001,.live 1 ((b0.map bsT).map V.t) true false),(4112,.live 2 [.agg [.nil,.t (.int .i64 0)]] true true),(4096,.live 2 [.t (.agg [T.sl [T.sl (List.map bsT b0),T.sl (List.map bsT b1)],.int .i64 u])] true true)] | _=>[(8240,.live 2 [.agg [.sl 9000 0 2,.t (.int .i64 u)]] true true),(9000,.live 1 [.sl 9001 0 b0.length,.sl 9002 0 b1.length] true false),(9001,.live 1 ((b0.map bsT).map V.t) true false),(9002,.live 1 ((b1.map bsT).map V.t) true false),(4112,.live 2 [.agg [.nil,.t (.int .i64 0)]] true true),(4096,.live 2 [.t (.agg [T.sl [T.sl (List.map bsT b0),T.sl (List.map bsT b1)],.int .i64 u])] true true)]) ?_ (fun k hk=>?_)
 ·refine qI.rd id ?_ ?_ rfl;all_goals simp(disch:=omega)only[go_sem,id]
 ·rcases (show k=0∨k=1∨k=2 by omega) with rfl | rfl | rfl
  ·simp(disch:=omega)only[go_sem,h1,zR];refine qF b0.length (fun i=>[(2,.ref 4112 0 0),(3,.ref 8240 0 0),(4,.t (.int .i64 0)),(1,.ref 4096 0 0),(5,.sl 9100 0 i),(6,.t (.int .i64 (i:Nat)))]) (fun i=>[(9100,.live 1 (((b0.take i).map bsT).map V.t) true false),(8240,.live 2 [.agg [.nil,.t (.int .i64 u)]] true true),(4112,.live 2 [.agg [.nil,.t (.int .i64 0)]] true true),(4096,.live 2 [.t (.agg [T.sl [T.sl (List.map bsT b0),T.sl (List.map bsT b1)],.int .i64 u])] true true)]) ?_ (fun i hi=>?_)
   ·refine qI.cv0 (hv:=[(9100,.live 1 [] true false)]) (ho:=[(8240,.live 2 [.agg [.nil,.t (.int .i64 u)]] true true),(4112,.live 2 [.agg [.nil,.t (.int .i64 0)]] true true),(4096,.live 2 [.t (.agg [T.sl [T.sl (List.map bsT b0),T.sl (List.map bsT b1)],.int .i64 u])] true true)]) id ?_ ?_ rfl rfl;all_goals simp(disch:=omega)only[go_sem,id,mcn]
   ·have hm:=qHl m0 i;by_cases hlt:i<b0.length
    ·simp(disch:=omega)only[go_sem,h1,zR];refine⟨hlt,qI.cv (hv:=[]) [41104] (fun j=>if j=9100 then 41136 else j) ?_ rfl⟩;simp(disch:=omega)only[go_sem,qEj (d:=[]) hlt];rfl
    ·have e:i=b0.length:=oM;subst e;simp(disch:=omega)only[go_sem,h1,zR];refine qI.rd (fun j=>if j=9000 then 45120 else if j=9001 then 9100 else j) ?_ ?_ rfl;all_goals simp(disch:=omega)only[go_sem]
  ·simp(disch:=omega)only[go_sem,h1,zR];refine qF b1.length (fun i=>[(2,.ref 4112 0 0),(3,.ref 8240 0 0),(4,.t (.int .i64 1)),(1,.ref 4096 0 0),(5,.sl 9100 0 i),(6,.t (.int .i64 (i:Nat)))]) (fun i=>[(9100,.live 1 (((b1.take i).map bsT).map V.t) true false),(8240,.live 2 [.agg [.sl 9000 0 1,.t (.int .i64 u)]] true true),(9000,.live 1 [.sl 9001 0 b0.length] true false),(9001,.live 1 ((b0.map bsT).map V.t) true false),(4112,.live 2 [.agg [.nil,.t (.int .i64 0)]] true true),(4096,.live 2 [.t (.agg [T.sl [T.sl (List.map bsT b0),T.sl (List.map bsT b1)],.int .i64 u])] true true)]) ?_ (fun i hi=>?_)
   ·refine qI.cv0 (hv:=[(9100,.live 1 [] true false)]) (ho:=[(8240,.live 2 [.agg [.sl 9000 0 1,.t (.int .i64 u)]] true true),(9000,.live 1 [.sl 9001 0 b0.length] true false),(9001,.live 1 ((b0.map bsT).map V.t) true false),(4112,.live 2 [.agg [.nil,.t (.int .i64 0)]] true true),(4096,.live 2 [.t (.agg [T.sl [T.sl (List.map bsT b0),T.sl (List.map bsT b1)],.int .i64 u])] true true)]) id ?_ ?_ rfl rfl;all_goals simp(disch:=omega)only[go_sem,id,mcn]
   ·have hm:=qHl m1 i;by_cases hlt:i<b1.length
    ·simp(disch:=omega)only[go_sem,h1,zR];refine⟨hlt,qI.cv (hv:=[]) [41104] (fun j=>if j=9100 then 41136 else j) ?_ rfl⟩;simp(disch:=omega)only[go_sem,qEj (d:=[]) hlt];rfl
    ·have e:i=b1.length:=oM;subst e;simp(disch:=omega)only[go_sem,h1,zR];refine qI.rd (fun j=>if j=9000 then 45120 else if j=9002 then 9100 else j) ?_ ?_ rfl;all_goals simp(disch:=omega)only[go_sem]
  ·simp(disch:=omega)only[go_sem,h1,zR]
def twR (bk:List zE)(u:Int):V:=match bk with
 | [_,_]=> .agg [.sl 0 0 2,.t (.int .i64 u)]
 | _=> .agg [.nil,.t (.int .i64 u)]
def twO (bk:List zE):List Ob:=match bk with
 | [b0,b1]=>[.live 1 [.sl 1 0 b0.length,.sl 2 0 b1.length] true false,.live 1 ((b0.map bsT).map V.t) true false,.live 1 ((b1.map bsT).map V.t) true false]
 | _=>[]
def RM (bk:List zE):Prop:=RK bk ∧ ∀ b∈bk,zDo b
def jI:Ct where
 α:=List zE×Int
 aS x:=[.t (yL x.1 x.2)]
 ins _:=[]
 pre x:=RM x.1
 r x:=twR x.1 x.2
 outs x:=twO x.1
 inj:=by
  rintro⟨a,u⟩ ⟨b,v⟩ h _;simp only[List.cons.injEq,V.t.injEq,and_true] at h;obtain⟨rfl,rfl⟩:=qCt h;exact⟨rfl,rfl⟩
theorem qSk {u:Int}:jI.fs [.t (.agg [.sl [],.int .i64 u])] []=some (.agg [.nil,.t (.int .i64 u)],[]):=jI.eq ([],u) ⟨.nil,sM⟩
theorem jE {b0 b1:zE}{u:Int}(h:RM [b0,b1]):jI.fs [.t (.agg [.sl [.sl (b0.map bsT),.sl (b1.map bsT)],.int .i64 u])] [] =
  some (.agg [.sl 0 0 2,.t (.int .i64 u)],[.live 1 [.sl 1 0 b0.length,.sl 2 0 b1.length] true false,.live 1 ((b0.map bsT).map V.t) true false,.live 1 ((b1.map bsT).map V.t) true false]):=jI.eq ([b0,b1],u) h
end Go.Eng
end
