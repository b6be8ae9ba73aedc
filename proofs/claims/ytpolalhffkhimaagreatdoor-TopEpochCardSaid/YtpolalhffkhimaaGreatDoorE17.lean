/- A part of an abstract machine, its walks, their tie. -/
import Derived.Test.YtpolalhffkhimaaGreatDoorE16
import Derived.Test.YtpolalhffkhimaaGreatDoorE9
set_option linter.all false
section
set_option maxHeartbeats 64000000
set_option maxRecDepth 20000
namespace Go.Eng
variable (tab:Tab) (gl:Gl)
def zBn (n:Nat):Nat:=(119-n%64)%64
def beL (n k:Nat):List UInt8:=(List.range k).map fun i=>UInt8.ofNat (n/2^(56-8*i))
def qAt (bs:List UInt8):List UInt8:=bs++[128]++List.replicate (zBn bs.length) 0++beL (bs.length*8) 8
theorem zFw {n:Nat}:beL n 0=[]:=rfl
theorem qFt {n k:Nat}:(beL n k).length=k:=by simp[beL]
theorem zFv {n k:Nat}:beL n (k+1)=beL n k++[UInt8.ofNat (n/2^(56-8*k))]:=by simp[beL,List.range_succ]
theorem zCj (bs:List UInt8)(hb:bs.length<1000000000):qGa.1.wp tab gl (qE 0 [.t (.sl (bs.map qA))]) (qE 0 []) (kN [] [(2,none)] 0 (fun r o=>r = .sl 0 0 (qAt bs).length∧o=[.live 1 (((qAt bs).map qA).map V.t) true false])):=by
 have hz:zBn bs.length=(119-bs.length%64)%64:=rfl;simp(disch:=omega)only[go_sem,qGa];refine qB (zBn bs.length) (fun k=>[(0,.t (.sl (bs.map qA))),(3,.sl 8304 0 (bs.length+1+k))]) (fun k=>[(8304,.live 1 (((bs++[128]++List.replicate k 0).map qA).map V.t) true false)]) ?_ (fun k hk=>?_)
 ·refine qK.rd id ?_ ?_ rfl;all_goals simp(disch:=omega)only[go_sem,id]
 ·by_cases hlt:k<zBn bs.length
  ·simp(disch:=omega)only[go_sem];refine⟨hlt,qK.rd (fun _=>16416) ?_ ?_ rfl⟩;all_goals simp(disch:=omega)only[go_sem,List.replicate_succ',List.append_assoc,Nat.add_assoc]
  ·have e:k=zBn bs.length:=oM;subst e;simp(disch:=omega)only[go_sem];refine qB 8 (fun k=>[(3,.sl 8304 0 (bs.length+1+zBn bs.length+k)),(4,V.t (T.int IntKind.u64 (bs.length*8:Nat))),(5,.t (.int .i64 (56-((8*k:Nat):Int))))]) (fun k=>[(8304,.live 1 (((bs++[128]++List.replicate (zBn bs.length) 0++beL (bs.length*8) k).map qA).map V.t) true false)]) ?_ (fun k hk=>?_)
   ·refine qK.rd id ?_ ?_ rfl;all_goals simp(disch:=omega)only[go_sem,id,zFw,List.append_nil]
   ·by_cases hlt:k<8
    ·simp(disch:=omega)only[go_sem,qFt];refine⟨hlt,qK.rd (fun _=>36976) ?_ ?_ rfl⟩;all_goals simp(disch:=omega)only[go_sem,zFv,List.append_assoc,Nat.add_assoc]
     omega
    ·have e:k=8:=oM;subst e;simp(disch:=omega)only[go_sem,qFt,qAt]
theorem qZw (a:Int):kR.1.wp tab gl (qE 0 [.t (.int .i64 a)]) (qE 0 []) (zA [(2,none)] 0 (fun r o=>r = .t (.int .i64 (if a=0 then 20 else if a=1 then 32 else 0))∧o=[])):=by
 by_cases h0:a=0
 ·subst h0;simp(disch:=omega)only[go_sem,kR]
 ·by_cases h1:a=1
  ·subst h1;simp(disch:=omega)only[go_sem,kR]
  ·simp(disch:=omega)only[go_sem,kR,h0,h1]
theorem zE6 (a:Int):qBn.1.wp tab gl (qE 0 [.t (.int .i64 a)]) (qE 0 []) (zA [(2,none)] 0 (fun r o=>r = .t (.int .i64 (if a=0 then 20 else if a=1 then 32 else 0))∧o=[])):=by
 by_cases h0:a=0
 ·subst h0;simp(disch:=omega)only[go_sem,qBn]
 ·by_cases h1:a=1
  ·subst h1;simp(disch:=omega)only[go_sem,qBn]
  ·simp(disch:=omega)only[go_sem,qBn,h0,h1]
def qXi (bs:List UInt8)(i:Nat):UInt32:=(bs.getD (4*i) 0).toUInt32 <<< 24 ||| (bs.getD (4*i+1) 0).toUInt32 <<< 16 ||| (bs.getD (4*i+2) 0).toUInt32 <<< 8 ||| (bs.getD (4*i+3) 0).toUInt32
theorem qZx (bs:List UInt8)(i:Nat)(hi:4*i+3<bs.length)(hb:bs.length<1000000000):qEq.1.wp tab gl (qE 0 [.t (.sl (bs.map qA)),.t (.int .i64 i)]) (qE 0 []) (zA [(4,none)] 0 (fun r o=>r = .t (jB (qXi bs i))∧o=[])):=by
 simp(disch:=omega)only[go_sem,qEq];exact⟨rfl,rfl⟩
theorem zE8 (bs:List UInt8)(i:Nat)(hi:4*i+3<bs.length)(hb:bs.length<1000000000):qH2.1.wp tab gl (qE 0 [.t (.sl (bs.map qA)),.t (.int .i64 i)]) (qE 0 []) (zA [(4,none)] 0 (fun r o=>r = .t (jB (qXi bs i))∧o=[])):=by
 simp(disch:=omega)only[go_sem,qH2];exact⟨rfl,rfl⟩
def qXd (x:UInt32)(n:Nat):UInt32:=x >>> UInt32.ofNat n ||| x <<< UInt32.ofNat (32-n)
theorem zE7 (x:UInt32)(n:Nat)(h:0<n∧n<32):qH1.1.wp tab gl (qE 0 [.t (jB x),.t (.int .u64 n)]) (qE 0 []) (zA [(4,none)] 0 (fun r o=>r = .t (jB (qXd x n))∧o=[])):=by
 simp(disch:=omega)only[go_sem,qH1];rfl
theorem qM9 (x:UInt32)(n:Int)(h : -32<n∧n<32∧n≠0):kO.1.wp tab gl (qE 0 [.t (jB x),.t (.int .i64 n)]) (qE 0 []) (zA [(4,none)] 0 (fun r o=>r = .t (jB (qXd x ((32-n)%32).toNat))∧o=[])):=by
 have e:IntKind.u64.wrap n%32=((32-(32-n).toNat%32:Nat):Int):=by rw[qSt];omega
 have e2:((32-n)%32).toNat=(32-n).toNat%32:=oM;have e3:32-(32-(32-n).toNat%32)=(32-n).toNat%32:=oM;simp(disch:=omega)only[go_sem,kO,e,e2,e3];rw[qXd,UInt32.or_comm]
def qUp (w:UInt32):List UInt8:=[(w >>> 24).toUInt8,(w >>> 16).toUInt8,(w >>> 8).toUInt8,w.toUInt8]
def xP (ws:List UInt32):List UInt8:=ws.flatMap qUp
theorem qFl (ws:List UInt32):(xP ws).length=4*ws.length:=by
 induction ws with
 | nil=>rfl
 | cons w r ih=>simp only[xP,List.flatMap_cons,List.length_append] at *;rw[ih];simp[qUp];omega
theorem qRb {ws:List UInt32}{k:Nat}(h:k<ws.length):xP (ws.take (k+1))=xP (ws.take k)++qUp (ws.getD k 0):=by
 rw[qF5 (d:=0) h];simp[xP]
theorem qVf (ws:List UInt32)(hb:ws.length<1000000000):qB7.1.wp tab gl (qE 0 [.t (.sl (ws.map jB))]) (qE 0 []) (kN [] [(2,none)] 0 (fun r o=>r = .sl 0 0 (4*ws.length)∧o=[.live 1 (((xP ws).map qA).map V.t) true false])):=by
 simp(disch:=omega)only[go_sem,↓reduceIte,Nat.reduceAdd,Int.reduceLE,reduceCtorEq,qB7];refine qB ws.length (fun k=>[(3,.sl 8240 0 (4*k)),(10,.t (.sl (ws.map jB))),(11,.t (.int .i64 ws.length)),(12,.t (.int .i64 k))]) (fun k=>[(8240,.live 1 (((xP (ws.take k)).map qA).map V.t) true false)]) ?_ (fun k hk=>?_)
 ·refine qK.rd id ?_ ?_ rfl;all_goals simp(disch:=omega)only[go_sem,↓reduceIte,Nat.reduceAdd,Nat.reduceEqDiff,Nat.reduceMul,id,xP,List.flatMap_nil,List.map_nil]
 ·have hl:(xP (ws.take k)).length=4*k:=by rw[qFl,List.length_take];omega
  by_cases hlt:k<ws.length
  ·simp(disch:=omega)only[go_sem,↓reduceIte,Nat.reduceAdd,Nat.reduceEqDiff,Nat.reduceLT,Nat.reduceLeDiff,hl];refine⟨hlt,qK.rd (fun _=>24784) ?_ ?_ rfl⟩;all_goals simp(disch:=omega)only[go_sem,↓reduceIte,Nat.reduceAdd,Nat.reduceEqDiff,qRb,qUp]
   ·omega
   ·simp only[List.append_assoc,List.cons_append,List.nil_append];rfl
  ·have e:k=ws.length:=oM;subst e;rw[List.take_length] at hl;simp(disch:=omega)only[go_sem,↓reduceIte,Nat.reduceAdd,Nat.reduceEqDiff,hl,List.take_length]
def jTx (x:UInt32):UInt32:=qXd x 7 ^^^ qXd x 18 ^^^ x >>> 3
def jTy (x:UInt32):UInt32:=qXd x 17 ^^^ qXd x 19 ^^^ x >>> 10
def qBf (bs:List UInt8):Nat→List UInt32
 | 0=>List.replicate 64 0
 | t+1=>let w:=qBf bs t
  w.set t (if t<16 then qXi bs t else jTy (w.getD (t-2) 0)+w.getD (t-7) 0+jTx (w.getD (t-15) 0)+w.getD (t-16) 0)
theorem qQ9 {bs:List UInt8}{t:Nat}:(qBf bs t).length=64:=by
 induction t with
 | zero=>rfl
 | succ t ih=>simp only[qBf,List.length_set,ih]
def qIf:Ct where
 α:=List UInt8×Nat
 aS x:=[.t (.sl (x.1.map qA)),.t (.int .i64 x.2)]
 ins _:=[]
 pre x:=4*x.2+3<x.1.length∧x.1.length<1000000000
 r x:= .t (jB (qXi x.1 x.2))
 outs _:=[]
 inj:=by
  rintro⟨a,b⟩ ⟨c,d⟩ h _;simp[jC,Int.natCast_inj] at h;obtain⟨rfl,rfl⟩:=h;exact⟨rfl,rfl⟩
theorem zFj {bs:List UInt8}{i:Nat}(h:4*i+3<bs.length∧bs.length<1000000000):qIf.fs [.t (.sl (bs.map qA)),.t (.int .i64 i)] []=some (.t (jB (qXi bs i)),[]):=qIf.eq (bs,i) h
def qPl:Ct where
 α:=UInt32×Int
 aS x:=[.t (jB x.1),.t (.int .i64 x.2)]
 ins _:=[]
 pre x := -32<x.2∧x.2<32∧x.2≠0
 r x:= .t (jB (qXd x.1 ((32-x.2)%32).toNat))
 outs _:=[]
 inj:=by
  rintro⟨a,b⟩ ⟨c,d⟩ h _;simp[zEs] at h;obtain⟨rfl,rfl⟩:=h;exact⟨rfl,rfl⟩
theorem qM3 {x:UInt32}{i:Int}(h : -32<i∧i<32∧i≠0):qPl.fs [.t (jB x),.t (.int .i64 i)] []=some (.t (jB (qXd x ((32-i)%32).toNat)),[]):=qPl.eq (x,i) h
def qZ9:List UInt32:=[0x428a2f98,0x71374491,0xb5c0fbcf,0xe9b5dba5,0x3956c25b,0x59f111f1,0x923f82a4,0xab1c5ed5,0xd807aa98,0x12835b01,0x243185be,0x550c7dc3,0x72be5d74,0x80deb1fe,0x9bdc06a7,0xc19bf174,0xe49b69c1,0xefbe4786,0x0fc19dc6,0x240ca1cc,0x2de92c6f,0x4a7484aa,0x5cb0a9dc,0x76f988da,0x983e5152,0xa831c66d,0xb00327c8,0xbf597fc7,0xc6e00bf3,0xd5a79147,0x06ca6351,0x14292967,0x27b70a85,0x2e1b2138,0x4d2c6dfc,0x53380d13,0x650a7354,0x766a0abb,0x81c2c92e,0x92722c85,0xa2bfe8a1,0xa81a664b,0xc24b8b70,0xc76c51a3,0xd192e819,0xd6990624,0xf40e3585,0x106aa070,0x19a4c116,0x1e376c08,0x2748774c,0x34b0bcb5,0x391c0cb3,0x4ed8aa4a,0x5b9cca4f,0x682e6ff3,0x748f82ee,0x78a5636f,0x84c87814,0x8cc70208,0x90befffa,0xa4506ceb,0xbef9a3f7,0xc67178f2]
def rnd (k w:UInt32)(s:List UInt32):List UInt32:=
 let a:=s.getD 0 0
 let e:=s.getD 4 0
 let t1:=s.getD 7 0+(qXd e 6 ^^^ qXd e 11 ^^^ qXd e 25)+((e &&& s.getD 5 0) ^^^ (~~~e &&& s.getD 6 0))+k+w
 let t2:=(qXd a 2 ^^^ qXd a 13 ^^^ qXd a 22)+((a &&& s.getD 1 0) ^^^ (a &&& s.getD 2 0) ^^^ (s.getD 1 0 &&& s.getD 2 0))
 [t1+t2,s.getD 0 0,s.getD 1 0,s.getD 2 0,s.getD 3 0+t1,s.getD 4 0,s.getD 5 0,s.getD 6 0]
def qAx (ws hs:List UInt32):Nat→List UInt32
 | 0=>hs
 | t+1=>rnd (qZ9.getD t 0) (ws.getD t 0) (qAx ws hs t)
theorem qOd {ws hs:List UInt32}{t:Nat}(h:hs.length=8):(qAx ws hs t).length=8:=by
 cases t with
 | zero=>exact h
 | succ t=>rfl
def zHs (hs s:List UInt32):Nat→List UInt32
 | 0=>hs
 | i+1=>(zHs hs s i).set i ((zHs hs s i).getD i 0+s.getD i 0)
theorem qK5 {hs s:List UInt32}{i:Nat}:(zHs hs s i).length=hs.length:=by
 induction i with
 | zero=>rfl
 | succ i ih=>simp only[zHs,List.length_set,ih]
def wQ (hs:List UInt32)(bs:List UInt8):List UInt32:=zHs hs (qAx (qBf bs 64) hs 64) 8
theorem qKk (h1:LkC tab 229 qIf)(h2:LkC tab 230 qPl)(hg:gl 2=some (qZ9.map jB))(bs:List UInt8)(hs:List UInt32)(hb:bs.length=64)(hh:hs.length=8) :
  kC.1.wp tab gl (qE 0 [.ref 0 0 0,.t (.sl (bs.map qA))]) (qE 0 [.live 1 ((hs.map jB).map V.t) true true]) (zA [] 1 (fun r o=>r = .tup []∧o=[.live 1 (((wQ hs bs).map jB).map V.t) true true])):=by
 have ht:hs.take 8=hs:=List.take_of_length_le oM;simp(disch:=omega)only[go_sem,kC];refine qB 64 (fun k=>[(17,.t (.int .i64 k)),(4,.ref 4096 0 0),(0,.ref 0 0 0),(1,V.t (T.sl (List.map qA bs)))]) (fun k=>[(4096,.live 1 (((qBf bs k).map jB).map V.t) true true),(0,.live 1 ((hs.map jB).map V.t) true true)]) ?_ (fun k hk=>?_)
 ·refine qK.rd id ?_ ?_ rfl;all_goals simp(disch:=omega)only[go_sem,id,qBf]
 ·have hl:(qBf bs k).length=64:=qQ9;by_cases hlt:k<64
  ·by_cases h16:k<16
   ·simp(disch:=omega)only[go_sem,h1,h2,zFj,hl];refine⟨hlt,qK.rd id ?_ ?_ rfl⟩;all_goals simp(disch:=omega)only[go_sem,id,qBf,if_pos h16]
   ·simp(disch:=omega)only[go_sem,h1,h2,qM3,hl];refine⟨rfl,rfl,hlt,qK.rd id ?_ ?_ rfl⟩;all_goals simp(disch:=omega)only[go_sem,id,qBf,if_neg h16]
    rfl
  ·have e:k=64:=oM;subst e;simp(disch:=omega)only[go_sem,ht,hh];refine qB 64 (fun k=>[(70,.t (.int .i64 k)),(4,.ref 4096 0 0),(0,.ref 0 0 0),(10,.ref 49200 0 0)]) (fun k=>[(49200,.live 1 (((qAx (qBf bs 64) hs k).map jB).map V.t) true true),(4096,.live 1 (((qBf bs 64).map jB).map V.t) true true),(0,.live 1 ((hs.map jB).map V.t) true true)]) ?_ (fun k hk=>?_)
   ·refine qK.rd id ?_ ?_ rfl;all_goals simp(disch:=omega)only[go_sem,id,qAx]
   ·have hl2:(qAx (qBf bs 64) hs k).length=8:=qOd hh;by_cases hlt:k<64
    ·have hk2:qZ9.length=64:=rfl;simp(maxSteps:=9^9)(disch:=try exact dS)only[go_sem,h1,h2,qM3,hl,hl2,hg,hk2];repeat refine And.intro rfl ?_
     refine⟨hlt,qK.rd id ?_ ?_ rfl⟩;all_goals simp(disch:=omega)only[go_sem,id,qAx,rnd,List.drop_eq_nil_of_le (show (qAx (qBf bs 64) hs k).length≤8 by omega)]
    ·have e:k=64:=oM;subst e;simp(disch:=omega)only[go_sem];refine qB 8 (fun k=>[(152,.t (.int .i64 k)),(0,.ref 0 0 0),(10,.ref 49200 0 0)]) (fun k=>[(49200,.live 1 (((qAx (qBf bs 64) hs 64).map jB).map V.t) true true),(0,.live 1 (((zHs hs (qAx (qBf bs 64) hs 64) k).map jB).map V.t) true true)]) ?_ (fun k hk=>?_)
     ·refine qK.rd id ?_ ?_ rfl;all_goals simp(disch:=omega)only[go_sem,id,zHs]
     ·have hl3:(zHs hs (qAx (qBf bs 64) hs 64) k).length=8:=by rw[qK5,hh]
      by_cases hlt:k<8
      ·simp(disch:=omega)only[go_sem,hl2,hl3];refine⟨rfl,hlt,qK.rd id ?_ ?_ rfl⟩;all_goals simp(disch:=omega)only[go_sem,id,zHs]
      ·have e:k=8:=oM;subst e;simp(disch:=omega)only[go_sem,wQ]
theorem qG6 (bs:List UInt8):(qAt bs).length=bs.length+1+zBn bs.length+8:=by
 simp only[qAt,List.length_append,List.length_replicate,qFt,List.length_cons,List.length_nil]
theorem qYl (bs:List UInt8):(qAt bs).length%64=0:=by
 rw[qG6,zBn];omega
def hN (comp:List UInt32→List UInt8→List UInt32)(iv:List UInt32)(p:List UInt8):Nat→List UInt32
 | 0=>iv
 | k+1=>comp (hN comp iv p k) ((p.drop (64*k)).take 64)
def jA9 (comp:List UInt32→List UInt8→List UInt32)(iv:List UInt32)(bs:List UInt8):List UInt8:=xP (hN comp iv (qAt bs) ((qAt bs).length/64))
def qPy:List UInt32:=[0x6a09e667,0xbb67ae85,0x3c6ef372,0xa54ff53a,0x510e527f,0x9b05688c,0x1f83d9ab,0x5be0cd19]
def jQ (bs:List UInt8):List UInt8:=jA9 wQ qPy bs
theorem zL4 {comp:List UInt32→List UInt8→List UInt32}{iv:List UInt32}{p:List UInt8}{n:Nat}(hc : ∀ h b,(comp h b).length=h.length)(hi:iv.length=n){k:Nat}:(hN comp iv p k).length=n:=by
 induction k with
 | zero=>exact hi
 | succ k ih=>rw[hN,hc,ih]
theorem qKp (h:List UInt32)(b:List UInt8):(wQ h b).length=h.length:=qK5
theorem qTs {p:List UInt8}{k:Nat}:(hN wQ qPy p k).length=8:=zL4 qKp rfl
def qQ1:Ct where
 α:=List UInt8
 aS x:=[.t (.sl (x.map qA))]
 ins _:=[]
 pre x:=x.length<1000000000
 r x:= .sl 0 0 (qAt x).length
 outs x:=[.live 1 (((qAt x).map qA).map V.t) true false]
 inj:=by
  intro a b h _;simp[jC] at h;subst h;exact⟨rfl,rfl⟩
theorem zM0 {bs:List UInt8}(h:bs.length<1000000000):qQ1.fs [.t (.sl (bs.map qA))] []=some (.sl 0 0 (qAt bs).length,[.live 1 (((qAt bs).map qA).map V.t) true false]):=qQ1.eq bs h
def qBp:Ct where
 α:=List UInt32
 aS x:=[.t (.sl (x.map jB))]
 ins _:=[]
 pre x:=x.length<1000000000
 r x:= .sl 0 0 (4*x.length)
 outs x:=[.live 1 (((xP x).map qA).map V.t) true false]
 inj:=by
  intro a b h _;simp[zGw] at h;subst h;exact⟨rfl,rfl⟩
theorem qUq {ws:List UInt32}(h:ws.length<1000000000):qBp.fs [.t (.sl (ws.map jB))] []=some (.sl 0 0 (4*ws.length),[.live 1 (((xP ws).map qA).map V.t) true false]):=qBp.eq ws h
def xL (n:Nat)(comp:List UInt32→List UInt8→List UInt32):Ct where
 α:=List UInt32×List UInt8
 aS x:=[.ref 0 0 0,.t (.sl (x.2.map qA))]
 ins x:=[.live 1 ((x.1.map jB).map V.t) true true]
 pre x:=x.2.length=64∧x.1.length=n
 r _:= .tup []
 outs x:=[.live 1 (((comp x.1 x.2).map jB).map V.t) true true]
 inj:=by
  rintro⟨a,b⟩ ⟨c,d⟩ h1 h2;simp[jC] at h1;simp only[Ob.live.injEq,zR7,zGw,List.cons.injEq] at h2;obtain⟨⟨_,rfl,_,_⟩,_⟩:=h2;subst h1;exact⟨rfl,rfl⟩
theorem zKs {n:Nat}{comp:List UInt32→List UInt8→List UInt32}{hs:List UInt32}{bs:List UInt8}(h:bs.length=64∧hs.length=n):(xL n comp).fs [.ref 0 0 0,.t (.sl (bs.map qA))] [.live 1 ((hs.map jB).map V.t) true true] =
  some (.tup [],[.live 1 (((comp hs bs).map jB).map V.t) true true]):=(xL n comp).eq (hs,bs) h
theorem qR4 (h1:LkC tab 163 qQ1)(h3:LkC tab 165 qBp)(h4:tab.look 166=some (xL 8 wQ).fs)(bs:List UInt8)(hb:bs.length<1000000000) :
  kJ.1.wp tab gl (qE 0 [.t (.int .i64 1),.t (.sl (bs.map qA))]) (qE 0 []) (kN [] [(4,none)] 0 (fun r o=>r = .sl 0 0 32∧o=[.live 1 (((jQ bs).map qA).map V.t) true false])):=by
 have hp:=qG6 bs;have hm:=qYl bs;simp(disch:=omega)only[go_sem,kJ,h1,zM0];refine qB ((qAt bs).length/64) (fun k=>[(8,V.sl 49168 (64*k) ((qAt bs).length-64*k)),(7,V.ref 45072 0 0)]) (fun k=>[(49168,.live 1 (((qAt bs).map qA).map V.t) true false),(45072,.live 1 (((hN wQ qPy (qAt bs) k).map jB).map V.t) true true)]) ?_ (fun k hk=>?_)
 ·refine qK.rd id ?_ ?_ rfl;all_goals simp(disch:=omega)only[go_sem,id,hN,qPy,Nat.mul_zero,mcn]
 ·have hl:(hN wQ qPy (qAt bs) k).length=8:=qTs;by_cases hlt:k<(qAt bs).length/64
  ·simp(maxSteps:=9^9)(disch:=try exact dS)only[go_sem,h4,zKs,hl];refine⟨hlt,qK.rd id ?_ ?_ rfl⟩;all_goals simp(maxSteps:=9^9)(disch:=try exact dS)only[go_sem,id,hN]
   omega
  ·have e:k=(qAt bs).length/64:=oM;subst e;have ht:List.take 8 (hN wQ qPy (qAt bs) ((qAt bs).length/64))=hN wQ qPy (qAt bs) ((qAt bs).length/64):=List.take_of_length_le oM;simp(disch:=omega)only[go_sem,h3,qUq,hl,ht,jQ,jA9]
def qDw (bs:List UInt8):Nat→List UInt32
 | 0=>List.replicate 80 0
 | t+1=>let w:=qDw bs t
  w.set t (if t<16 then qXi bs t else qXd (w.getD (t-3) 0 ^^^ w.getD (t-8) 0 ^^^ w.getD (t-14) 0 ^^^ w.getD (t-16) 0) 31)
theorem qYt {bs:List UInt8}{t:Nat}:(qDw bs t).length=80:=by
 induction t with
 | zero=>rfl
 | succ t ih=>simp only[qDw,List.length_set,ih]
def f1 (t:Nat)(b c d:UInt32):UInt32:=if t<20 then (b &&& c) ^^^ (~~~b &&& d) else if t<40 then b ^^^ c ^^^ d else if t<60 then (b &&& c) ^^^ (b &&& d) ^^^ (c &&& d) else b ^^^ c ^^^ d
def k1 (t:Nat):UInt32:=if t<20 then 0x5a827999 else if t<40 then 0x6ed9eba1 else if t<60 then 0x8f1bbcdc else 0xca62c1d6
def jGj (t:Nat)(w:UInt32)(s:List UInt32):List UInt32:=
 [qXd (s.getD 0 0) 27+f1 t (s.getD 1 0) (s.getD 2 0) (s.getD 3 0)+s.getD 4 0+k1 t+w,s.getD 0 0,qXd (s.getD 1 0) 2,s.getD 2 0,s.getD 3 0]
def qCk (ws hs:List UInt32):Nat→List UInt32
 | 0=>hs
 | t+1=>jGj t (ws.getD t 0) (qCk ws hs t)
def qHq (hs:List UInt32)(bs:List UInt8):List UInt32:=
 let s:=qCk (qDw bs 80) hs 80
 [hs.getD 0 0+s.getD 0 0,hs.getD 1 0+s.getD 1 0,hs.getD 2 0+s.getD 2 0,hs.getD 3 0+s.getD 3 0,hs.getD 4 0+s.getD 4 0]
theorem qOv (h1:LkC tab 229 qIf)(h2:LkC tab 230 qPl)(bs:List UInt8)(x0 x1 x2 x3 x4:UInt32)(hb:bs.length=64) :
  vW.1.wp tab gl (qE 0 [.ref 0 0 0,.t (.sl (bs.map qA))]) (qE 0 [.live 1 (([x0,x1,x2,x3,x4].map jB).map V.t) true true]) (zA [] 1 (fun r o=>r = .tup []∧o=[.live 1 (((qHq [x0,x1,x2,x3,x4] bs).map jB).map V.t) true true])):=by
 simp(disch:=omega)only[go_sem,vW];refine qB 80 (fun k=>[(14,.t (.int .i64 k)),(4,.ref 4096 0 0),(0,.ref 0 0 0),(1,V.t (T.sl (List.map qA bs)))]) (fun k=>[(4096,.live 1 (((qDw bs k).map jB).map V.t) true true),(0,.live 1 [.t (jB x0),.t (jB x1),.t (jB x2),.t (jB x3),.t (jB x4)] true true)]) ?_ (fun k hk=>?_)
 ·refine qK.rd id ?_ ?_ rfl;all_goals simp(disch:=omega)only[go_sem,id,qDw]
 ·have hl:(qDw bs k).length=80:=qYt;by_cases hlt:k<80
  ·by_cases h16:k<16
   ·simp(disch:=omega)only[go_sem,h1,h2,zFj,hl];refine⟨hlt,qK.rd id ?_ ?_ rfl⟩;all_goals simp(disch:=omega)only[go_sem,id,qDw,if_pos h16]
   ·simp(disch:=omega)only[go_sem,h1,h2,qM3,hl];repeat refine And.intro rfl ?_
    refine⟨hlt,qK.rd id ?_ ?_ rfl⟩;all_goals simp(disch:=omega)only[go_sem,id,qDw,if_neg h16]
  ·have e:k=80:=oM;subst e;simp(disch:=omega)only[go_sem];repeat refine And.intro rfl ?_
   refine qB 80 (fun k=>[(67,.t (.int .i64 k)),(4,.ref 4096 0 0),(0,.ref 0 0 0),(6,.t (jB ((qCk (qDw bs 80) [x0,x1,x2,x3,x4] k).getD 0 0))),(7,.t (jB ((qCk (qDw bs 80) [x0,x1,x2,x3,x4] k).getD 1 0))),(8,.t (jB ((qCk (qDw bs 80) [x0,x1,x2,x3,x4] k).getD 2 0))),(9,.t (jB ((qCk (qDw bs 80) [x0,x1,x2,x3,x4] k).getD 3 0))),(10,.t (jB ((qCk (qDw bs 80) [x0,x1,x2,x3,x4] k).getD 4 0)))])
    (fun k=>[(4096,.live 1 (((qDw bs 80).map jB).map V.t) true true),(0,.live 1 [.t (jB x0),.t (jB x1),.t (jB x2),.t (jB x3),.t (jB x4)] true true)]) ?_ (fun k hk=>?_)
   ·refine qK.rd id ?_ ?_ rfl;all_goals simp(disch:=omega)only[go_sem,id,qCk,List.getD_cons_zero,List.getD_cons_succ]
   ·by_cases hlt:k<80
    ·by_cases h20:k<20
     ·have e0:k/20=0:=oM;simp(disch:=omega)only[go_sem,h1,h2,qM3,hl,e0];repeat refine And.intro rfl ?_
      refine⟨hlt,qK.rd id ?_ ?_ rfl⟩;all_goals simp(disch:=omega)only[go_sem,id,qCk,jGj,f1,k1,if_pos h20,List.getD_cons_zero,List.getD_cons_succ]
     ·by_cases h40:k<40
      ·have e0:k/20=1:=oM;simp(disch:=omega)only[go_sem,h1,h2,qM3,hl,e0];repeat refine And.intro rfl ?_
       refine⟨hlt,qK.rd id ?_ ?_ rfl⟩;all_goals simp(disch:=omega)only[go_sem,id,qCk,jGj,f1,k1,if_neg h20,if_pos h40,List.getD_cons_zero,List.getD_cons_succ]
      ·by_cases h60:k<60
       ·have e0:k/20=2:=oM;simp(disch:=omega)only[go_sem,h1,h2,qM3,hl,e0];repeat refine And.intro rfl ?_
        refine⟨hlt,qK.rd id ?_ ?_ rfl⟩;all_goals simp(disch:=omega)only[go_sem,id,qCk,jGj,f1,k1,if_neg h20,if_neg h40,if_pos h60,List.getD_cons_zero,List.getD_cons_succ]
       ·have e0:k/20=3:=oM;simp(disch:=omega)only[go_sem,h1,h2,qM3,hl,e0];repeat refine And.intro rfl ?_
        refine⟨hlt,qK.rd id ?_ ?_ rfl⟩;all_goals simp(disch:=omega)only[go_sem,id,qCk,jGj,f1,k1,if_neg h20,if_neg h40,if_neg h60,List.getD_cons_zero,List.getD_cons_succ]
    ·have e:k=80:=oM;subst e;simp(disch:=omega)only[go_sem,qHq,List.getD_cons_zero,List.getD_cons_succ];repeat refine And.intro rfl ?_
     rfl
def iv1:List UInt32:=[0x67452301,0xefcdab89,0x98badcfe,0x10325476,0xc3d2e1f0]
theorem zL3 {p:List UInt8}{k:Nat}:(hN qHq iv1 p k).length=5:=by
 cases k<;>rfl
def zC1 (bs:List UInt8):List UInt8:=jA9 qHq iv1 bs
theorem qWm (h1:LkC tab 163 qQ1)(h3:LkC tab 165 qBp)(h4:tab.look 164=some (xL 5 qHq).fs)(bs:List UInt8)(hb:bs.length<1000000000) :
  kJ.1.wp tab gl (qE 0 [.t (.int .i64 0),.t (.sl (bs.map qA))]) (qE 0 []) (kN [] [(4,none)] 0 (fun r o=>r = .sl 0 0 20∧o=[.live 1 (((zC1 bs).map qA).map V.t) true false])):=by
 have hp:=qG6 bs;have hm:=qYl bs;simp(disch:=omega)only[go_sem,kJ,h1,zM0];refine qB ((qAt bs).length/64) (fun k=>[(6,V.sl 20496 (64*k) ((qAt bs).length-64*k)),(5,V.ref 16400 0 0)]) (fun k=>[(20496,.live 1 (((qAt bs).map qA).map V.t) true false),(16400,.live 1 (((hN qHq iv1 (qAt bs) k).map jB).map V.t) true true)]) ?_ (fun k hk=>?_)
 ·refine qK.rd id ?_ ?_ rfl;all_goals simp(disch:=omega)only[go_sem,id,hN,iv1,Nat.mul_zero,mcn]
 ·have hl:(hN qHq iv1 (qAt bs) k).length=5:=zL3;by_cases hlt:k<(qAt bs).length/64
  ·simp(maxSteps:=9^9)(disch:=try exact dS)only[go_sem,h4,zKs,hl];refine⟨hlt,qK.rd id ?_ ?_ rfl⟩;all_goals simp(maxSteps:=9^9)(disch:=try exact dS)only[go_sem,id,hN]
   omega
  ·have e:k=(qAt bs).length/64:=oM;subst e;have ht:List.take 5 (hN qHq iv1 (qAt bs) ((qAt bs).length/64))=hN qHq iv1 (qAt bs) ((qAt bs).length/64):=List.take_of_length_le oM;simp(disch:=omega)only[go_sem,h3,qUq,hl,ht,zC1,jA9]
theorem zJt (bs:List UInt8)(hb:bs.length<1000000000):qKy.1.wp tab gl (qE 0 [.t (.sl (bs.map qA))]) (qE 0 []) (kN [] [(2,none)] 0 (fun r o=>r = .sl 0 0 (qAt bs).length∧o=[.live 1 (((qAt bs).map qA).map V.t) true false])):=by
 have hz:zBn bs.length=(119-bs.length%64)%64:=rfl;simp(disch:=omega)only[go_sem,qKy];refine qB (zBn bs.length) (fun k=>[(0,.t (.sl (bs.map qA))),(3,.sl 8256 0 (bs.length+1+k))]) (fun k=>[(8256,.live 1 (((bs++[128]++List.replicate k 0).map qA).map V.t) true false)]) ?_ (fun k hk=>?_)
 ·refine qK.rd id ?_ ?_ rfl;all_goals simp(disch:=omega)only[go_sem,id]
 ·by_cases hlt:k<zBn bs.length
  ·simp(disch:=omega)only[go_sem];refine⟨hlt,qK.rd (fun _=>16416) ?_ ?_ rfl⟩;all_goals simp(disch:=omega)only[go_sem,List.replicate_succ',List.append_assoc,Nat.add_assoc]
  ·have e:k=zBn bs.length:=oM;subst e;simp(disch:=omega)only[go_sem];refine qB 8 (fun k=>[(3,.sl 8256 0 (bs.length+1+zBn bs.length+k)),(4,V.t (T.int IntKind.u64 (bs.length*8:Nat))),(5,.t (.int .i64 (7-(k:Int))))]) (fun k=>[(8256,.live 1 (((bs++[128]++List.replicate (zBn bs.length) 0++beL (bs.length*8) k).map qA).map V.t) true false)]) ?_ (fun k hk=>?_)
   ·refine qK.rd id ?_ ?_ rfl;all_goals simp(disch:=omega)only[go_sem,id,zFw,List.append_nil]
   ·by_cases hlt:k<8
    ·have e:8*(7-k)=56-8*k:=oM;simp(disch:=omega)only[go_sem,qFt,e];refine⟨hlt,qK.rd (fun _=>36992) ?_ ?_ rfl⟩;all_goals simp(disch:=omega)only[go_sem,zFv,List.append_assoc,Nat.add_assoc]
     omega
    ·have e:k=8:=oM;subst e;simp(disch:=omega)only[go_sem,qFt,qAt]
theorem zCm (ws:List UInt32)(hb:ws.length<1000000000):qGe.1.wp tab gl (qE 0 [.t (.sl (ws.map jB))]) (qE 0 []) (kN [] [(2,none)] 0 (fun r o=>r = .sl 0 0 (4*ws.length)∧o=[.live 1 (((xP ws).map qA).map V.t) true false])):=by
 simp(disch:=omega)only[go_sem,Nat.reduceAdd,qGe];refine qB ws.length (fun k=>[(3,.sl 9000 0 (4*k)),(0,.t (.sl (ws.map jB))),(4,.t (.int .i64 k))]) (fun k=>[(9000,.live 1 (((xP (ws.take k)).map qA).map V.t) true false)]) ?_ (fun k hk=>?_)
 ·show qK _ _ _ ([(9000,.live 1 [] true false)]++[]);refine qK.cv0 id ?_ ?_ rfl rfl;all_goals simp(disch:=omega)only[go_sem,↓reduceIte,Nat.reduceEqDiff,reduceCtorEq,id,mcn,Nat.mul_zero]
 ·have hl:(xP (ws.take k)).length=4*k:=by rw[qFl,List.length_take];omega
  by_cases hlt:k<ws.length
  ·simp(disch:=omega)only[go_sem,↓reduceIte,Nat.reduceAdd,Nat.reduceEqDiff,Nat.reduceLT,Nat.reduceLeDiff,reduceCtorEq,hl];refine⟨rfl,hlt,qK.rd (fun _=>24976) ?_ ?_ rfl⟩;all_goals simp(disch:=omega)only[go_sem,↓reduceIte,Nat.reduceAdd,Nat.reduceEqDiff,reduceCtorEq,qRb,qUp]
   ·omega
   ·simp only[List.append_assoc,List.cons_append,List.nil_append];rfl
  ·have e:k=ws.length:=oM;subst e;rw[List.take_length] at hl;simp(disch:=omega)only[go_sem,↓reduceIte,Nat.reduceAdd,Nat.reduceEqDiff,reduceCtorEq,hl,List.take_length]
theorem qR5:qA8.1.wp tab gl (qE 0 []) (qE 0 []) (zA [(0,some (64,true))] 0 (fun r o=>r = .t (.agg (qZ9.map jB))∧o=[])):=by
 simp(maxSteps:=9^9)(disch:=try exact dS)only[go_sem,qA8,List.drop_replicate];rfl
def qSe:Ct where
 α:=Unit
 aS _:=[]
 ins _:=[]
 pre _:=True
 r _:= .t (.agg (qZ9.map jB))
 outs _:=[]
 inj:=fun _ _ _ _=>⟨rfl,rfl⟩
theorem zQi:qSe.fs [] []=some (.t (.agg (qZ9.map jB)),[]):=qSe.eq () trivial
def qX9:Ct where
 α:=UInt32×Nat
 aS x:=[.t (jB x.1),.t (.int .u64 x.2)]
 ins _:=[]
 pre x:=0<x.2∧x.2<32
 r x:= .t (jB (qXd x.1 x.2))
 outs _:=[]
 inj:=by
  rintro⟨a,b⟩ ⟨c,d⟩ h _;simp[zEs,Int.natCast_inj] at h;obtain⟨rfl,rfl⟩:=h;exact⟨rfl,rfl⟩
theorem zNg {x:UInt32}{n:Nat}(h:0<n∧n<32):qX9.fs [.t (jB x),.t (.int .u64 (no_index (@OfNat.ofNat Int n _)))] []=some (.t (jB (qXd x n)),[]):=qX9.eq (x,n) h
theorem qZz (h1:LkC tab 72 qSe)(h2:LkC tab 73 qQ1)(h3:LkC tab 74 qIf)(h4:LkC tab 75 qX9)(h5:LkC tab 76 qBp)
  (bs:List UInt8) (hb:bs.length<1000000000) :
  qEx.1.wp tab gl (qE 0 [.t (.sl (bs.map qA))]) (qE 0 []) (kN [] [(2,none)] 0 (fun r o=>r = .sl 0 0 32∧o=[.live 1 (((jQ bs).map qA).map V.t) true false])):=by
 have hp:=qG6 bs;have hm:=qYl bs;have hz:zBn bs.length<64:=by unfold zBn;omega
 have hk2:qZ9.length=64:=rfl;simp(maxSteps:=9^9)(disch:=try exact dS)only[go_sem,qEx,h1,zQi,h2,zM0,hk2];refine qB ((qAt bs).length/64) (fun k=>[(3,.ref 8208 0 0),(4,.sl 12288 0 8),(5,.sl 16400 0 (qAt bs).length),(6,.t (.int .i64 ((64*k:Nat):Int)))])
  (fun k=>[(8208,.live 1 ((qZ9.map jB).map V.t) true true),(12288,.live 1 (((hN wQ qPy (qAt bs) k).map jB).map V.t) true false),(16400,.live 1 (((qAt bs).map qA).map V.t) true false)]) ?_ (fun k hk=>?_)
 ·refine qK.rd id ?_ ?_ rfl;all_goals simp(disch:=omega)only[go_sem,id,hN,qPy,Nat.mul_zero,mcn]
 ·have hl:(hN wQ qPy (qAt bs) k).length=8:=qTs;by_cases hlt:k<(qAt bs).length/64
  ·generalize hH:hN wQ qPy (qAt bs) k=H at hl ⊢;generalize hB:List.take 64 (List.drop (64*k) (qAt bs))=B;have hBl:B.length=64:=by rw[←hB];simp only[List.length_take,List.length_drop];omega
   simp(disch:=omega)only[go_sem];refine qB 64 (fun t=>[(8,.t (.int .i64 t)),(7,.ref 32768 0 0),(3,.ref 8208 0 0),(4,.sl 12288 0 8),(5,.sl 16400 0 (qAt bs).length),(6,.t (.int .i64 ((64*k:Nat):Int)))])
    (fun t=>[(32768,.live 1 (((qBf B t).map jB).map V.t) true true),(8208,.live 1 ((qZ9.map jB).map V.t) true true),(12288,.live 1 ((H.map jB).map V.t) true false),(16400,.live 1 (((qAt bs).map qA).map V.t) true false)]) ?_ (fun t ht=>?_)
   ·refine qK.rd id ?_ ?_ rfl;all_goals simp(disch:=omega)only[go_sem,id,qBf]
   ·have hs:(qBf B t).length=64:=qQ9;by_cases hlt2:t<64
    ·by_cases h16:t<16
     ·simp(disch:=omega)only[go_sem,h3,zFj,hs,hB];refine⟨hlt2,qK.rd id ?_ ?_ rfl⟩;all_goals simp(disch:=omega)only[go_sem,id,qBf,if_pos h16]
     ·simp(maxSteps:=9^9)(disch:=try exact dS)only[go_sem,h4,zNg,hs];repeat refine And.intro rfl ?_
      refine⟨hlt2,qK.rd id ?_ ?_ rfl⟩;all_goals simp(maxSteps:=9^9)(disch:=try exact dS)only[go_sem,id,qBf,if_neg h16]
      rfl
    ·have e:t=64:=oM;subst e;have hT:List.take 8 H=H:=List.take_of_length_le oM;simp(disch:=omega)only[go_sem,hl,hT];refine qB 64 (fun t=>[(12,.t (.int .i64 t)),(11,.sl 69664 0 8),(7,.ref 32768 0 0),(3,.ref 8208 0 0),(4,.sl 12288 0 8),(5,.sl 16400 0 (qAt bs).length),(6,.t (.int .i64 ((64*k:Nat):Int)))])
      (fun t=>[(69664,.live 1 (((qAx (qBf B 64) H t).map jB).map V.t) true false),(32768,.live 1 (((qBf B 64).map jB).map V.t) true true),(8208,.live 1 ((qZ9.map jB).map V.t) true true),(12288,.live 1 ((H.map jB).map V.t) true false),(16400,.live 1 (((qAt bs).map qA).map V.t) true false)]) ?_ (fun t ht=>?_)
     ·refine qK.rd id ?_ ?_ rfl;all_goals simp(disch:=omega)only[go_sem,id,qAx]
     ·have hr:(qAx (qBf B 64) H t).length=8:=qOd hl;by_cases hlt3:t<64
      ·simp(maxSteps:=9^9)(disch:=try exact dS)only[go_sem,h4,zNg,hs,hr,hk2];repeat refine And.intro rfl ?_
       refine⟨hlt3,qK.rd (fun i=>if i=69664 then 98656 else i) ?_ ?_ rfl⟩;all_goals simp(disch:=omega)only[go_sem,qAx,rnd]
       trace_state
      ·have e:t=64:=oM;subst e;simp(disch:=omega)only[go_sem];refine qB 8 (fun t=>[(17,.t (.int .i64 t)),(11,.sl 69664 0 8),(3,.ref 8208 0 0),(4,.sl 12288 0 8),(5,.sl 16400 0 (qAt bs).length),(6,.t (.int .i64 ((64*k:Nat):Int)))])
        (fun t=>[(69664,.live 1 (((qAx (qBf B 64) H 64).map jB).map V.t) true false),(8208,.live 1 ((qZ9.map jB).map V.t) true true),(12288,.live 1 (((zHs H (qAx (qBf B 64) H 64) t).map jB).map V.t) true false),(16400,.live 1 (((qAt bs).map qA).map V.t) true false)]) ?_ (fun t ht=>?_)
       ·refine qK.rd id ?_ ?_ rfl;all_goals simp(disch:=omega)only[go_sem,id,zHs]
       ·have ha:(zHs H (qAx (qBf B 64) H 64) t).length=8:=by rw[qK5,hl]
        by_cases hlt4:t<8
        ·simp(disch:=omega)only[go_sem,hr,ha];repeat refine And.intro rfl ?_
         refine⟨hlt4,qK.rd id ?_ ?_ rfl⟩;all_goals simp(disch:=omega)only[go_sem,id,zHs]
        ·have e:t=8:=oM;subst e;simp(disch:=omega)only[go_sem];refine⟨hlt,qK.rd id ?_ ?_ rfl⟩;all_goals simp(disch:=omega)only[go_sem,id,hN,hH,hB,wQ]
         omega
  ·have e:k=(qAt bs).length/64:=oM;subst e;have e2:64*((qAt bs).length/64)=(qAt bs).length:=oM;have ht:List.take 8 (hN wQ qPy (qAt bs) ((qAt bs).length/64))=hN wQ qPy (qAt bs) ((qAt bs).length/64):=List.take_of_length_le oM;simp(disch:=omega)only[go_sem,e2,h5,qUq,hl,ht,jQ,jA9]
def szA (a:Nat):Nat:=if a=0 then 20 else if a=1 then 32 else 0
def jA8 (a:Nat)(bs:List UInt8):List UInt8:=if a=0 then zC1 bs else if a=1 then jQ bs else []
theorem qUs {comp:List UInt32→List UInt8→List UInt32}{iv:List UInt32}{bs:List UInt8}{n:Nat}(hc : ∀ h b,h.length=n→(comp h b).length=n)(hi:iv.length=n):(jA9 comp iv bs).length=4*n:=by
 have : ∀ k p,(hN comp iv p k).length=n:=by
  intro k p
  induction k with
  | zero=>exact hi
  | succ k ih=>exact hc _ _ ih
 rw[jA9,qFl,this]
theorem qM {bs:List UInt8}:(jQ bs).length=32:=qUs (n:=8) (fun h b e=>by rw[qKp,e]) rfl
theorem yC {bs:List UInt8}:(zC1 bs).length=20:=qUs (n:=5) (fun h b _=>rfl) rfl
theorem qHa {a:Nat}{bs:List UInt8}:(jA8 a bs).length=szA a:=by
 unfold jA8 szA;split
 ·exact yC
 ·split
  ·exact qM
  ·rfl
def zAq (n:Nat)(f:List UInt8→List UInt8):Ct where
 α:=List UInt8
 aS x:=[.t (.sl (x.map qA))]
 ins _:=[]
 pre x:=x.length<1000000000
 r _:= .sl 0 0 n
 outs x:=[.live 1 (((f x).map qA).map V.t) true false]
 inj:=by
  intro a b h _;simp[jC] at h;subst h;exact⟨rfl,rfl⟩
theorem zWs {n:Nat}{f:List UInt8→List UInt8}{bs:List UInt8}(h:bs.length<1000000000):(zAq n f).fs [.t (.sl (bs.map qA))] []=some (.sl 0 0 n,[.live 1 (((f bs).map qA).map V.t) true false]):=(zAq n f).eq bs h
def zPc (n:Nat):List UInt8:=[UInt8.ofNat (n/2^24),UInt8.ofNat (n/2^16),UInt8.ofNat (n/2^8),UInt8.ofNat n]
def qY (tag:Nat)(fs:List (List UInt8)):List UInt8:=UInt8.ofNat tag::fs.flatMap fun f=>zPc f.length++f
theorem qG4 {tag:Nat}{fs:List (List UInt8)}{k:Nat}(h:k<fs.length):qY tag (fs.take (k+1))=qY tag (fs.take k)++zPc (fs.getD k []).length++fs.getD k []:=by
 rw[qF5 (d:=[]) h];simp[qY]
theorem qNz {tag:Nat}{fs:List (List UInt8)}{k:Nat}:(qY tag (fs.take k)).length≤(qY tag fs).length:=by
 have:qY tag fs=qY tag (fs.take k)++(fs.drop k).flatMap fun f=>zPc f.length++f:=by
  simp only[qY,List.cons_append,←List.flatMap_append,List.take_append_drop]
 rw[this,List.length_append];omega
theorem zA0 {tag:Nat}{fs:List (List UInt8)}:4*fs.length+1≤(qY tag fs).length:=by
 simp only[qY,List.length_cons];have:4*fs.length≤(fs.flatMap fun f=>zPc f.length++f).length:=by
  induction fs with
  | nil=>simp
  | cons f r ih=>
   have h4 : ∀ n,(zPc n).length=4:=fun _=>rfl
   simp only[List.flatMap_cons,List.length_append,List.length_cons,h4];omega
 omega
theorem qWl (tag:Nat)(ht:tag<256)(fs:List (List UInt8))(hb:(qY tag fs).length<1000000000):qC8.1.wp tab gl (qE 0 [.t (.int .i64 tag),.t (.sl (fs.map bsT))]) (qE 0 []) (kN [] [(4,none)] 0 (fun r o=>r = .sl 0 0 (qY tag fs).length∧o=[.live 1 (((qY tag fs).map qA).map V.t) true false])):=by
 simp(disch:=omega)only[go_sem,qC8];have hge:=zA0 (tag:=tag) (fs:=fs);refine qB fs.length (fun k=>[(5,.sl 8224 0 (qY tag (fs.take k)).length),(12,V.t (T.sl (List.map bsT fs))),(13,.t (.int .i64 fs.length)),(14,.t (.int .i64 k))]) (fun k=>[(8224,.live 1 (((qY tag (fs.take k)).map qA).map V.t) true false)]) ?_ (fun k hk=>?_)
 ·refine qK.rd id ?_ ?_ rfl;all_goals simp(disch:=omega)only[go_sem,id,qY,List.flatMap_nil,mcn]
 ·have h0:=qNz (tag:=tag) (fs:=fs) (k:=k);by_cases hlt:k<fs.length
  ·have h1:=qNz (tag:=tag) (fs:=fs) (k:=k+1);rw[qG4 hlt,List.length_append,List.length_append] at h1;have h2:(zPc (fs.getD k []).length).length=4:=rfl;simp(disch:=omega)only[go_sem];refine⟨hlt,qK.rd (fun _=>32800) ?_ ?_ rfl⟩;all_goals simp(disch:=omega)only[go_sem,qG4,zPc]
   simp only[List.append_assoc,List.cons_append,List.nil_append]
  ·have e:k=fs.length:=oM;subst e;simp(disch:=omega)only[go_sem,List.take_length]
theorem zCl (tag:Nat)(ht:tag<256)(fs:List (List UInt8))(hb:(qY tag fs).length<1000000000):qGd.1.wp tab gl (qE 0 [.t (.int .i64 tag),.t (.sl (fs.map bsT))]) (qE 0 []) (kN [] [(4,none)] 0 (fun r o=>r = .sl 0 0 (qY tag fs).length∧o=[.live 1 (((qY tag fs).map qA).map V.t) true false])):=by
 simp(disch:=omega)only[go_sem,qGd];have hge:=zA0 (tag:=tag) (fs:=fs);refine qB fs.length (fun k=>[(5,.sl 8224 0 (qY tag (fs.take k)).length),(1,V.t (T.sl (List.map bsT fs))),(6,.t (.int .i64 k))]) (fun k=>[(8224,.live 1 (((qY tag (fs.take k)).map qA).map V.t) true false)]) ?_ (fun k hk=>?_)
 ·refine qK.rd id ?_ ?_ rfl;all_goals simp(disch:=omega)only[go_sem,id,qY,List.flatMap_nil,mcn]
 ·have h0:=qNz (tag:=tag) (fs:=fs) (k:=k);by_cases hlt:k<fs.length
  ·have h1:=qNz (tag:=tag) (fs:=fs) (k:=k+1);rw[qG4 hlt,List.length_append,List.length_append] at h1;have h2:(zPc (fs.getD k []).length).length=4:=rfl;simp(disch:=omega)only[go_sem];refine⟨hlt,qK.rd (fun _=>32848) ?_ ?_ rfl⟩;all_goals simp(disch:=omega)only[go_sem,qG4,zPc]
   simp only[List.append_assoc,List.cons_append,List.nil_append]
  ·have e:k=fs.length:=oM;subst e;simp(disch:=omega)only[go_sem,List.take_length]
theorem zE5 (a b:List UInt8)(ha:a.length<1000000000)(hb:b.length<1000000000):qD6.1.wp tab gl (qE 0 [.t (.sl (a.map qA)),.t (.sl (b.map qA))]) (qE 0 []) (zA [(4,none)] 0 (fun r o=>r = .t (.bool (decide (a=b)))∧o=[])):=by
 by_cases hl:a.length=b.length
 ·simp(disch:=omega)only[go_sem,qD6];refine qPz a.length (fun i=>a.take i=b.take i) (fun k=>[(5,.t (.int .i64 k)),(0,.t (.sl (a.map qA))),(1,.t (.sl (b.map qA)))]) (fun _=>[]) rfl ?_ (fun k hk hP=>?_)
  ·refine qK.rd id ?_ ?_ rfl;all_goals simp(disch:=omega)only[go_sem,id]
  ·by_cases hlt:k<a.length
   ·by_cases he:a.getD k 0=b.getD k 0
    ·simp(disch:=omega)only[go_sem,he];refine⟨rfl,hlt,?_,qK.rd id ?_ ?_ rfl⟩
     ·rw[qF5 (d:=0) hlt,qF5 (d:=0) oM,hP,he]
     all_goals simp(disch:=omega)only[go_sem,id]
    ·have hne : ¬ a=b:=fun h=>he (by rw[h])
     simp(disch:=omega)only[go_sem,he,hne];rfl
   ·have e:k=a.length:=oM;subst e;rw[List.take_length,hl,List.take_length] at hP;simp(disch:=omega)only[go_sem,hP]
 ·have hne : ¬ a=b:=fun h=>hl (by rw[h])
  simp(disch:=omega)only[go_sem,qD6,hne]
def qPm:Ct where
 α:=List UInt8×List UInt8
 aS x:=[.t (.sl (x.1.map qA)),.t (.sl (x.2.map qA))]
 ins _:=[]
 pre x:=x.1.length<1000000000∧x.2.length<1000000000
 r x:= .t (.bool (decide (x.1=x.2)))
 outs _:=[]
 inj:=by
  rintro⟨a,b⟩ ⟨c,d⟩ h _;simp[jC] at h;obtain⟨rfl,rfl⟩:=h;exact⟨rfl,rfl⟩
theorem zNv {a b:List UInt8}(h:a.length<1000000000∧b.length<1000000000):qPm.fs [.t (.sl (a.map qA)),.t (.sl (b.map qA))] []=some (.t (.bool (decide (a=b))),[]):=qPm.eq (a,b) h
def zV6 (l:List (List UInt8)):Prop:=l.length<1000000000 ∧ ∀ x∈l,x.length<1000000000
theorem qYg {l:List (List UInt8)}(h:zV6 l)(i:Nat):(l.getD i []).length<1000000000:=by
 by_cases hi:i<l.length
 ·have:l.getD i []=l[i]:=by simp[List.getD,hi]
  rw[this];exact h.2 _ (List.getElem_mem hi)
 ·simp[List.getD,List.getElem?_eq_none (Nat.le_of_not_lt hi)]
def qEa:Ct where
 α:=Nat×List (List UInt8)
 aS x:=[.t (.int .i64 x.1),.t (.sl (x.2.map bsT))]
 ins _:=[]
 pre x:=x.1<256∧(qY x.1 x.2).length<1000000000
 r x:= .sl 0 0 (qY x.1 x.2).length
 outs x:=[.live 1 (((qY x.1 x.2).map qA).map V.t) true false]
 inj:=by
  rintro⟨a,b⟩ ⟨c,d⟩ h _;simp[qBs,Int.natCast_inj] at h;obtain⟨rfl,rfl⟩:=h;exact⟨rfl,rfl⟩
theorem qSg {t:Nat}{fs:List (List UInt8)}(h:t<256∧(qY t fs).length<1000000000):qEa.fs [.t (.int .i64 t),.t (.sl (fs.map bsT))] []=some (.sl 0 0 (qY t fs).length,[.live 1 (((qY t fs).map qA).map V.t) true false]):=qEa.eq (t,fs) h
def qCu (t:Nat)(fs:List (List UInt8)):List UInt8:=jQ (qY t fs)
def qDq:Ct where
 α:=Nat×List UInt8
 aS x:=[.t (.int .i64 x.1),.t (.sl (x.2.map qA))]
 ins _:=[]
 pre x:=x.1<2∧x.2.length<1000000000
 r x:= .sl 0 0 (szA x.1)
 outs x:=[.live 1 (((jA8 x.1 x.2).map qA).map V.t) true false]
 inj:=by
  rintro⟨a,b⟩ ⟨c,d⟩ h _;simp[jC,Int.natCast_inj] at h;obtain⟨rfl,rfl⟩:=h;exact⟨rfl,rfl⟩
theorem zI {bs:List UInt8}(h:bs.length<1000000000):qDq.fs [.t (.int .i64 0),.t (.sl (bs.map qA))] []=some (.sl 0 0 20,[.live 1 (((zC1 bs).map qA).map V.t) true false]):=qDq.eq (0,bs) ⟨sM,h⟩
theorem zC {bs:List UInt8}(h:bs.length<1000000000):qDq.fs [.t (.int .i64 1),.t (.sl (bs.map qA))] []=some (.sl 0 0 32,[.live 1 (((jQ bs).map qA).map V.t) true false]):=qDq.eq (1,bs) ⟨sM,h⟩
theorem qZv (h1:LkC tab 127 qEa)(h2:LkC tab 125 qDq)(t:Nat)(fs:List (List UInt8))(ht:t<256)(hb:(qY t fs).length<1000000000) :
  qEp.1.wp tab gl (qE 0 [.t (.int .i64 t),.t (.sl (fs.map bsT))]) (qE 0 []) (kN [] [(4,none)] 0 (fun r o=>r = .sl 0 0 32∧o=[.live 1 (((qCu t fs).map qA).map V.t) true false])):=by
 simp(disch:=omega)only[go_sem,qEp,h1,h2,qSg,zC,qCu]
theorem zE4 (h1:LkC tab 42 qEa)(h2:tab.look 41=some (zAq 32 jQ).fs)(t:Nat)(fs:List (List UInt8))(ht:t<256)(hb:(qY t fs).length<1000000000) :
  qH0.1.wp tab gl (qE 0 [.t (.int .i64 t),.t (.sl (fs.map bsT))]) (qE 0 []) (kN [] [(4,none)] 0 (fun r o=>r = .sl 0 0 32∧o=[.live 1 (((qCu t fs).map qA).map V.t) true false])):=by
 simp(disch:=omega)only[go_sem,qH0,h1,h2,qSg,zWs,qCu]
theorem zCi (h1:LkC tab 163 qQ1)(h2:tab.look 164=some (xL 5 qHq).fs)(h3:LkC tab 165 qBp)(h4:tab.look 166=some (xL 8 wQ).fs)(a:Nat)(ha:a<2)(bs:List UInt8)(hb:bs.length<1000000000) :
  kJ.1.wp tab gl (qE 0 [.t (.int .i64 a),.t (.sl (bs.map qA))]) (qE 0 []) (kN [] [(4,none)] 0 (fun r o=>r = .sl 0 0 (szA a)∧o=[.live 1 (((jA8 a bs).map qA).map V.t) true false])):=by
 rcases (show a=0∨a=1 by omega) with rfl | rfl
 ·exact qWm tab gl h1 h3 h2 bs hb
 ·exact qR4 tab gl h1 h3 h4 bs hb
def m64 (n:Int):Nat:=(n%18446744073709551616).toNat
def beI (size:Nat)(n:Int)(k:Nat):List UInt8:=(List.range k).map fun i=>UInt8.ofNat (m64 n/2^(8*(size-1-i)))
theorem zFu {size:Nat}{n:Int}:beI size n 0=[]:=rfl
theorem qPh {size:Nat}{n:Int}{k:Nat}:(beI size n k).length=k:=by simp[beI]
theorem qXz {size:Nat}{n:Int}{k:Nat}:beI size n (k+1)=beI size n k++[UInt8.ofNat (m64 n/2^(8*(size-1-k)))]:=by simp[beI,List.range_succ]
theorem zGu {n:Int}:IntKind.u64.wrap n=(m64 n:Int):=by rw[qSt,m64];omega
theorem zFf (b:List UInt8)(size:Nat)(n:Int)(hb:b.length<1000000000)(hs:1≤size∧size≤8):qIa.1.wp tab gl (qE 0 [.t (.sl (b.map qA)),.t (.int .i64 size),.t (.int .i64 n)]) (qE 0 []) (kN [] [(6,none)] 0 (fun r o=>r = .sl 0 0 (b.length+size)∧o=[.live 1 (((b++beI size n size).map qA).map V.t) true false])):=by
 have hw:=zGu (n:=n);simp(disch:=omega)only[go_sem,qIa];refine qB size (fun k=>[(2,.t (.int .i64 n)),(7,.sl 8208 0 (b.length+k)),(8,.t (.int .i64 ((size:Int)-1-k)))]) (fun k=>[(8208,.live 1 (((b++beI size n k).map qA).map V.t) true false)]) ?_ (fun k hk=>?_)
 ·refine qK.rd id ?_ ?_ rfl;all_goals simp(disch:=omega)only[go_sem,id,zFu,List.append_nil]
  all_goals omega
 ·have hl:(beI size n k).length=k:=qPh;by_cases hlt:k<size
  ·simp(disch:=omega)only[go_sem,hl,hw];refine⟨hlt,qK.rd (fun _=>32912) ?_ ?_ rfl⟩;all_goals simp(disch:=omega)only[go_sem,qXz,List.append_assoc,Nat.add_assoc]
   all_goals first | omega | rfl
  ·have e:k=size:=oM;subst e;simp(disch:=omega)only[go_sem,hl]
theorem zFa (b:List UInt8)(size:Nat)(n:Int)(hb:b.length<1000000000)(hs:1≤size∧size≤8):qH4.1.wp tab gl (qE 0 [.t (.sl (b.map qA)),.t (.int .i64 size),.t (.int .i64 n)]) (qE 0 []) (kN [] [(6,none)] 0 (fun r o=>r = .sl 0 0 (b.length+size)∧o=[.live 1 (((b++beI size n size).map qA).map V.t) true false])):=by
 have hw:=zGu (n:=n);simp(disch:=omega)only[go_sem,qH4];refine qB size (fun k=>[(2,.t (.int .i64 n)),(7,.sl 8224 0 (b.length+k)),(8,.t (.int .i64 ((size:Int)-1-k)))]) (fun k=>[(8224,.live 1 (((b++beI size n k).map qA).map V.t) true false)]) ?_ (fun k hk=>?_)
 ·refine qK.rd id ?_ ?_ rfl;all_goals simp(disch:=omega)only[go_sem,id,zFu,List.append_nil]
  all_goals omega
 ·have hl:(beI size n k).length=k:=qPh;by_cases hlt:k<size
  ·simp(disch:=omega)only[go_sem,hl,hw];refine⟨hlt,qK.rd (fun _=>32912) ?_ ?_ rfl⟩;all_goals simp(disch:=omega)only[go_sem,qXz,List.append_assoc,Nat.add_assoc]
   all_goals first | omega | rfl
  ·have e:k=size:=oM;subst e;simp(disch:=omega)only[go_sem,hl]
abbrev Rd:=List UInt8×Nat×Int
def rdT (s:Rd):T:= .agg [bsT s.1,.int .i64 (s.2.1:Int),.int .i64 s.2.2]
def kH (s:Rd):Ob:= .live 3 [.t (rdT s)] true true
def qD2 (s:Rd):Prop:=s.2.1≤s.1.length∧s.1.length<1000000000
theorem zJw (b:List UInt8)(hb:b.length<1000000000):qK4.1.wp tab gl (qE 0 [.t (.sl (b.map qA))]) (qE 0 []) (kN [8208] [(2,none)] 0 (fun r o=>r = .ref 0 0 0∧o=[kH (b,0,0)])):=by
 simp(disch:=omega)only[go_sem,qK4];rfl
theorem zJu (b:List UInt8)(hb:b.length<1000000000):qKz.1.wp tab gl (qE 0 [.t (.sl (b.map qA))]) (qE 0 []) (kN [] [(2,none)] 0 (fun r o=>r = .ref 0 0 0∧o=[kH (b,0,0)])):=by
 simp(disch:=omega)only[go_sem,qKz];rfl
theorem zFh (s:Rd)(hs:qD2 s)(p n:Nat)(h:p+n≤s.1.length):jY.1.wp tab gl (qE 0 [.ref 0 0 0,.t (.int .i64 p),.t (.int .i64 n)]) (qE 0 [kH s]) (zA [(6,none),(7,none)] 1 (fun r o=>r = .tup [.t (.sl (((s.1.drop p).take n).map qA)),.t (.int .i64 0)]∧o=[kH s])):=by
 obtain⟨b,at_,e⟩:=s;simp only[qD2] at hs h ⊢;simp(disch:=omega)only[go_sem,jY,kH,rdT]
theorem zFg (s:Rd)(hs:qD2 s)(n:Int):xJ.1.wp tab gl (qE 0 [.ref 0 0 0,.t (.int .i64 n)]) (qE 0 [kH s]) (zA [] 1 (fun r o=>r = .tup []∧o=[kH (s.1,s.2.1,n)])):=by
 obtain⟨b,at_,e⟩:=s;simp(disch:=omega)only[go_sem,xJ,kH,rdT]
def zC0 (w:UInt8)(k:List UInt8):List UInt8:=(k++List.replicate (64-k.length) 0).map (· ^^^ w)
def zPj (k b:List UInt8):List UInt8:=jQ (zC0 92 k++jQ (zC0 54 k++b))
theorem qT6 {w:UInt8}{k:List UInt8}(h:k.length≤64):(zC0 w k).length=64:=by simp[zC0];omega
theorem zL5 {k b:List UInt8}:List.take 32 (zPj k b)=zPj k b:=List.take_of_length_le (by rw[zPj,qM];omega)
theorem qTt {k b:List UInt8}:(zPj k b).length=32:=qM
def xk (w:UInt8)(z:List UInt8)(k:Nat):List UInt8:=(z.take k).map (· ^^^ w)++z.drop k
theorem jUa {w:UInt8}{z:List UInt8}:xk w z 0=z:=by simp[xk]
theorem jUb {w:UInt8}{z:List UInt8}{n:Nat}(h:z.length=n):xk w z n=z.map (· ^^^ w):=by subst h;simp[xk]
theorem zO3 {w:UInt8}{z:List UInt8}{k:Nat}:(xk w z k).length=z.length:=by simp[xk];omega
theorem jI1 {w:UInt8}{z:List UInt8}{k:Nat}(h:k<z.length):(xk w z k).getD k 0=z.getD k 0:=by
 have hl:((z.take k).map (· ^^^ w)).length=k:=soM;rw[xk,List.getD_eq_getElem?_getD,List.getElem?_append_right oM,hl,Nat.sub_self,List.getElem?_drop,List.getD_eq_getElem?_getD];rfl
theorem jI2 {w:UInt8}{z:List UInt8}{k:Nat}(h:k<z.length):(xk w z k).set k (z.getD k 0 ^^^ w)=xk w z (k+1):=by
 have hl:((z.take k).map (· ^^^ w)).length=k:=soM;have hd:z.drop k=z.getD k 0::z.drop (k+1):=by
  rw[List.drop_eq_getElem_cons h];simp[List.getD,List.getElem?_eq_getElem h]
 rw[xk,xk,List.set_append_right _ _ oM,hl,Nat.sub_self,hd,List.set_cons_zero,qF5 (d:=0) h,List.map_append,List.append_assoc];rfl
theorem zE3 (w:UInt8)(key:List UInt8)(hk:key.length≤64) :
  qHz.1.wp tab gl (qE 0 [.t (qA w),.ref 0 0 0]) (qE 0 [.live 1 [.t (.sl (key.map qA))] true true]) (kN [] [(3,none)] 1 (fun r o=>r = .sl 1 0 64∧o=[.live 1 [.t (.sl (key.map qA))] true true,.live 1 (((zC0 w key).map qA).map V.t) true false])):=by
 simp(maxSteps:=9^9)(disch:=try exact dS)only[go_sem,qHz];have hz:(List.take 64 key++List.replicate (64-key.length) 0).length=64:=soM;have hp:zC0 w key=(List.take 64 key++List.replicate (64-key.length) 0).map (· ^^^ w):=by rw[zC0,List.take_of_length_le hk]
 rw[hp];generalize List.take 64 key++List.replicate (64-key.length) 0=z at *;refine qB 64 (fun k=>[(0,.t (qA w)),(4,.sl 8192 0 64),(10,.t (.int .i64 (k:Nat)))]) (fun k=>[(8192,.live 1 (((xk w z k).map qA).map V.t) true false),(0,.live 1 [.t (.sl (key.map qA))] true true)]) ?_ (fun k hk=>?_)
 ·refine qK.rd id ?_ ?_ rfl;all_goals simp(maxSteps:=9^9)(disch:=try exact dS)only[go_sem,id,jUa]
  all_goals rfl
 ·have hx:(xk w z k).length=64:=by rw[zO3,hz]
  by_cases hlt:k<64
  ·have hg:=jI1 (w:=w) (z:=z) (k:=k) oM;have hs:=jI2 (w:=w) (z:=z) (k:=k) oM;simp(maxSteps:=9^9)(disch:=try exact dS)only[go_sem,hx,hg,hs];refine⟨hlt,qK.rd id ?_ ?_ rfl⟩;all_goals simp(maxSteps:=9^9)(disch:=try exact dS)only[go_sem,id]
   all_goals first | omega | rfl
  ·have e:k=64:=oM;subst e;have hn:=jUb (w:=w) hz;have ht:List.take 64 z=z:=List.take_of_length_le oM;simp(maxSteps:=9^9)(disch:=try exact dS)only[go_sem,hn,hz,ht]
def qX6:Ct where
 α:=UInt8×List UInt8
 aS x:=[.t (qA x.1),.ref 0 0 0]
 ins x:=[.live 1 [.t (.sl (x.2.map qA))] true true]
 pre x:=x.2.length≤64
 r _:= .sl 1 0 64
 outs x:=[.live 1 [.t (.sl (x.2.map qA))] true true,.live 1 (((zC0 x.1 x.2).map qA).map V.t) true false]
 inj:=by
  rintro⟨a,b⟩ ⟨c,d⟩ h h2;simp only[List.cons.injEq,V.t.injEq,qNn,and_true,bsT,Ob.live.injEq,T.sl.injEq,jC,true_and] at h h2;subst h h2;exact⟨rfl,rfl⟩
theorem zMm {w:UInt8}{k:List UInt8}(h:k.length≤64):qX6.fs [.t (qA w),.ref 0 0 0] [.live 1 [.t (.sl (k.map qA))] true true]=some (.sl 1 0 64,[.live 1 [.t (.sl (k.map qA))] true true,.live 1 (((zC0 w k).map qA).map V.t) true false]):=qX6.eq (w,k) h
theorem zOy (h1:LkC tab 125 qDq)(h2:LkC tab 126 qX6)(key b:List UInt8)(hk:key.length≤64)(hb:b.length<500000000) :
  qPb.1.wp tab gl (qE 0 [.t (bsT key),.t (bsT b)]) (qE 0 []) (kN [] [(4,none)] 0 (fun r o=>r = .sl 0 0 32∧o=[.live 1 (((zPj key b).map qA).map V.t) true false])):=by
 have m1:=zMm (w:=54) hk;have m2:=zMm (w:=92) hk;have l1:=qT6 (w:=54) hk;have t1:List.take (64+b.length) (zC0 54 key++b)=zC0 54 key++b:=List.take_of_length_le (by simp[l1]);have l2:=qT6 (w:=92) hk;have t2 : ∀ x,List.take 32 (jQ x)=jQ x:=fun x=>List.take_of_length_le (by rw[qM];omega)
 have t3 : ∀ x,List.take 96 (zC0 92 key++jQ x)=zC0 92 key++jQ x:=fun x=>List.take_of_length_le (by rw[List.length_append,l2,qM];omega)
 have hl:(zC0 54 key++b).length=64+b.length:=by simp[l1]
 have hl2:(zC0 92 key++jQ (zC0 54 key++b)).length=96:=by rw[List.length_append,l2,qM]
 simp(maxSteps:=9^9)(disch:=try exact dS)only[go_sem,qPb,h1,h2,m1,m2,l1,l2,qM,hl,t1,t2,t3,zC,zPj]
def zF9:Ct where
 α:=List UInt8×List UInt8
 aS x:=[.t (.sl (x.1.map qA)),.t (.sl (x.2.map qA))]
 ins _:=[]
 pre x:=x.1.length≤64∧x.2.length<500000000
 r _:= .sl 0 0 32
 outs x:=[.live 1 (((zPj x.1 x.2).map qA).map V.t) true false]
 inj:=by
  rintro⟨a,b⟩ ⟨c,d⟩ h _;simp[jC] at h;obtain⟨rfl,rfl⟩:=h;exact⟨rfl,rfl⟩
theorem jE8 {k b:List UInt8}(h:k.length≤64∧b.length<500000000):zF9.fs [.t (.sl (k.map qA)),.t (.sl (b.map qA))] []=some (.sl 0 0 32,[.live 1 (((zPj k b).map qA).map V.t) true false]):=zF9.eq (k,b) h
def qMu (n:Nat):List UInt8:=[UInt8.ofNat (n/16777216),UInt8.ofNat (n/65536),UInt8.ofNat (n/256),UInt8.ofNat n]
theorem qEc {n:Nat}:(qMu n).length=4:=rfl
theorem zJs (n:Nat):qKx.1.wp tab gl (qE 0 [.t (.int .i64 n)]) (qE 0 []) (kN [] [(2,none)] 0 (fun r o=>r = .sl 0 0 4∧o=[.live 1 (((qMu n).map qA).map V.t) true true])):=by
 simp(maxSteps:=9^9)(disch:=try exact dS)only[go_sem,qKx,zOe,qMu,mcn]
def qX5:Ct where
 α:=Nat
 aS x:=[.t (.int .i64 x)]
 ins _:=[]
 pre _:=True
 r _:= .sl 0 0 4
 outs x:=[.live 1 (((qMu x).map qA).map V.t) true true]
 inj:=by
  intro a b h _;simp only[List.cons.injEq,V.t.injEq,T.int.injEq,true_and,and_true,Int.natCast_inj] at h;subst h;exact⟨rfl,rfl⟩
theorem zLv {n:Nat}:qX5.fs [.t (.int .i64 n)] []=some (.sl 0 0 4,[.live 1 (((qMu n).map qA).map V.t) true true]):=qX5.eq n trivial
theorem zC9 {nb id n:Nat}{a:List UInt8}:qBv nb [.sl id 0 n,.t (qKg a)]=Q.get id fun x=>match x with
  | .live z' es true full=>Q.assert (z'=1∧es.length=n∧qCn (n+a.length) 1∧100≤id) (.free nb (.ret (.sl nb 0 (n+a.length),[(id,.dead),(nb,.live 1 (es++(a.map qA).map V.t) true false)])))
  | x=> .fail:=by
 have e : ∀ st:ByteArray,st.size=a.length→(st.data.toList.map fun b=>V.t (qA b))=(a.map qA).map V.t→qBv nb [.sl id 0 n,.t (.str st)]=Q.get id fun x=>match x with
  | .live z' es true full=>Q.assert (z'=1∧es.length=n∧qCn (n+a.length) 1∧100≤id) (.free nb (.ret (.sl nb 0 (n+a.length),[(id,.dead),(nb,.live 1 (es++(a.map qA).map V.t) true false)])))
  | x=> .fail:=fun st h1 h2=>by
  simp only[qBv,h1,h2];congr 1
 exact e _ (by simp[ByteArray.size]) sM
attribute [go_sem ↓] zC9
def drT (label ctx:List UInt8)(n:Nat):List UInt8:=label++[0]++ctx++qMu (8*n)
def drR (key rest:List UInt8)(k:Nat):List UInt8:=(List.range k).flatMap fun i=>zPj key (qMu (i+1)++rest)
def drv (key label ctx:List UInt8)(n:Nat):List UInt8:=(drR key (drT label ctx n) ((n+31)/32)).take n
theorem qPp {key rest:List UInt8} : ∀ {k:Nat},(drR key rest k).length=32*k
 | 0=>rfl
 | k+1=>by
  have:=qPp (key:=key) (rest:=rest) (k:=k);simp only[drR] at this ⊢;rw[List.range_succ,List.flatMap_append,List.length_append,this];simp[qTt];omega
theorem zQs {key rest:List UInt8}{k:Nat}:drR key rest (k+1)=drR key rest k++zPj key (qMu (k+1)++rest):=by
 simp[drR,List.range_succ]
theorem wP {key label ctx:List UInt8}{n:Nat}:(drv key label ctx n).length=n:=by
 rw[drv,List.length_take,qPp];omega
theorem zCk (h1:LkC tab 101 qX5)(h2:LkC tab 102 zF9)(key label ctx:List UInt8)(n:Nat)(hk:key.length≤64)(hl:label.length<100000000)(hc:ctx.length<100000000)(hn:n≤1024) :
  qCq.1.wp tab gl (qE 0 [.t (.sl (key.map qA)),.t (qKg label),.t (.sl (ctx.map qA)),.t (.int .i64 n)]) (qE 0 []) (zA [(8,none)] 0 (fun r o=>r = .t (.sl ((drv key label ctx n).map qA))∧o=[])):=by
 rcases Nat.eq_zero_or_pos n with rfl | hn0
 ·rw[show drv key label ctx 0=[] from rfl];simp(maxSteps:=9^9)(disch:=try exact dS)only[go_sem,qCq]
 have t4:List.take 4 (qMu (8*n))=qMu (8*n):=rfl;have lD:(drT label ctx n).length=label.length+1+ctx.length+4:=by simp[drT,qMu];omega
 simp(maxSteps:=9^9)(disch:=try exact dS)only[go_sem,qCq,h1,h2,zLv,qEc,t4];have hD:label++[0]++ctx++qMu (8*n)=drT label ctx n:=rfl;rw[hD];generalize hr:drT label ctx n=rest at *;have hm:label.length+1+ctx.length+4<300000000:=oM;generalize label.length+1+ctx.length+4=m at *;refine qB ((n+31)/32) (fun k=>[(0,.t (.sl (key.map qA))),(3,.t (.int .i64 n)),(9,.sl 20544 0 m),(10,.sl 9000 0 (32*k)),(11,.t (.int .i64 ((k+1:Nat):Int)))]) (fun k=>[(9000,.live 1 (((drR key rest k).map qA).map V.t) true false),(20544,.live 1 ((rest.map qA).map V.t) true false)]) ?_ (fun k hk'=>?_)
 ·refine qK.cv0 (hv:=[(9000,.live 1 [] true false)]) (ho:=[(20544,.live 1 ((rest.map qA).map V.t) true false)]) id ?_ ?_ rfl rfl;all_goals simp(maxSteps:=9^9)(disch:=try exact dS)only[go_sem,id]
  all_goals rfl
 ·have hR:=qPp (key:=key) (rest:=rest) (k:=k);by_cases hlt:32*k<n
  ·have t5:List.take m rest=rest:=List.take_of_length_le oM;have t6:List.take (4+m) (qMu (k+1)++rest)=qMu (k+1)++rest:=List.take_of_length_le (by rw[List.length_append,qEc];omega);have hM:=jE8 (k:=key) (b:=qMu (k+1)++rest) ⟨hk,by rw[List.length_append,qEc];omega⟩;simp(maxSteps:=9^9)(disch:=try exact dS)only[go_sem,h1,h2,zLv,qEc,hR,t5,t6,lD,hM,qTt,zL5];refine⟨oM,qK.rd (fun j=>if j=9000 then 41072 else j) ?_ ?_ rfl⟩;all_goals simp(maxSteps:=9^9)(disch:=try exact dS)only[go_sem,id,zQs]
   all_goals first | omega | rfl
  ·have e:k=(n+31)/32:=oM;subst e;simp(maxSteps:=9^9)(disch:=try exact dS)only[go_sem,hR,drv,hr]
def qTh:Ct where
 α:=List UInt8×List UInt8×List UInt8×Nat
 aS x:=[.t (.sl (x.1.map qA)),.t (qKg x.2.1),.t (.sl (x.2.2.1.map qA)),.t (.int .i64 x.2.2.2)]
 ins _:=[]
 pre x:=x.1.length≤64∧x.2.1.length<100000000∧x.2.2.1.length<100000000∧x.2.2.2≤1024
 r x:= .t (.sl ((drv x.1 x.2.1 x.2.2.1 x.2.2.2).map qA))
 outs _:=[]
 inj:=by
  rintro⟨a,b,c,d⟩ ⟨e,f,g,h⟩ hh _;simp only[List.cons.injEq,V.t.injEq,T.int.injEq,T.sl.injEq,true_and,and_true,jC,zHk,Int.natCast_inj] at hh;obtain⟨rfl,rfl,rfl,rfl⟩:=hh;exact⟨rfl,rfl⟩
theorem zGk {k l c:List UInt8}{n:Nat}(h:k.length≤64∧l.length<100000000∧c.length<100000000∧1≤n∧n≤1024):qTh.fs [.t (.sl (k.map qA)),.t (qKg l),.t (.sl (c.map qA)),.t (.int .i64 n)] []=some (.t (.sl ((drv k l c n).map qA)),[]):=qTh.eq (k,l,c,n) ⟨h.1,h.2.1,h.2.2.1,h.2.2.2.2⟩
end Go.Eng
end
