/- A part of an abstract machine, its walks, their tie. -/
import Derived.Test.YtlhjonbjbiafaaaGreatDoorU16
import Derived.Test.YtlhjonbjbiafaaaGreatDoorU9
set_option linter.all false
section
set_option maxHeartbeats 64000000
set_option maxRecDepth 20000
namespace Go.Eng
variable (tab:Tab) (gl:Gl)
def qYo (n:Nat):Nat:=(119-n%64)%64
def beL (n k:Nat):List UInt8:=(List.range k).map fun i=>UInt8.ofNat (n/2^(56-8*i))
def wV (bs:List UInt8):List UInt8:=bs++[128]++List.replicate (qYo bs.length) 0++beL (bs.length*8) 8
theorem zGd {n:Nat}:beL n 0=[]:=rfl
theorem qFm {n k:Nat}:(beL n k).length=k:=by simp[beL]
theorem zGc {n k:Nat}:beL n (k+1)=beL n k++[UInt8.ofNat (n/2^(56-8*k))]:=by simp[beL,List.range_succ]
theorem zCo (bs:List UInt8)(hb:bs.length<1000000000):qF2.1.wp tab gl (qF 0 [.t (.sl (bs.map qA))]) (qF 0 []) (kU [] [(2,none)] 0 (fun r o=>r = .sl 0 0 (wV bs).length∧o=[.live 1 (((wV bs).map qA).map V.t) true false])):=by
 have hz:qYo bs.length=(119-bs.length%64)%64:=rfl;simp(disch:=omega)only[go_sem,qF2];refine qB (qYo bs.length) (fun k=>[(0,.t (.sl (bs.map qA))),(3,.sl 8304 0 (bs.length+1+k))]) (fun k=>[(8304,.live 1 (((bs++[128]++List.replicate k 0).map qA).map V.t) true false)]) ?_ (fun k hk=>?_)
 ·refine qJ.rd id ?_ ?_ rfl;all_goals simp(disch:=omega)only[go_sem,id]
 ·by_cases hlt:k<qYo bs.length
  ·simp(disch:=omega)only[go_sem];refine⟨hlt,qJ.rd (fun _=>16416) ?_ ?_ rfl⟩;all_goals simp(disch:=omega)only[go_sem,List.replicate_succ',List.append_assoc,Nat.add_assoc]
  ·have e:k=qYo bs.length:=oM;subst e;simp(disch:=omega)only[go_sem];refine qB 8 (fun k=>[(3,.sl 8304 0 (bs.length+1+qYo bs.length+k)),(4,V.t (T.int IntKind.u64 (bs.length*8:Nat))),(5,.t (.int .i64 (56-((8*k:Nat):Int))))]) (fun k=>[(8304,.live 1 (((bs++[128]++List.replicate (qYo bs.length) 0++beL (bs.length*8) k).map qA).map V.t) true false)]) ?_ (fun k hk=>?_)
   ·refine qJ.rd id ?_ ?_ rfl;all_goals simp(disch:=omega)only[go_sem,id,zGd,List.append_nil]
   ·by_cases hlt:k<8
    ·simp(disch:=omega)only[go_sem,qFm];refine⟨hlt,qJ.rd (fun _=>36976) ?_ ?_ rfl⟩;all_goals simp(disch:=omega)only[go_sem,zGc,List.append_assoc,Nat.add_assoc]
     omega
    ·have e:k=8:=oM;subst e;simp(disch:=omega)only[go_sem,qFm,wV]
theorem qZw (a:Int):kZ.1.wp tab gl (qF 0 [.t (.int .i64 a)]) (qF 0 []) (zD [(2,none)] 0 (fun r o=>r = .t (.int .i64 (if a=0 then 20 else if a=1 then 32 else 0))∧o=[])):=by
 by_cases h0:a=0
 ·subst h0;simp(disch:=omega)only[go_sem,kZ]
 ·by_cases h1:a=1
  ·subst h1;simp(disch:=omega)only[go_sem,kZ]
  ·simp(disch:=omega)only[go_sem,kZ,h0,h1]
theorem zFl (a:Int):qBx.1.wp tab gl (qF 0 [.t (.int .i64 a)]) (qF 0 []) (zD [(2,none)] 0 (fun r o=>r = .t (.int .i64 (if a=0 then 20 else if a=1 then 32 else 0))∧o=[])):=by
 by_cases h0:a=0
 ·subst h0;simp(disch:=omega)only[go_sem,qBx]
 ·by_cases h1:a=1
  ·subst h1;simp(disch:=omega)only[go_sem,qBx]
  ·simp(disch:=omega)only[go_sem,qBx,h0,h1]
def qW5 (bs:List UInt8)(i:Nat):UInt32:=(bs.getD (4*i) 0).toUInt32 <<< 24 ||| (bs.getD (4*i+1) 0).toUInt32 <<< 16 ||| (bs.getD (4*i+2) 0).toUInt32 <<< 8 ||| (bs.getD (4*i+3) 0).toUInt32
theorem qZx (bs:List UInt8)(i:Nat)(hi:4*i+3<bs.length)(hb:bs.length<1000000000):qEq.1.wp tab gl (qF 0 [.t (.sl (bs.map qA)),.t (.int .i64 i)]) (qF 0 []) (zD [(4,none)] 0 (fun r o=>r = .t (zU (qW5 bs i))∧o=[])):=by
 simp(disch:=omega)only[go_sem,qEq];exact⟨rfl,rfl⟩
theorem zFp (bs:List UInt8)(i:Nat)(hi:4*i+3<bs.length)(hb:bs.length<1000000000):qHy.1.wp tab gl (qF 0 [.t (.sl (bs.map qA)),.t (.int .i64 i)]) (qF 0 []) (zD [(4,none)] 0 (fun r o=>r = .t (zU (qW5 bs i))∧o=[])):=by
 simp(disch:=omega)only[go_sem,qHy];exact⟨rfl,rfl⟩
def qR2 (x:UInt32)(n:Nat):UInt32:=x >>> UInt32.ofNat n ||| x <<< UInt32.ofNat (32-n)
theorem zFo (x:UInt32)(n:Nat)(h:0<n∧n<32):qHx.1.wp tab gl (qF 0 [.t (zU x),.t (.int .u64 n)]) (qF 0 []) (zD [(4,none)] 0 (fun r o=>r = .t (zU (qR2 x n))∧o=[])):=by
 simp(disch:=omega)only[go_sem,qHx];rfl
theorem zFn (x:UInt32)(n:Nat)(h:0<n∧n<32):qHw.1.wp tab gl (qF 0 [.t (zU x),.t (.int .u64 n)]) (qF 0 []) (zD [(4,none)] 0 (fun r o=>r = .t (zU (qR2 x (32-n)))∧o=[])):=by
 simp(disch:=omega)only[go_sem,qHw];rw[qR2,UInt32.or_comm,show 32-(32-n)=n by omega]
theorem qMq (x:UInt32)(n:Int)(h : -32<n∧n<32∧n≠0):kV.1.wp tab gl (qF 0 [.t (zU x),.t (.int .i64 n)]) (qF 0 []) (zD [(4,none)] 0 (fun r o=>r = .t (zU (qR2 x ((32-n)%32).toNat))∧o=[])):=by
 have e:IntKind.u64.wrap n%32=((32-(32-n).toNat%32:Nat):Int):=by rw[qSf];omega
 have e2:((32-n)%32).toNat=(32-n).toNat%32:=oM;have e3:32-(32-(32-n).toNat%32)=(32-n).toNat%32:=oM;simp(disch:=omega)only[go_sem,kV,e,e2,e3];rw[qR2,UInt32.or_comm]
def qUc (w:UInt32):List UInt8:=[(w >>> 24).toUInt8,(w >>> 16).toUInt8,(w >>> 8).toUInt8,w.toUInt8]
def xZ (ws:List UInt32):List UInt8:=ws.flatMap qUc
theorem qFg (ws:List UInt32):(xZ ws).length=4*ws.length:=by
 induction ws with
 | nil=>rfl
 | cons w r ih=>simp only[xZ,List.flatMap_cons,List.length_append] at *;rw[ih];simp[qUc];omega
theorem qQs {ws:List UInt32}{k:Nat}(h:k<ws.length):xZ (ws.take (k+1))=xZ (ws.take k)++qUc (ws.getD k 0):=by
 rw[qDz (d:=0) h];simp[xZ]
theorem qUx (ws:List UInt32)(hb:ws.length<1000000000):qCc.1.wp tab gl (qF 0 [.t (.sl (ws.map zU))]) (qF 0 []) (kU [] [(2,none)] 0 (fun r o=>r = .sl 0 0 (4*ws.length)∧o=[.live 1 (((xZ ws).map qA).map V.t) true false])):=by
 simp(disch:=omega)only[go_sem,↓reduceIte,Nat.reduceAdd,Int.reduceLE,reduceCtorEq,qCc];refine qB ws.length (fun k=>[(3,.sl 8240 0 (4*k)),(10,.t (.sl (ws.map zU))),(11,.t (.int .i64 ws.length)),(12,.t (.int .i64 k))]) (fun k=>[(8240,.live 1 (((xZ (ws.take k)).map qA).map V.t) true false)]) ?_ (fun k hk=>?_)
 ·refine qJ.rd id ?_ ?_ rfl;all_goals simp(disch:=omega)only[go_sem,↓reduceIte,Nat.reduceAdd,Nat.reduceEqDiff,Nat.reduceMul,id,xZ,List.flatMap_nil,List.map_nil]
 ·have hl:(xZ (ws.take k)).length=4*k:=by rw[qFg,List.length_take];omega
  by_cases hlt:k<ws.length
  ·simp(disch:=omega)only[go_sem,↓reduceIte,Nat.reduceAdd,Nat.reduceEqDiff,Nat.reduceLT,Nat.reduceLeDiff,hl];refine⟨hlt,qJ.rd (fun _=>24784) ?_ ?_ rfl⟩;all_goals simp(disch:=omega)only[go_sem,↓reduceIte,Nat.reduceAdd,Nat.reduceEqDiff,qQs,qUc]
   ·omega
   ·simp only[List.append_assoc,List.cons_append,List.nil_append];rfl
  ·have e:k=ws.length:=oM;subst e;rw[List.take_length] at hl;simp(disch:=omega)only[go_sem,↓reduceIte,Nat.reduceAdd,Nat.reduceEqDiff,hl,List.take_length]
def jR8 (x:UInt32):UInt32:=qR2 x 7 ^^^ qR2 x 18 ^^^ x >>> 3
def jR9 (x:UInt32):UInt32:=qR2 x 17 ^^^ qR2 x 19 ^^^ x >>> 10
def qBo (bs:List UInt8):Nat→List UInt32
 | 0=>List.replicate 64 0
 | t+1=>let w:=qBo bs t
  w.set t (if t<16 then qW5 bs t else jR9 (w.getD (t-2) 0)+w.getD (t-7) 0+jR8 (w.getD (t-15) 0)+w.getD (t-16) 0)
theorem qQq {bs:List UInt8}{t:Nat}:(qBo bs t).length=64:=by
 induction t with
 | zero=>rfl
 | succ t ih=>simp only[qBo,List.length_set,ih]
def qGf:Ct where
 α:=List UInt8×Nat
 aS x:=[.t (.sl (x.1.map qA)),.t (.int .i64 x.2)]
 ins _:=[]
 pre x:=4*x.2+3<x.1.length∧x.1.length<1000000000
 r x:= .t (zU (qW5 x.1 x.2))
 outs _:=[]
 inj:=by
  rintro⟨a,b⟩ ⟨c,d⟩ h _;simp[jB,Int.natCast_inj] at h;obtain⟨rfl,rfl⟩:=h;exact⟨rfl,rfl⟩
theorem qZ7 {bs:List UInt8}{i:Nat}(h:4*i+3<bs.length∧bs.length<1000000000):qGf.fs [.t (.sl (bs.map qA)),.t (.int .i64 i)] []=some (.t (zU (qW5 bs i)),[]):=qGf.eq (bs,i) h
def qO8:Ct where
 α:=UInt32×Int
 aS x:=[.t (zU x.1),.t (.int .i64 x.2)]
 ins _:=[]
 pre x := -32<x.2∧x.2<32∧x.2≠0
 r x:= .t (zU (qR2 x.1 ((32-x.2)%32).toNat))
 outs _:=[]
 inj:=by
  rintro⟨a,b⟩ ⟨c,d⟩ h _;simp[qZb] at h;obtain⟨rfl,rfl⟩:=h;exact⟨rfl,rfl⟩
theorem qMn {x:UInt32}{i:Int}(h : -32<i∧i<32∧i≠0):qO8.fs [.t (zU x),.t (.int .i64 i)] []=some (.t (zU (qR2 x ((32-i)%32).toNat)),[]):=qO8.eq (x,i) h
def zAd:List UInt32:=[0x428a2f98,0x71374491,0xb5c0fbcf,0xe9b5dba5,0x3956c25b,0x59f111f1,0x923f82a4,0xab1c5ed5,0xd807aa98,0x12835b01,0x243185be,0x550c7dc3,0x72be5d74,0x80deb1fe,0x9bdc06a7,0xc19bf174,0xe49b69c1,0xefbe4786,0x0fc19dc6,0x240ca1cc,0x2de92c6f,0x4a7484aa,0x5cb0a9dc,0x76f988da,0x983e5152,0xa831c66d,0xb00327c8,0xbf597fc7,0xc6e00bf3,0xd5a79147,0x06ca6351,0x14292967,0x27b70a85,0x2e1b2138,0x4d2c6dfc,0x53380d13,0x650a7354,0x766a0abb,0x81c2c92e,0x92722c85,0xa2bfe8a1,0xa81a664b,0xc24b8b70,0xc76c51a3,0xd192e819,0xd6990624,0xf40e3585,0x106aa070,0x19a4c116,0x1e376c08,0x2748774c,0x34b0bcb5,0x391c0cb3,0x4ed8aa4a,0x5b9cca4f,0x682e6ff3,0x748f82ee,0x78a5636f,0x84c87814,0x8cc70208,0x90befffa,0xa4506ceb,0xbef9a3f7,0xc67178f2]
def rnd (k w:UInt32)(s:List UInt32):List UInt32:=
 let a:=s.getD 0 0
 let e:=s.getD 4 0
 let t1:=s.getD 7 0+(qR2 e 6 ^^^ qR2 e 11 ^^^ qR2 e 25)+((e &&& s.getD 5 0) ^^^ (~~~e &&& s.getD 6 0))+k+w
 let t2:=(qR2 a 2 ^^^ qR2 a 13 ^^^ qR2 a 22)+((a &&& s.getD 1 0) ^^^ (a &&& s.getD 2 0) ^^^ (s.getD 1 0 &&& s.getD 2 0))
 [t1+t2,s.getD 0 0,s.getD 1 0,s.getD 2 0,s.getD 3 0+t1,s.getD 4 0,s.getD 5 0,s.getD 6 0]
def qA8 (ws hs:List UInt32):Nat→List UInt32
 | 0=>hs
 | t+1=>rnd (zAd.getD t 0) (ws.getD t 0) (qA8 ws hs t)
theorem qNv {ws hs:List UInt32}{t:Nat}(h:hs.length=8):(qA8 ws hs t).length=8:=by
 cases t with
 | zero=>exact h
 | succ t=>rfl
def zH2 (hs s:List UInt32):Nat→List UInt32
 | 0=>hs
 | i+1=>(zH2 hs s i).set i ((zH2 hs s i).getD i 0+s.getD i 0)
theorem qKw {hs s:List UInt32}{i:Nat}:(zH2 hs s i).length=hs.length:=by
 induction i with
 | zero=>rfl
 | succ i ih=>simp only[zH2,List.length_set,ih]
def kC (hs:List UInt32)(bs:List UInt8):List UInt32:=zH2 hs (qA8 (qBo bs 64) hs 64) 8
theorem qJ9 (h1:LkC tab 237 qGf)(h2:LkC tab 238 qO8)(hg:gl 2=some (zAd.map zU))(bs:List UInt8)(hs:List UInt32)(hb:bs.length=64)(hh:hs.length=8) :
  kK.1.wp tab gl (qF 0 [.ref 0 0 0,.t (.sl (bs.map qA))]) (qF 0 [.live 1 ((hs.map zU).map V.t) true true]) (zD [] 1 (fun r o=>r = .tup []∧o=[.live 1 (((kC hs bs).map zU).map V.t) true true])):=by
 have ht:hs.take 8=hs:=List.take_of_length_le oM;simp(disch:=omega)only[go_sem,kK];refine qB 64 (fun k=>[(17,.t (.int .i64 k)),(4,.ref 4096 0 0),(0,.ref 0 0 0),(1,V.t (T.sl (List.map qA bs)))]) (fun k=>[(4096,.live 1 (((qBo bs k).map zU).map V.t) true true),(0,.live 1 ((hs.map zU).map V.t) true true)]) ?_ (fun k hk=>?_)
 ·refine qJ.rd id ?_ ?_ rfl;all_goals simp(disch:=omega)only[go_sem,id,qBo]
 ·have hl:(qBo bs k).length=64:=qQq;by_cases hlt:k<64
  ·by_cases h16:k<16
   ·simp(disch:=omega)only[go_sem,h1,h2,qZ7,hl];refine⟨hlt,qJ.rd id ?_ ?_ rfl⟩;all_goals simp(disch:=omega)only[go_sem,id,qBo,if_pos h16]
   ·simp(disch:=omega)only[go_sem,h1,h2,qMn,hl];refine⟨rfl,rfl,hlt,qJ.rd id ?_ ?_ rfl⟩;all_goals simp(disch:=omega)only[go_sem,id,qBo,if_neg h16]
    rfl
  ·have e:k=64:=oM;subst e;simp(disch:=omega)only[go_sem,ht,hh];refine qB 64 (fun k=>[(70,.t (.int .i64 k)),(4,.ref 4096 0 0),(0,.ref 0 0 0),(10,.ref 49200 0 0)]) (fun k=>[(49200,.live 1 (((qA8 (qBo bs 64) hs k).map zU).map V.t) true true),(4096,.live 1 (((qBo bs 64).map zU).map V.t) true true),(0,.live 1 ((hs.map zU).map V.t) true true)]) ?_ (fun k hk=>?_)
   ·refine qJ.rd id ?_ ?_ rfl;all_goals simp(disch:=omega)only[go_sem,id,qA8]
   ·have hl2:(qA8 (qBo bs 64) hs k).length=8:=qNv hh;by_cases hlt:k<64
    ·have hk2:zAd.length=64:=rfl;simp(maxSteps:=9^9)(disch:=try exact dS)only[go_sem,h1,h2,qMn,hl,hl2,hg,hk2];repeat refine And.intro rfl ?_
     refine⟨hlt,qJ.rd id ?_ ?_ rfl⟩;all_goals simp(disch:=omega)only[go_sem,id,qA8,rnd,List.drop_eq_nil_of_le (show (qA8 (qBo bs 64) hs k).length≤8 by omega)]
    ·have e:k=64:=oM;subst e;simp(disch:=omega)only[go_sem];refine qB 8 (fun k=>[(152,.t (.int .i64 k)),(0,.ref 0 0 0),(10,.ref 49200 0 0)]) (fun k=>[(49200,.live 1 (((qA8 (qBo bs 64) hs 64).map zU).map V.t) true true),(0,.live 1 (((zH2 hs (qA8 (qBo bs 64) hs 64) k).map zU).map V.t) true true)]) ?_ (fun k hk=>?_)
     ·refine qJ.rd id ?_ ?_ rfl;all_goals simp(disch:=omega)only[go_sem,id,zH2]
     ·have hl3:(zH2 hs (qA8 (qBo bs 64) hs 64) k).length=8:=by rw[qKw,hh]
      by_cases hlt:k<8
      ·simp(disch:=omega)only[go_sem,hl2,hl3];refine⟨rfl,hlt,qJ.rd id ?_ ?_ rfl⟩;all_goals simp(disch:=omega)only[go_sem,id,zH2]
      ·have e:k=8:=oM;subst e;simp(disch:=omega)only[go_sem,kC]
theorem qDv (bs:List UInt8):(wV bs).length=bs.length+1+qYo bs.length+8:=by
 simp only[wV,List.length_append,List.length_replicate,qFm,List.length_cons,List.length_nil]
theorem qR0 (bs:List UInt8):(wV bs).length%64=0:=by
 rw[qDv,qYo];omega
def hN (comp:List UInt32→List UInt8→List UInt32)(iv:List UInt32)(p:List UInt8):Nat→List UInt32
 | 0=>iv
 | k+1=>comp (hN comp iv p k) ((p.drop (64*k)).take 64)
def zWm (comp:List UInt32→List UInt8→List UInt32)(iv:List UInt32)(bs:List UInt8):List UInt8:=xZ (hN comp iv (wV bs) ((wV bs).length/64))
def qPi:List UInt32:=[0x6a09e667,0xbb67ae85,0x3c6ef372,0xa54ff53a,0x510e527f,0x9b05688c,0x1f83d9ab,0x5be0cd19]
def jC (bs:List UInt8):List UInt8:=zWm kC qPi bs
theorem zMd {comp:List UInt32→List UInt8→List UInt32}{iv:List UInt32}{p:List UInt8}{n:Nat}(hc : ∀ h b,(comp h b).length=h.length)(hi:iv.length=n){k:Nat}:(hN comp iv p k).length=n:=by
 induction k with
 | zero=>exact hi
 | succ k ih=>rw[hN,hc,ih]
theorem qKd (h:List UInt32)(b:List UInt8):(kC h b).length=h.length:=qKw
theorem qTh {p:List UInt8}{k:Nat}:(hN kC qPi p k).length=8:=zMd qKd rfl
def qM5:Ct where
 α:=List UInt8
 aS x:=[.t (.sl (x.map qA))]
 ins _:=[]
 pre x:=x.length<1000000000
 r x:= .sl 0 0 (wV x).length
 outs x:=[.live 1 (((wV x).map qA).map V.t) true false]
 inj:=by
  intro a b h _;simp[jB] at h;subst h;exact⟨rfl,rfl⟩
theorem zHc {bs:List UInt8}(h:bs.length<1000000000):qM5.fs [.t (.sl (bs.map qA))] []=some (.sl 0 0 (wV bs).length,[.live 1 (((wV bs).map qA).map V.t) true false]):=qM5.eq bs h
def qAx:Ct where
 α:=List UInt32
 aS x:=[.t (.sl (x.map zU))]
 ins _:=[]
 pre x:=x.length<1000000000
 r x:= .sl 0 0 (4*x.length)
 outs x:=[.live 1 (((xZ x).map qA).map V.t) true false]
 inj:=by
  intro a b h _;simp[zG4] at h;subst h;exact⟨rfl,rfl⟩
theorem qN7 {ws:List UInt32}(h:ws.length<1000000000):qAx.fs [.t (.sl (ws.map zU))] []=some (.sl 0 0 (4*ws.length),[.live 1 (((xZ ws).map qA).map V.t) true false]):=qAx.eq ws h
def xU (n:Nat)(comp:List UInt32→List UInt8→List UInt32):Ct where
 α:=List UInt32×List UInt8
 aS x:=[.ref 0 0 0,.t (.sl (x.2.map qA))]
 ins x:=[.live 1 ((x.1.map zU).map V.t) true true]
 pre x:=x.2.length=64∧x.1.length=n
 r _:= .tup []
 outs x:=[.live 1 (((comp x.1 x.2).map zU).map V.t) true true]
 inj:=by
  rintro⟨a,b⟩ ⟨c,d⟩ h1 h2;simp[jB] at h1;simp only[Ob.live.injEq,zR0,zG4,List.cons.injEq] at h2;obtain⟨⟨_,rfl,_,_⟩,_⟩:=h2;subst h1;exact⟨rfl,rfl⟩
theorem zK2 {n:Nat}{comp:List UInt32→List UInt8→List UInt32}{hs:List UInt32}{bs:List UInt8}(h:bs.length=64∧hs.length=n):(xU n comp).fs [.ref 0 0 0,.t (.sl (bs.map qA))] [.live 1 ((hs.map zU).map V.t) true true] =
  some (.tup [],[.live 1 (((comp hs bs).map zU).map V.t) true true]):=(xU n comp).eq (hs,bs) h
theorem qRg (h1:LkC tab 170 qM5)(h3:LkC tab 172 qAx)(h4:tab.look 173=some (xU 8 kC).fs)(bs:List UInt8)(hb:bs.length<1000000000) :
  kR.1.wp tab gl (qF 0 [.t (.int .i64 1),.t (.sl (bs.map qA))]) (qF 0 []) (kU [] [(4,none)] 0 (fun r o=>r = .sl 0 0 32∧o=[.live 1 (((jC bs).map qA).map V.t) true false])):=by
 have hp:=qDv bs;have hm:=qR0 bs;simp(disch:=omega)only[go_sem,kR,h1,zHc];refine qB ((wV bs).length/64) (fun k=>[(8,V.sl 49168 (64*k) ((wV bs).length-64*k)),(7,V.ref 45072 0 0)]) (fun k=>[(49168,.live 1 (((wV bs).map qA).map V.t) true false),(45072,.live 1 (((hN kC qPi (wV bs) k).map zU).map V.t) true true)]) ?_ (fun k hk=>?_)
 ·refine qJ.rd id ?_ ?_ rfl;all_goals simp(disch:=omega)only[go_sem,id,hN,qPi,Nat.mul_zero,mcn]
 ·have hl:(hN kC qPi (wV bs) k).length=8:=qTh;by_cases hlt:k<(wV bs).length/64
  ·simp(maxSteps:=9^9)(disch:=try exact dS)only[go_sem,h4,zK2,hl];refine⟨hlt,qJ.rd id ?_ ?_ rfl⟩;all_goals simp(maxSteps:=9^9)(disch:=try exact dS)only[go_sem,id,hN]
   omega
  ·have e:k=(wV bs).length/64:=oM;subst e;have ht:List.take 8 (hN kC qPi (wV bs) ((wV bs).length/64))=hN kC qPi (wV bs) ((wV bs).length/64):=List.take_of_length_le oM;simp(disch:=omega)only[go_sem,h3,qN7,hl,ht,jC,zWm]
def wJ (bs:List UInt8):Nat→List UInt32
 | 0=>List.replicate 80 0
 | t+1=>let w:=wJ bs t
  w.set t (if t<16 then qW5 bs t else qR2 (w.getD (t-3) 0 ^^^ w.getD (t-8) 0 ^^^ w.getD (t-14) 0 ^^^ w.getD (t-16) 0) 31)
theorem qNx {bs:List UInt8}{t:Nat}:(wJ bs t).length=80:=by
 induction t with
 | zero=>rfl
 | succ t ih=>simp only[wJ,List.length_set,ih]
def f1 (t:Nat)(b c d:UInt32):UInt32:=if t<20 then (b &&& c) ^^^ (~~~b &&& d) else if t<40 then b ^^^ c ^^^ d else if t<60 then (b &&& c) ^^^ (b &&& d) ^^^ (c &&& d) else b ^^^ c ^^^ d
def k1 (t:Nat):UInt32:=if t<20 then 0x5a827999 else if t<40 then 0x6ed9eba1 else if t<60 then 0x8f1bbcdc else 0xca62c1d6
def zS9 (t:Nat)(w:UInt32)(s:List UInt32):List UInt32:=
 [qR2 (s.getD 0 0) 27+f1 t (s.getD 1 0) (s.getD 2 0) (s.getD 3 0)+s.getD 4 0+k1 t+w,s.getD 0 0,qR2 (s.getD 1 0) 2,s.getD 2 0,s.getD 3 0]
def vK (ws hs:List UInt32):Nat→List UInt32
 | 0=>hs
 | t+1=>zS9 t (ws.getD t 0) (vK ws hs t)
def qCv (hs:List UInt32)(bs:List UInt8):List UInt32:=
 let s:=vK (wJ bs 80) hs 80
 [hs.getD 0 0+s.getD 0 0,hs.getD 1 0+s.getD 1 0,hs.getD 2 0+s.getD 2 0,hs.getD 3 0+s.getD 3 0,hs.getD 4 0+s.getD 4 0]
theorem qOg (h1:LkC tab 237 qGf)(h2:LkC tab 238 qO8)(bs:List UInt8)(x0 x1 x2 x3 x4:UInt32)(hb:bs.length=64) :
  wM.1.wp tab gl (qF 0 [.ref 0 0 0,.t (.sl (bs.map qA))]) (qF 0 [.live 1 (([x0,x1,x2,x3,x4].map zU).map V.t) true true]) (zD [] 1 (fun r o=>r = .tup []∧o=[.live 1 (((qCv [x0,x1,x2,x3,x4] bs).map zU).map V.t) true true])):=by
 simp(disch:=omega)only[go_sem,wM];refine qB 80 (fun k=>[(14,.t (.int .i64 k)),(4,.ref 4096 0 0),(0,.ref 0 0 0),(1,V.t (T.sl (List.map qA bs)))]) (fun k=>[(4096,.live 1 (((wJ bs k).map zU).map V.t) true true),(0,.live 1 [.t (zU x0),.t (zU x1),.t (zU x2),.t (zU x3),.t (zU x4)] true true)]) ?_ (fun k hk=>?_)
 ·refine qJ.rd id ?_ ?_ rfl;all_goals simp(disch:=omega)only[go_sem,id,wJ]
 ·have hl:(wJ bs k).length=80:=qNx;by_cases hlt:k<80
  ·by_cases h16:k<16
   ·simp(disch:=omega)only[go_sem,h1,h2,qZ7,hl];refine⟨hlt,qJ.rd id ?_ ?_ rfl⟩;all_goals simp(disch:=omega)only[go_sem,id,wJ,if_pos h16]
   ·simp(disch:=omega)only[go_sem,h1,h2,qMn,hl];repeat refine And.intro rfl ?_
    refine⟨hlt,qJ.rd id ?_ ?_ rfl⟩;all_goals simp(disch:=omega)only[go_sem,id,wJ,if_neg h16]
  ·have e:k=80:=oM;subst e;simp(disch:=omega)only[go_sem];repeat refine And.intro rfl ?_
   refine qB 80 (fun k=>[(67,.t (.int .i64 k)),(4,.ref 4096 0 0),(0,.ref 0 0 0),(6,.t (zU ((vK (wJ bs 80) [x0,x1,x2,x3,x4] k).getD 0 0))),(7,.t (zU ((vK (wJ bs 80) [x0,x1,x2,x3,x4] k).getD 1 0))),(8,.t (zU ((vK (wJ bs 80) [x0,x1,x2,x3,x4] k).getD 2 0))),(9,.t (zU ((vK (wJ bs 80) [x0,x1,x2,x3,x4] k).getD 3 0))),(10,.t (zU ((vK (wJ bs 80) [x0,x1,x2,x3,x4] k).getD 4 0)))])
    (fun k=>[(4096,.live 1 (((wJ bs 80).map zU).map V.t) true true),(0,.live 1 [.t (zU x0),.t (zU x1),.t (zU x2),.t (zU x3),.t (zU x4)] true true)]) ?_ (fun k hk=>?_)
   ·refine qJ.rd id ?_ ?_ rfl;all_goals simp(disch:=omega)only[go_sem,id,vK,List.getD_cons_zero,List.getD_cons_succ]
   ·by_cases hlt:k<80
    ·by_cases h20:k<20
     ·have e0:k/20=0:=oM;simp(disch:=omega)only[go_sem,h1,h2,qMn,hl,e0];repeat refine And.intro rfl ?_
      refine⟨hlt,qJ.rd id ?_ ?_ rfl⟩;all_goals simp(disch:=omega)only[go_sem,id,vK,zS9,f1,k1,if_pos h20,List.getD_cons_zero,List.getD_cons_succ]
     ·by_cases h40:k<40
      ·have e0:k/20=1:=oM;simp(disch:=omega)only[go_sem,h1,h2,qMn,hl,e0];repeat refine And.intro rfl ?_
       refine⟨hlt,qJ.rd id ?_ ?_ rfl⟩;all_goals simp(disch:=omega)only[go_sem,id,vK,zS9,f1,k1,if_neg h20,if_pos h40,List.getD_cons_zero,List.getD_cons_succ]
      ·by_cases h60:k<60
       ·have e0:k/20=2:=oM;simp(disch:=omega)only[go_sem,h1,h2,qMn,hl,e0];repeat refine And.intro rfl ?_
        refine⟨hlt,qJ.rd id ?_ ?_ rfl⟩;all_goals simp(disch:=omega)only[go_sem,id,vK,zS9,f1,k1,if_neg h20,if_neg h40,if_pos h60,List.getD_cons_zero,List.getD_cons_succ]
       ·have e0:k/20=3:=oM;simp(disch:=omega)only[go_sem,h1,h2,qMn,hl,e0];repeat refine And.intro rfl ?_
        refine⟨hlt,qJ.rd id ?_ ?_ rfl⟩;all_goals simp(disch:=omega)only[go_sem,id,vK,zS9,f1,k1,if_neg h20,if_neg h40,if_neg h60,List.getD_cons_zero,List.getD_cons_succ]
    ·have e:k=80:=oM;subst e;simp(disch:=omega)only[go_sem,qCv,List.getD_cons_zero,List.getD_cons_succ];repeat refine And.intro rfl ?_
     rfl
def iv1:List UInt32:=[0x67452301,0xefcdab89,0x98badcfe,0x10325476,0xc3d2e1f0]
theorem zA7 {p:List UInt8}{k:Nat}:(hN qCv iv1 p k).length=5:=by
 cases k<;>rfl
def qQt (bs:List UInt8):List UInt8:=zWm qCv iv1 bs
theorem qV4 (h1:LkC tab 170 qM5)(h3:LkC tab 172 qAx)(h4:tab.look 171=some (xU 5 qCv).fs)(bs:List UInt8)(hb:bs.length<1000000000) :
  kR.1.wp tab gl (qF 0 [.t (.int .i64 0),.t (.sl (bs.map qA))]) (qF 0 []) (kU [] [(4,none)] 0 (fun r o=>r = .sl 0 0 20∧o=[.live 1 (((qQt bs).map qA).map V.t) true false])):=by
 have hp:=qDv bs;have hm:=qR0 bs;simp(disch:=omega)only[go_sem,kR,h1,zHc];refine qB ((wV bs).length/64) (fun k=>[(6,V.sl 20496 (64*k) ((wV bs).length-64*k)),(5,V.ref 16400 0 0)]) (fun k=>[(20496,.live 1 (((wV bs).map qA).map V.t) true false),(16400,.live 1 (((hN qCv iv1 (wV bs) k).map zU).map V.t) true true)]) ?_ (fun k hk=>?_)
 ·refine qJ.rd id ?_ ?_ rfl;all_goals simp(disch:=omega)only[go_sem,id,hN,iv1,Nat.mul_zero,mcn]
 ·have hl:(hN qCv iv1 (wV bs) k).length=5:=zA7;by_cases hlt:k<(wV bs).length/64
  ·simp(maxSteps:=9^9)(disch:=try exact dS)only[go_sem,h4,zK2,hl];refine⟨hlt,qJ.rd id ?_ ?_ rfl⟩;all_goals simp(maxSteps:=9^9)(disch:=try exact dS)only[go_sem,id,hN]
   omega
  ·have e:k=(wV bs).length/64:=oM;subst e;have ht:List.take 5 (hN qCv iv1 (wV bs) ((wV bs).length/64))=hN qCv iv1 (wV bs) ((wV bs).length/64):=List.take_of_length_le oM;simp(disch:=omega)only[go_sem,h3,qN7,hl,ht,qQt,zWm]
theorem zJ2 (bs:List UInt8)(hb:bs.length<1000000000):qKp.1.wp tab gl (qF 0 [.t (.sl (bs.map qA))]) (qF 0 []) (kU [] [(2,none)] 0 (fun r o=>r = .sl 0 0 (wV bs).length∧o=[.live 1 (((wV bs).map qA).map V.t) true false])):=by
 have hz:qYo bs.length=(119-bs.length%64)%64:=rfl;simp(disch:=omega)only[go_sem,qKp];refine qB (qYo bs.length) (fun k=>[(0,.t (.sl (bs.map qA))),(3,.sl 8256 0 (bs.length+1+k))]) (fun k=>[(8256,.live 1 (((bs++[128]++List.replicate k 0).map qA).map V.t) true false)]) ?_ (fun k hk=>?_)
 ·refine qJ.rd id ?_ ?_ rfl;all_goals simp(disch:=omega)only[go_sem,id]
 ·by_cases hlt:k<qYo bs.length
  ·simp(disch:=omega)only[go_sem];refine⟨hlt,qJ.rd (fun _=>16416) ?_ ?_ rfl⟩;all_goals simp(disch:=omega)only[go_sem,List.replicate_succ',List.append_assoc,Nat.add_assoc]
  ·have e:k=qYo bs.length:=oM;subst e;simp(disch:=omega)only[go_sem];refine qB 8 (fun k=>[(3,.sl 8256 0 (bs.length+1+qYo bs.length+k)),(4,V.t (T.int IntKind.u64 (bs.length*8:Nat))),(5,.t (.int .i64 (7-(k:Int))))]) (fun k=>[(8256,.live 1 (((bs++[128]++List.replicate (qYo bs.length) 0++beL (bs.length*8) k).map qA).map V.t) true false)]) ?_ (fun k hk=>?_)
   ·refine qJ.rd id ?_ ?_ rfl;all_goals simp(disch:=omega)only[go_sem,id,zGd,List.append_nil]
   ·by_cases hlt:k<8
    ·have e:8*(7-k)=56-8*k:=oM;simp(disch:=omega)only[go_sem,qFm,e];refine⟨hlt,qJ.rd (fun _=>36992) ?_ ?_ rfl⟩;all_goals simp(disch:=omega)only[go_sem,zGc,List.append_assoc,Nat.add_assoc]
     omega
    ·have e:k=8:=oM;subst e;simp(disch:=omega)only[go_sem,qFm,wV]
theorem zCr (ws:List UInt32)(hb:ws.length<1000000000):qF7.1.wp tab gl (qF 0 [.t (.sl (ws.map zU))]) (qF 0 []) (kU [] [(2,none)] 0 (fun r o=>r = .sl 0 0 (4*ws.length)∧o=[.live 1 (((xZ ws).map qA).map V.t) true false])):=by
 simp(disch:=omega)only[go_sem,Nat.reduceAdd,qF7];refine qB ws.length (fun k=>[(3,.sl 9000 0 (4*k)),(0,.t (.sl (ws.map zU))),(4,.t (.int .i64 k))]) (fun k=>[(9000,.live 1 (((xZ (ws.take k)).map qA).map V.t) true false)]) ?_ (fun k hk=>?_)
 ·show qJ _ _ _ ([(9000,.live 1 [] true false)]++[]);refine qJ.cv0 id ?_ ?_ rfl rfl;all_goals simp(disch:=omega)only[go_sem,↓reduceIte,Nat.reduceEqDiff,reduceCtorEq,id,mcn,Nat.mul_zero]
 ·have hl:(xZ (ws.take k)).length=4*k:=by rw[qFg,List.length_take];omega
  by_cases hlt:k<ws.length
  ·simp(disch:=omega)only[go_sem,↓reduceIte,Nat.reduceAdd,Nat.reduceEqDiff,Nat.reduceLT,Nat.reduceLeDiff,reduceCtorEq,hl];refine⟨rfl,hlt,qJ.rd (fun _=>24976) ?_ ?_ rfl⟩;all_goals simp(disch:=omega)only[go_sem,↓reduceIte,Nat.reduceAdd,Nat.reduceEqDiff,reduceCtorEq,qQs,qUc]
   ·omega
   ·simp only[List.append_assoc,List.cons_append,List.nil_append];rfl
  ·have e:k=ws.length:=oM;subst e;rw[List.take_length] at hl;simp(disch:=omega)only[go_sem,↓reduceIte,Nat.reduceAdd,Nat.reduceEqDiff,reduceCtorEq,hl,List.take_length]
theorem qRh:qBh.1.wp tab gl (qF 0 []) (qF 0 []) (zD [(0,some (64,true))] 0 (fun r o=>r = .t (.agg (zAd.map zU))∧o=[])):=by
 simp(maxSteps:=9^9)(disch:=try exact dS)only[go_sem,qBh,List.drop_replicate];rfl
def qRs:Ct where
 α:=Unit
 aS _:=[]
 ins _:=[]
 pre _:=True
 r _:= .t (.agg (zAd.map zU))
 outs _:=[]
 inj:=fun _ _ _ _=>⟨rfl,rfl⟩
theorem zQe:qRs.fs [] []=some (.t (.agg (zAd.map zU)),[]):=qRs.eq () trivial
def qX1:Ct where
 α:=UInt32×Nat
 aS x:=[.t (zU x.1),.t (.int .u64 x.2)]
 ins _:=[]
 pre x:=0<x.2∧x.2<32
 r x:= .t (zU (qR2 x.1 x.2))
 outs _:=[]
 inj:=by
  rintro⟨a,b⟩ ⟨c,d⟩ h _;simp[qZb,Int.natCast_inj] at h;obtain⟨rfl,rfl⟩:=h;exact⟨rfl,rfl⟩
theorem zNn {x:UInt32}{n:Nat}(h:0<n∧n<32):qX1.fs [.t (zU x),.t (.int .u64 (no_index (@OfNat.ofNat Int n _)))] []=some (.t (zU (qR2 x n)),[]):=qX1.eq (x,n) h
theorem qZz (h1:LkC tab 59 qRs)(h2:LkC tab 60 qM5)(h3:LkC tab 61 qGf)(h4:LkC tab 62 qX1)(h5:LkC tab 63 qAx)
  (bs:List UInt8) (hb:bs.length<1000000000) :
  qEw.1.wp tab gl (qF 0 [.t (.sl (bs.map qA))]) (qF 0 []) (kU [] [(2,none)] 0 (fun r o=>r = .sl 0 0 32∧o=[.live 1 (((jC bs).map qA).map V.t) true false])):=by
 have hp:=qDv bs;have hm:=qR0 bs;have hz:qYo bs.length<64:=by unfold qYo;omega
 have hk2:zAd.length=64:=rfl;simp(maxSteps:=9^9)(disch:=try exact dS)only[go_sem,qEw,h1,zQe,h2,zHc,hk2];refine qB ((wV bs).length/64) (fun k=>[(3,.ref 8208 0 0),(4,.sl 12288 0 8),(5,.sl 16400 0 (wV bs).length),(6,.t (.int .i64 ((64*k:Nat):Int)))])
  (fun k=>[(8208,.live 1 ((zAd.map zU).map V.t) true true),(12288,.live 1 (((hN kC qPi (wV bs) k).map zU).map V.t) true false),(16400,.live 1 (((wV bs).map qA).map V.t) true false)]) ?_ (fun k hk=>?_)
 ·refine qJ.rd id ?_ ?_ rfl;all_goals simp(disch:=omega)only[go_sem,id,hN,qPi,Nat.mul_zero,mcn]
 ·have hl:(hN kC qPi (wV bs) k).length=8:=qTh;by_cases hlt:k<(wV bs).length/64
  ·generalize hH:hN kC qPi (wV bs) k=H at hl ⊢;generalize hB:List.take 64 (List.drop (64*k) (wV bs))=B;have hBl:B.length=64:=by rw[←hB];simp only[List.length_take,List.length_drop];omega
   simp(disch:=omega)only[go_sem];refine qB 64 (fun t=>[(8,.t (.int .i64 t)),(7,.ref 32768 0 0),(3,.ref 8208 0 0),(4,.sl 12288 0 8),(5,.sl 16400 0 (wV bs).length),(6,.t (.int .i64 ((64*k:Nat):Int)))])
    (fun t=>[(32768,.live 1 (((qBo B t).map zU).map V.t) true true),(8208,.live 1 ((zAd.map zU).map V.t) true true),(12288,.live 1 ((H.map zU).map V.t) true false),(16400,.live 1 (((wV bs).map qA).map V.t) true false)]) ?_ (fun t ht=>?_)
   ·refine qJ.rd id ?_ ?_ rfl;all_goals simp(disch:=omega)only[go_sem,id,qBo]
   ·have hs:(qBo B t).length=64:=qQq;by_cases hlt2:t<64
    ·by_cases h16:t<16
     ·simp(disch:=omega)only[go_sem,h3,qZ7,hs,hB];refine⟨hlt2,qJ.rd id ?_ ?_ rfl⟩;all_goals simp(disch:=omega)only[go_sem,id,qBo,if_pos h16]
     ·simp(maxSteps:=9^9)(disch:=try exact dS)only[go_sem,h4,zNn,hs];repeat refine And.intro rfl ?_
      refine⟨hlt2,qJ.rd id ?_ ?_ rfl⟩;all_goals simp(maxSteps:=9^9)(disch:=try exact dS)only[go_sem,id,qBo,if_neg h16]
      rfl
    ·have e:t=64:=oM;subst e;have hT:List.take 8 H=H:=List.take_of_length_le oM;simp(disch:=omega)only[go_sem,hl,hT];refine qB 64 (fun t=>[(12,.t (.int .i64 t)),(11,.sl 69664 0 8),(7,.ref 32768 0 0),(3,.ref 8208 0 0),(4,.sl 12288 0 8),(5,.sl 16400 0 (wV bs).length),(6,.t (.int .i64 ((64*k:Nat):Int)))])
      (fun t=>[(69664,.live 1 (((qA8 (qBo B 64) H t).map zU).map V.t) true false),(32768,.live 1 (((qBo B 64).map zU).map V.t) true true),(8208,.live 1 ((zAd.map zU).map V.t) true true),(12288,.live 1 ((H.map zU).map V.t) true false),(16400,.live 1 (((wV bs).map qA).map V.t) true false)]) ?_ (fun t ht=>?_)
     ·refine qJ.rd id ?_ ?_ rfl;all_goals simp(disch:=omega)only[go_sem,id,qA8]
     ·have hr:(qA8 (qBo B 64) H t).length=8:=qNv hl;by_cases hlt3:t<64
      ·simp(maxSteps:=9^9)(disch:=try exact dS)only[go_sem,h4,zNn,hs,hr,hk2];repeat refine And.intro rfl ?_
       refine⟨hlt3,qJ.rd (fun i=>if i=69664 then 98656 else i) ?_ ?_ rfl⟩;all_goals simp(disch:=omega)only[go_sem,qA8,rnd]
       trace_state
      ·have e:t=64:=oM;subst e;simp(disch:=omega)only[go_sem];refine qB 8 (fun t=>[(17,.t (.int .i64 t)),(11,.sl 69664 0 8),(3,.ref 8208 0 0),(4,.sl 12288 0 8),(5,.sl 16400 0 (wV bs).length),(6,.t (.int .i64 ((64*k:Nat):Int)))])
        (fun t=>[(69664,.live 1 (((qA8 (qBo B 64) H 64).map zU).map V.t) true false),(8208,.live 1 ((zAd.map zU).map V.t) true true),(12288,.live 1 (((zH2 H (qA8 (qBo B 64) H 64) t).map zU).map V.t) true false),(16400,.live 1 (((wV bs).map qA).map V.t) true false)]) ?_ (fun t ht=>?_)
       ·refine qJ.rd id ?_ ?_ rfl;all_goals simp(disch:=omega)only[go_sem,id,zH2]
       ·have ha:(zH2 H (qA8 (qBo B 64) H 64) t).length=8:=by rw[qKw,hl]
        by_cases hlt4:t<8
        ·simp(disch:=omega)only[go_sem,hr,ha];repeat refine And.intro rfl ?_
         refine⟨hlt4,qJ.rd id ?_ ?_ rfl⟩;all_goals simp(disch:=omega)only[go_sem,id,zH2]
        ·have e:t=8:=oM;subst e;simp(disch:=omega)only[go_sem];refine⟨hlt,qJ.rd id ?_ ?_ rfl⟩;all_goals simp(disch:=omega)only[go_sem,id,hN,hH,hB,kC]
         omega
  ·have e:k=(wV bs).length/64:=oM;subst e;have e2:64*((wV bs).length/64)=(wV bs).length:=oM;have ht:List.take 8 (hN kC qPi (wV bs) ((wV bs).length/64))=hN kC qPi (wV bs) ((wV bs).length/64):=List.take_of_length_le oM;simp(disch:=omega)only[go_sem,e2,h5,qN7,hl,ht,jC,zWm]
def qRt:Ct where
 α:=UInt32×Nat
 aS x:=[.t (zU x.1),.t (.int .u64 x.2)]
 ins _:=[]
 pre x:=0<x.2∧x.2<32
 r x:= .t (zU (qR2 x.1 (32-x.2)))
 outs _:=[]
 inj:=by
  rintro⟨a,b⟩ ⟨c,d⟩ h _;simp[qZb,Int.natCast_inj] at h;obtain⟨rfl,rfl⟩:=h;exact⟨rfl,rfl⟩
theorem qNu {x:UInt32}{n:Nat}(h:0<n∧n<32):qRt.fs [.t (zU x),.t (.int .u64 (no_index (@OfNat.ofNat Int n _)))] []=some (.t (zU (qR2 x (32-n))),[]):=qRt.eq (x,n) h
theorem zFm (h2:LkC tab 60 qM5)(h3:LkC tab 61 qGf)(h4:LkC tab 129 qRt)(h5:LkC tab 63 qAx)
  (bs:List UInt8) (hb:bs.length<1000000000) :
  qHv.1.wp tab gl (qF 0 [.t (.sl (bs.map qA))]) (qF 0 []) (kU [] [(2,none)] 0 (fun r o=>r = .sl 0 0 20∧o=[.live 1 (((qQt bs).map qA).map V.t) true false])):=by
 have hp:=qDv bs;have hm:=qR0 bs;have hz:qYo bs.length<64:=by unfold qYo;omega
 simp(disch:=omega)only[go_sem,qHv,h2,zHc];refine qB ((wV bs).length/64) (fun k=>[(3,.sl 8192 0 5),(4,.sl 12304 0 (wV bs).length),(5,.t (.int .i64 ((64*k:Nat):Int)))])
  (fun k=>[(8192,.live 1 (((hN qCv iv1 (wV bs) k).map zU).map V.t) true false),(12304,.live 1 (((wV bs).map qA).map V.t) true false)]) ?_ (fun k hk=>?_)
 ·refine qJ.rd id ?_ ?_ rfl;all_goals simp(disch:=omega)only[go_sem,id,hN,iv1,Nat.mul_zero,mcn]
 ·have hl:(hN qCv iv1 (wV bs) k).length=5:=zA7;by_cases hlt:k<(wV bs).length/64
  ·generalize hH:hN qCv iv1 (wV bs) k=H at hl ⊢;generalize hB:List.take 64 (List.drop (64*k) (wV bs))=B;have hBl:B.length=64:=by rw[←hB];simp only[List.length_take,List.length_drop];omega
   simp(disch:=omega)only[go_sem];refine qB 80 (fun t=>[(7,.t (.int .i64 t)),(6,.ref 28672 0 0),(3,.sl 8192 0 5),(4,.sl 12304 0 (wV bs).length),(5,.t (.int .i64 ((64*k:Nat):Int)))])
    (fun t=>[(28672,.live 1 (((wJ B t).map zU).map V.t) true true),(8192,.live 1 ((H.map zU).map V.t) true false),(12304,.live 1 (((wV bs).map qA).map V.t) true false)]) ?_ (fun t ht=>?_)
   ·refine qJ.rd id ?_ ?_ rfl;all_goals simp(disch:=omega)only[go_sem,id,wJ]
   ·have hs:(wJ B t).length=80:=qNx;by_cases hlt2:t<80
    ·by_cases h16:t<16
     ·simp(disch:=omega)only[go_sem,h3,qZ7,hs,hB];repeat refine And.intro rfl ?_
      refine⟨hlt2,qJ.rd id ?_ ?_ rfl⟩;all_goals simp(disch:=omega)only[go_sem,id,wJ,if_pos h16]
     ·simp(maxSteps:=9^9)(disch:=try exact dS)only[go_sem,h4,qNu,hs];repeat refine And.intro rfl ?_
      refine⟨hlt2,qJ.rd id ?_ ?_ rfl⟩;all_goals simp(disch:=omega)only[go_sem,id,wJ,if_neg h16]
    ·have e:t=80:=oM;subst e;simp(disch:=omega)only[go_sem,hl];repeat refine And.intro rfl ?_
     refine qB 80 (fun t=>[(13,.t (.int .i64 t)),(6,.ref 28672 0 0),(3,.sl 8192 0 5),(4,.sl 12304 0 (wV bs).length),(5,.t (.int .i64 ((64*k:Nat):Int))),
       (8,.t (zU ((vK (wJ B 80) H t).getD 0 0))),(9,.t (zU ((vK (wJ B 80) H t).getD 1 0))),(10,.t (zU ((vK (wJ B 80) H t).getD 2 0))),(11,.t (zU ((vK (wJ B 80) H t).getD 3 0))),(12,.t (zU ((vK (wJ B 80) H t).getD 4 0)))])
      (fun _=>[(28672,.live 1 (((wJ B 80).map zU).map V.t) true true),(8192,.live 1 ((H.map zU).map V.t) true false),(12304,.live 1 (((wV bs).map qA).map V.t) true false)]) ?_ (fun t ht=>?_)
     ·refine qJ.rd id ?_ ?_ rfl;all_goals simp(disch:=omega)only[go_sem,id,vK]
     ·by_cases hlt3:t<80
      ·by_cases h20:t<20
       ·simp(maxSteps:=9^9)(disch:=try exact dS)only[go_sem,h4,qNu,hs];repeat refine And.intro rfl ?_
        refine⟨hlt3,qJ.rd id ?_ ?_ rfl⟩;all_goals simp(disch:=omega)only[go_sem,id,vK,zS9,f1,k1,if_pos h20,List.getD_cons_zero,List.getD_cons_succ]
       ·by_cases h40:t<40
        ·simp(maxSteps:=9^9)(disch:=try exact dS)only[go_sem,h4,qNu,hs];repeat refine And.intro rfl ?_
         refine⟨hlt3,qJ.rd id ?_ ?_ rfl⟩;all_goals simp(disch:=omega)only[go_sem,id,vK,zS9,f1,k1,if_neg h20,if_pos h40,List.getD_cons_zero,List.getD_cons_succ]
        ·by_cases h60:t<60
         ·simp(maxSteps:=9^9)(disch:=try exact dS)only[go_sem,h4,qNu,hs];repeat refine And.intro rfl ?_
          refine⟨hlt3,qJ.rd id ?_ ?_ rfl⟩;all_goals simp(disch:=omega)only[go_sem,id,vK,zS9,f1,k1,if_neg h20,if_neg h40,if_pos h60,List.getD_cons_zero,List.getD_cons_succ]
         ·simp(maxSteps:=9^9)(disch:=try exact dS)only[go_sem,h4,qNu,hs];repeat refine And.intro rfl ?_
          refine⟨hlt3,qJ.rd id ?_ ?_ rfl⟩;all_goals simp(disch:=omega)only[go_sem,id,vK,zS9,f1,k1,if_neg h20,if_neg h40,if_neg h60,List.getD_cons_zero,List.getD_cons_succ]
      ·have e:t=80:=oM;subst e;simp(disch:=omega)only[go_sem,hl];repeat refine And.intro rfl ?_
       refine⟨hlt,qJ.rd (fun i=>if i=8192 then 110992 else i) ?_ ?_ rfl⟩;all_goals simp(disch:=omega)only[go_sem,hN,hH,hB,qCv]
       omega
  ·have e:k=(wV bs).length/64:=oM;subst e;have e2:64*((wV bs).length/64)=(wV bs).length:=oM;have ht:List.take 5 (hN qCv iv1 (wV bs) ((wV bs).length/64))=hN qCv iv1 (wV bs) ((wV bs).length/64):=List.take_of_length_le oM;simp(disch:=omega)only[go_sem,e2,h5,qN7,hl,ht,qQt,zWm]
def szA (a:Nat):Nat:=if a=0 then 20 else if a=1 then 32 else 0
def zPm (a:Nat)(bs:List UInt8):List UInt8:=if a=0 then qQt bs else if a=1 then jC bs else []
theorem qUe {comp:List UInt32→List UInt8→List UInt32}{iv:List UInt32}{bs:List UInt8}{n:Nat}(hc : ∀ h b,h.length=n→(comp h b).length=n)(hi:iv.length=n):(zWm comp iv bs).length=4*n:=by
 have : ∀ k p,(hN comp iv p k).length=n:=by
  intro k p
  induction k with
  | zero=>exact hi
  | succ k ih=>exact hc _ _ ih
 rw[zWm,qFg,this]
theorem qN {bs:List UInt8}:(jC bs).length=32:=qUe (n:=8) (fun h b e=>by rw[qKd,e]) rfl
theorem zK {bs:List UInt8}:(qQt bs).length=20:=qUe (n:=5) (fun h b _=>rfl) rfl
theorem qG4 {a:Nat}{bs:List UInt8}:(zPm a bs).length=szA a:=by
 unfold zPm szA;split
 ·exact zK
 ·split
  ·exact qN
  ·rfl
theorem zFi (bs:List UInt8)(hb:bs.length<1000000000):qHt.1.wp tab gl (qF 0 [.t (.sl (bs.map qA))]) (qF 0 []) (kU [] [(2,none)] 0 (fun r o=>r = .sl 0 0 bs.length∧o=[.live 1 ((bs.map qA).map V.t) true false])):=by
 simp(disch:=omega)only[go_sem,qHt]
def qQk (n:Nat)(f:List UInt8→List UInt8):Ct where
 α:=List UInt8
 aS x:=[.t (.sl (x.map qA))]
 ins _:=[]
 pre x:=x.length<1000000000
 r _:= .sl 0 0 n
 outs x:=[.live 1 (((f x).map qA).map V.t) true false]
 inj:=by
  intro a b h _;simp[jB] at h;subst h;exact⟨rfl,rfl⟩
theorem zHu {n:Nat}{f:List UInt8→List UInt8}{bs:List UInt8}(h:bs.length<1000000000):(qQk n f).fs [.t (.sl (bs.map qA))] []=some (.sl 0 0 n,[.live 1 (((f bs).map qA).map V.t) true false]):=(qQk n f).eq bs h
theorem zJ1 (h1:tab.look 97=some (qQk 20 qQt).fs)(h2:tab.look 34=some (qQk 32 jC).fs)(a:Nat)(ha:a<2)(bs:List UInt8)(hb:bs.length<1000000000) :
  qF6.1.wp tab gl (qF 0 [.t (.int .i64 a),.t (.sl (bs.map qA))]) (qF 0 []) (kU [] [(4,none)] 0 (fun r o=>r = .sl 0 0 (szA a)∧o=[.live 1 (((zPm a bs).map qA).map V.t) true false])):=by
 rcases (show a=0∨a=1 by omega) with rfl | rfl
 ·simp(disch:=omega)only[go_sem,qF6,h1,zHu,szA,zPm]
 ·simp(disch:=omega)only[go_sem,qF6,h2,zHu,szA,zPm]
def zPh (n:Nat):List UInt8:=[UInt8.ofNat (n/2^24),UInt8.ofNat (n/2^16),UInt8.ofNat (n/2^8),UInt8.ofNat n]
def zB (tag:Nat)(fs:List (List UInt8)):List UInt8:=UInt8.ofNat tag::fs.flatMap fun f=>zPh f.length++f
theorem qGw {tag:Nat}{fs:List (List UInt8)}{k:Nat}(h:k<fs.length):zB tag (fs.take (k+1))=zB tag (fs.take k)++zPh (fs.getD k []).length++fs.getD k []:=by
 rw[qDz (d:=[]) h];simp[zB]
theorem qNd {tag:Nat}{fs:List (List UInt8)}{k:Nat}:(zB tag (fs.take k)).length≤(zB tag fs).length:=by
 have:zB tag fs=zB tag (fs.take k)++(fs.drop k).flatMap fun f=>zPh f.length++f:=by
  simp only[zB,List.cons_append,←List.flatMap_append,List.take_append_drop]
 rw[this,List.length_append];omega
theorem zA3 {tag:Nat}{fs:List (List UInt8)}:4*fs.length+1≤(zB tag fs).length:=by
 simp only[zB,List.length_cons];have:4*fs.length≤(fs.flatMap fun f=>zPh f.length++f).length:=by
  induction fs with
  | nil=>simp
  | cons f r ih=>
   have h4 : ∀ n,(zPh n).length=4:=fun _=>rfl
   simp only[List.flatMap_cons,List.length_append,List.length_cons,h4];omega
 omega
theorem qV3 (tag:Nat)(ht:tag<256)(fs:List (List UInt8))(hb:(zB tag fs).length<1000000000):qC6.1.wp tab gl (qF 0 [.t (.int .i64 tag),.t (.sl (fs.map bsT))]) (qF 0 []) (kU [] [(4,none)] 0 (fun r o=>r = .sl 0 0 (zB tag fs).length∧o=[.live 1 (((zB tag fs).map qA).map V.t) true false])):=by
 simp(disch:=omega)only[go_sem,qC6];have hge:=zA3 (tag:=tag) (fs:=fs);refine qB fs.length (fun k=>[(5,.sl 8224 0 (zB tag (fs.take k)).length),(12,V.t (T.sl (List.map bsT fs))),(13,.t (.int .i64 fs.length)),(14,.t (.int .i64 k))]) (fun k=>[(8224,.live 1 (((zB tag (fs.take k)).map qA).map V.t) true false)]) ?_ (fun k hk=>?_)
 ·refine qJ.rd id ?_ ?_ rfl;all_goals simp(disch:=omega)only[go_sem,id,zB,List.flatMap_nil,mcn]
 ·have h0:=qNd (tag:=tag) (fs:=fs) (k:=k);by_cases hlt:k<fs.length
  ·have h1:=qNd (tag:=tag) (fs:=fs) (k:=k+1);rw[qGw hlt,List.length_append,List.length_append] at h1;have h2:(zPh (fs.getD k []).length).length=4:=rfl;simp(disch:=omega)only[go_sem];refine⟨hlt,qJ.rd (fun _=>32800) ?_ ?_ rfl⟩;all_goals simp(disch:=omega)only[go_sem,qGw,zPh]
   simp only[List.append_assoc,List.cons_append,List.nil_append]
  ·have e:k=fs.length:=oM;subst e;simp(disch:=omega)only[go_sem,List.take_length]
theorem zCq (tag:Nat)(ht:tag<256)(fs:List (List UInt8))(hb:(zB tag fs).length<1000000000):qF5.1.wp tab gl (qF 0 [.t (.int .i64 tag),.t (.sl (fs.map bsT))]) (qF 0 []) (kU [] [(4,none)] 0 (fun r o=>r = .sl 0 0 (zB tag fs).length∧o=[.live 1 (((zB tag fs).map qA).map V.t) true false])):=by
 simp(disch:=omega)only[go_sem,qF5];have hge:=zA3 (tag:=tag) (fs:=fs);refine qB fs.length (fun k=>[(5,.sl 8224 0 (zB tag (fs.take k)).length),(1,V.t (T.sl (List.map bsT fs))),(6,.t (.int .i64 k))]) (fun k=>[(8224,.live 1 (((zB tag (fs.take k)).map qA).map V.t) true false)]) ?_ (fun k hk=>?_)
 ·refine qJ.rd id ?_ ?_ rfl;all_goals simp(disch:=omega)only[go_sem,id,zB,List.flatMap_nil,mcn]
 ·have h0:=qNd (tag:=tag) (fs:=fs) (k:=k);by_cases hlt:k<fs.length
  ·have h1:=qNd (tag:=tag) (fs:=fs) (k:=k+1);rw[qGw hlt,List.length_append,List.length_append] at h1;have h2:(zPh (fs.getD k []).length).length=4:=rfl;simp(disch:=omega)only[go_sem];refine⟨hlt,qJ.rd (fun _=>32848) ?_ ?_ rfl⟩;all_goals simp(disch:=omega)only[go_sem,qGw,zPh]
   simp only[List.append_assoc,List.cons_append,List.nil_append]
  ·have e:k=fs.length:=oM;subst e;simp(disch:=omega)only[go_sem,List.take_length]
theorem zFk (a b:List UInt8)(ha:a.length<1000000000)(hb:b.length<1000000000):qD6.1.wp tab gl (qF 0 [.t (.sl (a.map qA)),.t (.sl (b.map qA))]) (qF 0 []) (zD [(4,none)] 0 (fun r o=>r = .t (.bool (decide (a=b)))∧o=[])):=by
 by_cases hl:a.length=b.length
 ·simp(disch:=omega)only[go_sem,qD6];refine qPj a.length (fun i=>a.take i=b.take i) (fun k=>[(5,.t (.int .i64 k)),(0,.t (.sl (a.map qA))),(1,.t (.sl (b.map qA)))]) (fun _=>[]) rfl ?_ (fun k hk hP=>?_)
  ·refine qJ.rd id ?_ ?_ rfl;all_goals simp(disch:=omega)only[go_sem,id]
  ·by_cases hlt:k<a.length
   ·by_cases he:a.getD k 0=b.getD k 0
    ·simp(disch:=omega)only[go_sem,he];refine⟨rfl,hlt,?_,qJ.rd id ?_ ?_ rfl⟩
     ·rw[qDz (d:=0) hlt,qDz (d:=0) oM,hP,he]
     all_goals simp(disch:=omega)only[go_sem,id]
    ·have hne : ¬ a=b:=fun h=>he (by rw[h])
     simp(disch:=omega)only[go_sem,he,hne];rfl
   ·have e:k=a.length:=oM;subst e;rw[List.take_length,hl,List.take_length] at hP;simp(disch:=omega)only[go_sem,hP]
 ·have hne : ¬ a=b:=fun h=>hl (by rw[h])
  simp(disch:=omega)only[go_sem,qD6,hne]
def qK2:Ct where
 α:=List UInt8×List UInt8
 aS x:=[.t (.sl (x.1.map qA)),.t (.sl (x.2.map qA))]
 ins _:=[]
 pre x:=x.1.length<1000000000∧x.2.length<1000000000
 r x:= .t (.bool (decide (x.1=x.2)))
 outs _:=[]
 inj:=by
  rintro⟨a,b⟩ ⟨c,d⟩ h _;simp[jB] at h;obtain⟨rfl,rfl⟩:=h;exact⟨rfl,rfl⟩
theorem qPp {a b:List UInt8}(h:a.length<1000000000∧b.length<1000000000):qK2.fs [.t (.sl (a.map qA)),.t (.sl (b.map qA))] []=some (.t (.bool (decide (a=b))),[]):=qK2.eq (a,b) h
def zPk (l:List (List UInt8)):Prop:=l.length<1000000000 ∧ ∀ x∈l,x.length<1000000000
theorem qNn {l:List (List UInt8)}(h:zPk l)(i:Nat):(l.getD i []).length<1000000000:=by
 by_cases hi:i<l.length
 ·have:l.getD i []=l[i]:=by simp[List.getD,hi]
  rw[this];exact h.2 _ (List.getElem_mem hi)
 ·simp[List.getD,List.getElem?_eq_none (Nat.le_of_not_lt hi)]
def qEa:Ct where
 α:=Nat×List (List UInt8)
 aS x:=[.t (.int .i64 x.1),.t (.sl (x.2.map bsT))]
 ins _:=[]
 pre x:=x.1<256∧(zB x.1 x.2).length<1000000000
 r x:= .sl 0 0 (zB x.1 x.2).length
 outs x:=[.live 1 (((zB x.1 x.2).map qA).map V.t) true false]
 inj:=by
  rintro⟨a,b⟩ ⟨c,d⟩ h _;simp[qB1,Int.natCast_inj] at h;obtain⟨rfl,rfl⟩:=h;exact⟨rfl,rfl⟩
theorem qRw {t:Nat}{fs:List (List UInt8)}(h:t<256∧(zB t fs).length<1000000000):qEa.fs [.t (.int .i64 t),.t (.sl (fs.map bsT))] []=some (.sl 0 0 (zB t fs).length,[.live 1 (((zB t fs).map qA).map V.t) true false]):=qEa.eq (t,fs) h
def qFf (t:Nat)(fs:List (List UInt8)):List UInt8:=jC (zB t fs)
def xV:Ct where
 α:=Nat×List UInt8
 aS x:=[.t (.int .i64 x.1),.t (.sl (x.2.map qA))]
 ins _:=[]
 pre x:=x.1<2∧x.2.length<1000000000
 r x:= .sl 0 0 (szA x.1)
 outs x:=[.live 1 (((zPm x.1 x.2).map qA).map V.t) true false]
 inj:=by
  rintro⟨a,b⟩ ⟨c,d⟩ h _;simp[jB,Int.natCast_inj] at h;obtain⟨rfl,rfl⟩:=h;exact⟨rfl,rfl⟩
theorem qQ {bs:List UInt8}(h:bs.length<1000000000):xV.fs [.t (.int .i64 0),.t (.sl (bs.map qA))] []=some (.sl 0 0 20,[.live 1 (((qQt bs).map qA).map V.t) true false]):=xV.eq (0,bs) ⟨sM,h⟩
theorem qP {bs:List UInt8}(h:bs.length<1000000000):xV.fs [.t (.int .i64 1),.t (.sl (bs.map qA))] []=some (.sl 0 0 32,[.live 1 (((jC bs).map qA).map V.t) true false]):=xV.eq (1,bs) ⟨sM,h⟩
theorem qZv (h1:LkC tab 132 qEa)(h2:LkC tab 130 xV)(t:Nat)(fs:List (List UInt8))(ht:t<256)(hb:(zB t fs).length<1000000000) :
  qEp.1.wp tab gl (qF 0 [.t (.int .i64 t),.t (.sl (fs.map bsT))]) (qF 0 []) (kU [] [(4,none)] 0 (fun r o=>r = .sl 0 0 32∧o=[.live 1 (((qFf t fs).map qA).map V.t) true false])):=by
 simp(disch:=omega)only[go_sem,qEp,h1,h2,qRw,qP,qFf]
theorem zFj (h1:LkC tab 35 qEa)(h2:tab.look 34=some (qQk 32 jC).fs)(t:Nat)(fs:List (List UInt8))(ht:t<256)(hb:(zB t fs).length<1000000000) :
  qHu.1.wp tab gl (qF 0 [.t (.int .i64 t),.t (.sl (fs.map bsT))]) (qF 0 []) (kU [] [(4,none)] 0 (fun r o=>r = .sl 0 0 32∧o=[.live 1 (((qFf t fs).map qA).map V.t) true false])):=by
 simp(disch:=omega)only[go_sem,qHu,h1,h2,qRw,zHu,qFf]
theorem zCn (h1:LkC tab 170 qM5)(h2:tab.look 171=some (xU 5 qCv).fs)(h3:LkC tab 172 qAx)(h4:tab.look 173=some (xU 8 kC).fs)(a:Nat)(ha:a<2)(bs:List UInt8)(hb:bs.length<1000000000) :
  kR.1.wp tab gl (qF 0 [.t (.int .i64 a),.t (.sl (bs.map qA))]) (qF 0 []) (kU [] [(4,none)] 0 (fun r o=>r = .sl 0 0 (szA a)∧o=[.live 1 (((zPm a bs).map qA).map V.t) true false])):=by
 rcases (show a=0∨a=1 by omega) with rfl | rfl
 ·exact qV4 tab gl h1 h3 h2 bs hb
 ·exact qRg tab gl h1 h3 h4 bs hb
def m64 (n:Int):Nat:=(n%18446744073709551616).toNat
def beI (size:Nat)(n:Int)(k:Nat):List UInt8:=(List.range k).map fun i=>UInt8.ofNat (m64 n/2^(8*(size-1-i)))
theorem zGb {size:Nat}{n:Int}:beI size n 0=[]:=rfl
theorem qO3 {size:Nat}{n:Int}{k:Nat}:(beI size n k).length=k:=by simp[beI]
theorem qXm {size:Nat}{n:Int}{k:Nat}:beI size n (k+1)=beI size n k++[UInt8.ofNat (m64 n/2^(8*(size-1-k)))]:=by simp[beI,List.range_succ]
theorem zG3 {n:Int}:IntKind.u64.wrap n=(m64 n:Int):=by rw[qSf,m64];omega
theorem zFw (b:List UInt8)(size:Nat)(n:Int)(hb:b.length<1000000000)(hs:1≤size∧size≤8):qH7.1.wp tab gl (qF 0 [.t (.sl (b.map qA)),.t (.int .i64 size),.t (.int .i64 n)]) (qF 0 []) (kU [] [(6,none)] 0 (fun r o=>r = .sl 0 0 (b.length+size)∧o=[.live 1 (((b++beI size n size).map qA).map V.t) true false])):=by
 have hw:=zG3 (n:=n);simp(disch:=omega)only[go_sem,qH7];refine qB size (fun k=>[(2,.t (.int .i64 n)),(7,.sl 8208 0 (b.length+k)),(8,.t (.int .i64 ((size:Int)-1-k)))]) (fun k=>[(8208,.live 1 (((b++beI size n k).map qA).map V.t) true false)]) ?_ (fun k hk=>?_)
 ·refine qJ.rd id ?_ ?_ rfl;all_goals simp(disch:=omega)only[go_sem,id,zGb,List.append_nil]
  all_goals omega
 ·have hl:(beI size n k).length=k:=qO3;by_cases hlt:k<size
  ·simp(disch:=omega)only[go_sem,hl,hw];refine⟨hlt,qJ.rd (fun _=>32912) ?_ ?_ rfl⟩;all_goals simp(disch:=omega)only[go_sem,qXm,List.append_assoc,Nat.add_assoc]
   all_goals first | omega | rfl
  ·have e:k=size:=oM;subst e;simp(disch:=omega)only[go_sem,hl]
theorem zFr (b:List UInt8)(size:Nat)(n:Int)(hb:b.length<1000000000)(hs:1≤size∧size≤8):qH0.1.wp tab gl (qF 0 [.t (.sl (b.map qA)),.t (.int .i64 size),.t (.int .i64 n)]) (qF 0 []) (kU [] [(6,none)] 0 (fun r o=>r = .sl 0 0 (b.length+size)∧o=[.live 1 (((b++beI size n size).map qA).map V.t) true false])):=by
 have hw:=zG3 (n:=n);simp(disch:=omega)only[go_sem,qH0];refine qB size (fun k=>[(2,.t (.int .i64 n)),(7,.sl 8224 0 (b.length+k)),(8,.t (.int .i64 ((size:Int)-1-k)))]) (fun k=>[(8224,.live 1 (((b++beI size n k).map qA).map V.t) true false)]) ?_ (fun k hk=>?_)
 ·refine qJ.rd id ?_ ?_ rfl;all_goals simp(disch:=omega)only[go_sem,id,zGb,List.append_nil]
  all_goals omega
 ·have hl:(beI size n k).length=k:=qO3;by_cases hlt:k<size
  ·simp(disch:=omega)only[go_sem,hl,hw];refine⟨hlt,qJ.rd (fun _=>32912) ?_ ?_ rfl⟩;all_goals simp(disch:=omega)only[go_sem,qXm,List.append_assoc,Nat.add_assoc]
   all_goals first | omega | rfl
  ·have e:k=size:=oM;subst e;simp(disch:=omega)only[go_sem,hl]
abbrev Rd:=List UInt8×Nat×Int
def rdT (s:Rd):T:= .agg [bsT s.1,.int .i64 (s.2.1:Int),.int .i64 s.2.2]
def kP (s:Rd):Ob:= .live 3 [.t (rdT s)] true true
def qEg (s:Rd):Prop:=s.2.1≤s.1.length∧s.1.length<1000000000
theorem zJ5 (b:List UInt8)(hb:b.length<1000000000):qKv.1.wp tab gl (qF 0 [.t (.sl (b.map qA))]) (qF 0 []) (kU [8208] [(2,none)] 0 (fun r o=>r = .ref 0 0 0∧o=[kP (b,0,0)])):=by
 simp(disch:=omega)only[go_sem,qKv];rfl
theorem zJ3 (b:List UInt8)(hb:b.length<1000000000):qKq.1.wp tab gl (qF 0 [.t (.sl (b.map qA))]) (qF 0 []) (kU [] [(2,none)] 0 (fun r o=>r = .ref 0 0 0∧o=[kP (b,0,0)])):=by
 simp(disch:=omega)only[go_sem,qKq];rfl
theorem zFy (s:Rd)(hs:qEg s)(p n:Nat)(h:p+n≤s.1.length):yC.1.wp tab gl (qF 0 [.ref 0 0 0,.t (.int .i64 p),.t (.int .i64 n)]) (qF 0 [kP s]) (zD [(6,none),(7,none)] 1 (fun r o=>r = .tup [.t (.sl (((s.1.drop p).take n).map qA)),.t (.int .i64 0)]∧o=[kP s])):=by
 obtain⟨b,at_,e⟩:=s;simp only[qEg] at hs h ⊢;simp(disch:=omega)only[go_sem,yC,kP,rdT]
theorem zFx (s:Rd)(hs:qEg s)(n:Int):xS.1.wp tab gl (qF 0 [.ref 0 0 0,.t (.int .i64 n)]) (qF 0 [kP s]) (zD [] 1 (fun r o=>r = .tup []∧o=[kP (s.1,s.2.1,n)])):=by
 obtain⟨b,at_,e⟩:=s;simp(disch:=omega)only[go_sem,xS,kP,rdT]
def zDa (w:UInt8)(k:List UInt8):List UInt8:=(k++List.replicate (64-k.length) 0).map (· ^^^ w)
def zPj (k b:List UInt8):List UInt8:=jC (zDa 92 k++jC (zDa 54 k++b))
theorem qTt {w:UInt8}{k:List UInt8}(h:k.length≤64):(zDa w k).length=64:=by simp[zDa];omega
theorem zMf {k b:List UInt8}:List.take 32 (zPj k b)=zPj k b:=List.take_of_length_le (by rw[zPj,qN];omega)
theorem qTi {k b:List UInt8}:(zPj k b).length=32:=qN
def xk (w:UInt8)(z:List UInt8)(k:Nat):List UInt8:=(z.take k).map (· ^^^ w)++z.drop k
theorem jSk {w:UInt8}{z:List UInt8}:xk w z 0=z:=by simp[xk]
theorem jSl {w:UInt8}{z:List UInt8}{n:Nat}(h:z.length=n):xk w z n=z.map (· ^^^ w):=by subst h;simp[xk]
theorem zO7 {w:UInt8}{z:List UInt8}{k:Nat}:(xk w z k).length=z.length:=by simp[xk];omega
theorem jH9 {w:UInt8}{z:List UInt8}{k:Nat}(h:k<z.length):(xk w z k).getD k 0=z.getD k 0:=by
 have hl:((z.take k).map (· ^^^ w)).length=k:=soM;rw[xk,List.getD_eq_getElem?_getD,List.getElem?_append_right oM,hl,Nat.sub_self,List.getElem?_drop,List.getD_eq_getElem?_getD];rfl
theorem jIa {w:UInt8}{z:List UInt8}{k:Nat}(h:k<z.length):(xk w z k).set k (z.getD k 0 ^^^ w)=xk w z (k+1):=by
 have hl:((z.take k).map (· ^^^ w)).length=k:=soM;have hd:z.drop k=z.getD k 0::z.drop (k+1):=by
  rw[List.drop_eq_getElem_cons h];simp[List.getD,List.getElem?_eq_getElem h]
 rw[xk,xk,List.set_append_right _ _ oM,hl,Nat.sub_self,hd,List.set_cons_zero,qDz (d:=0) h,List.map_append,List.append_assoc];rfl
theorem zFh (w:UInt8)(key:List UInt8)(hk:key.length≤64) :
  qHs.1.wp tab gl (qF 0 [.t (qA w),.ref 0 0 0]) (qF 0 [.live 1 [.t (.sl (key.map qA))] true true]) (kU [] [(3,none)] 1 (fun r o=>r = .sl 1 0 64∧o=[.live 1 [.t (.sl (key.map qA))] true true,.live 1 (((zDa w key).map qA).map V.t) true false])):=by
 simp(maxSteps:=9^9)(disch:=try exact dS)only[go_sem,qHs];have hz:(List.take 64 key++List.replicate (64-key.length) 0).length=64:=soM;have hp:zDa w key=(List.take 64 key++List.replicate (64-key.length) 0).map (· ^^^ w):=by rw[zDa,List.take_of_length_le hk]
 rw[hp];generalize List.take 64 key++List.replicate (64-key.length) 0=z at *;refine qB 64 (fun k=>[(0,.t (qA w)),(4,.sl 8192 0 64),(10,.t (.int .i64 (k:Nat)))]) (fun k=>[(8192,.live 1 (((xk w z k).map qA).map V.t) true false),(0,.live 1 [.t (.sl (key.map qA))] true true)]) ?_ (fun k hk=>?_)
 ·refine qJ.rd id ?_ ?_ rfl;all_goals simp(maxSteps:=9^9)(disch:=try exact dS)only[go_sem,id,jSk]
  all_goals rfl
 ·have hx:(xk w z k).length=64:=by rw[zO7,hz]
  by_cases hlt:k<64
  ·have hg:=jH9 (w:=w) (z:=z) (k:=k) oM;have hs:=jIa (w:=w) (z:=z) (k:=k) oM;simp(maxSteps:=9^9)(disch:=try exact dS)only[go_sem,hx,hg,hs];refine⟨hlt,qJ.rd id ?_ ?_ rfl⟩;all_goals simp(maxSteps:=9^9)(disch:=try exact dS)only[go_sem,id]
   all_goals first | omega | rfl
  ·have e:k=64:=oM;subst e;have hn:=jSl (w:=w) hz;have ht:List.take 64 z=z:=List.take_of_length_le oM;simp(maxSteps:=9^9)(disch:=try exact dS)only[go_sem,hn,hz,ht]
def qXt:Ct where
 α:=UInt8×List UInt8
 aS x:=[.t (qA x.1),.ref 0 0 0]
 ins x:=[.live 1 [.t (.sl (x.2.map qA))] true true]
 pre x:=x.2.length≤64
 r _:= .sl 1 0 64
 outs x:=[.live 1 [.t (.sl (x.2.map qA))] true true,.live 1 (((zDa x.1 x.2).map qA).map V.t) true false]
 inj:=by
  rintro⟨a,b⟩ ⟨c,d⟩ h h2;simp only[List.cons.injEq,V.t.injEq,qM2,and_true,bsT,Ob.live.injEq,T.sl.injEq,jB,true_and] at h h2;subst h h2;exact⟨rfl,rfl⟩
theorem zMt {w:UInt8}{k:List UInt8}(h:k.length≤64):qXt.fs [.t (qA w),.ref 0 0 0] [.live 1 [.t (.sl (k.map qA))] true true]=some (.sl 1 0 64,[.live 1 [.t (.sl (k.map qA))] true true,.live 1 (((zDa w k).map qA).map V.t) true false]):=qXt.eq (w,k) h
theorem zO2 (h1:LkC tab 130 xV)(h2:LkC tab 131 qXt)(key b:List UInt8)(hk:key.length≤64)(hb:b.length<500000000) :
  qOx.1.wp tab gl (qF 0 [.t (bsT key),.t (bsT b)]) (qF 0 []) (kU [] [(4,none)] 0 (fun r o=>r = .sl 0 0 32∧o=[.live 1 (((zPj key b).map qA).map V.t) true false])):=by
 have m1:=zMt (w:=54) hk;have m2:=zMt (w:=92) hk;have l1:=qTt (w:=54) hk;have t1:List.take (64+b.length) (zDa 54 key++b)=zDa 54 key++b:=List.take_of_length_le (by simp[l1]);have l2:=qTt (w:=92) hk;have t2 : ∀ x,List.take 32 (jC x)=jC x:=fun x=>List.take_of_length_le (by rw[qN];omega)
 have t3 : ∀ x,List.take 96 (zDa 92 key++jC x)=zDa 92 key++jC x:=fun x=>List.take_of_length_le (by rw[List.length_append,l2,qN];omega)
 have hl:(zDa 54 key++b).length=64+b.length:=by simp[l1]
 have hl2:(zDa 92 key++jC (zDa 54 key++b)).length=96:=by rw[List.length_append,l2,qN]
 simp(maxSteps:=9^9)(disch:=try exact dS)only[go_sem,qOx,h1,h2,m1,m2,l1,l2,qN,hl,t1,t2,t3,qP,zPj]
def zGn:Ct where
 α:=List UInt8×List UInt8
 aS x:=[.t (.sl (x.1.map qA)),.t (.sl (x.2.map qA))]
 ins _:=[]
 pre x:=x.1.length≤64∧x.2.length<500000000
 r _:= .sl 0 0 32
 outs x:=[.live 1 (((zPj x.1 x.2).map qA).map V.t) true false]
 inj:=by
  rintro⟨a,b⟩ ⟨c,d⟩ h _;simp[jB] at h;obtain⟨rfl,rfl⟩:=h;exact⟨rfl,rfl⟩
theorem jEl {k b:List UInt8}(h:k.length≤64∧b.length<500000000):zGn.fs [.t (.sl (k.map qA)),.t (.sl (b.map qA))] []=some (.sl 0 0 32,[.live 1 (((zPj k b).map qA).map V.t) true false]):=zGn.eq (k,b) h
def qMf (n:Nat):List UInt8:=[UInt8.ofNat (n/16777216),UInt8.ofNat (n/65536),UInt8.ofNat (n/256),UInt8.ofNat n]
theorem qEd {n:Nat}:(qMf n).length=4:=rfl
theorem zJ0 (n:Nat):qKo.1.wp tab gl (qF 0 [.t (.int .i64 n)]) (qF 0 []) (kU [] [(2,none)] 0 (fun r o=>r = .sl 0 0 4∧o=[.live 1 (((qMf n).map qA).map V.t) true true])):=by
 simp(maxSteps:=9^9)(disch:=try exact dS)only[go_sem,qKo,zOh,qMf,mcn]
def qXs:Ct where
 α:=Nat
 aS x:=[.t (.int .i64 x)]
 ins _:=[]
 pre _:=True
 r _:= .sl 0 0 4
 outs x:=[.live 1 (((qMf x).map qA).map V.t) true true]
 inj:=by
  intro a b h _;simp only[List.cons.injEq,V.t.injEq,T.int.injEq,true_and,and_true,Int.natCast_inj] at h;subst h;exact⟨rfl,rfl⟩
theorem zL4 {n:Nat}:qXs.fs [.t (.int .i64 n)] []=some (.sl 0 0 4,[.live 1 (((qMf n).map qA).map V.t) true true]):=qXs.eq n trivial
theorem zDk {nb id n:Nat}{a:List UInt8}:qB4 nb [.sl id 0 n,.t (qN9 a)]=Q.get id fun x=>match x with
  | .live z' es true full=>Q.assert (z'=1∧es.length=n∧qCo (n+a.length) 1∧100≤id) (.free nb (.ret (.sl nb 0 (n+a.length),[(id,.dead),(nb,.live 1 (es++(a.map qA).map V.t) true false)])))
  | x=> .fail:=by
 have e : ∀ st:ByteArray,st.size=a.length→(st.data.toList.map fun b=>V.t (qA b))=(a.map qA).map V.t→qB4 nb [.sl id 0 n,.t (.str st)]=Q.get id fun x=>match x with
  | .live z' es true full=>Q.assert (z'=1∧es.length=n∧qCo (n+a.length) 1∧100≤id) (.free nb (.ret (.sl nb 0 (n+a.length),[(id,.dead),(nb,.live 1 (es++(a.map qA).map V.t) true false)])))
  | x=> .fail:=fun st h1 h2=>by
  simp only[qB4,h1,h2];congr 1
 exact e _ (by simp[ByteArray.size]) sM
attribute [go_sem ↓] zDk
def drT (label ctx:List UInt8)(n:Nat):List UInt8:=label++[0]++ctx++qMf (8*n)
def drR (key rest:List UInt8)(k:Nat):List UInt8:=(List.range k).flatMap fun i=>zPj key (qMf (i+1)++rest)
def drv (key label ctx:List UInt8)(n:Nat):List UInt8:=(drR key (drT label ctx n) ((n+31)/32)).take n
theorem qPb {key rest:List UInt8} : ∀ {k:Nat},(drR key rest k).length=32*k
 | 0=>rfl
 | k+1=>by
  have:=qPb (key:=key) (rest:=rest) (k:=k);simp only[drR] at this ⊢;rw[List.range_succ,List.flatMap_append,List.length_append,this];simp[qTi];omega
theorem zQn {key rest:List UInt8}{k:Nat}:drR key rest (k+1)=drR key rest k++zPj key (qMf (k+1)++rest):=by
 simp[drR,List.range_succ]
theorem kA {key label ctx:List UInt8}{n:Nat}:(drv key label ctx n).length=n:=by
 rw[drv,List.length_take,qPb];omega
theorem zCp (h1:LkC tab 98 qXs)(h2:LkC tab 99 zGn)(key label ctx:List UInt8)(n:Nat)(hk:key.length≤64)(hl:label.length<100000000)(hc:ctx.length<100000000)(hn:n≤1024) :
  qCq.1.wp tab gl (qF 0 [.t (.sl (key.map qA)),.t (qN9 label),.t (.sl (ctx.map qA)),.t (.int .i64 n)]) (qF 0 []) (zD [(8,none)] 0 (fun r o=>r = .t (.sl ((drv key label ctx n).map qA))∧o=[])):=by
 rcases Nat.eq_zero_or_pos n with rfl | hn0
 ·rw[show drv key label ctx 0=[] from rfl];simp(maxSteps:=9^9)(disch:=try exact dS)only[go_sem,qCq]
 have t4:List.take 4 (qMf (8*n))=qMf (8*n):=rfl;have lD:(drT label ctx n).length=label.length+1+ctx.length+4:=by simp[drT,qMf];omega
 simp(maxSteps:=9^9)(disch:=try exact dS)only[go_sem,qCq,h1,h2,zL4,qEd,t4];have hD:label++[0]++ctx++qMf (8*n)=drT label ctx n:=rfl;rw[hD];generalize hr:drT label ctx n=rest at *;have hm:label.length+1+ctx.length+4<300000000:=oM;generalize label.length+1+ctx.length+4=m at *;refine qB ((n+31)/32) (fun k=>[(0,.t (.sl (key.map qA))),(3,.t (.int .i64 n)),(9,.sl 20544 0 m),(10,.sl 9000 0 (32*k)),(11,.t (.int .i64 ((k+1:Nat):Int)))]) (fun k=>[(9000,.live 1 (((drR key rest k).map qA).map V.t) true false),(20544,.live 1 ((rest.map qA).map V.t) true false)]) ?_ (fun k hk'=>?_)
 ·refine qJ.cv0 (hv:=[(9000,.live 1 [] true false)]) (ho:=[(20544,.live 1 ((rest.map qA).map V.t) true false)]) id ?_ ?_ rfl rfl;all_goals simp(maxSteps:=9^9)(disch:=try exact dS)only[go_sem,id]
  all_goals rfl
 ·have hR:=qPb (key:=key) (rest:=rest) (k:=k);by_cases hlt:32*k<n
  ·have t5:List.take m rest=rest:=List.take_of_length_le oM;have t6:List.take (4+m) (qMf (k+1)++rest)=qMf (k+1)++rest:=List.take_of_length_le (by rw[List.length_append,qEd];omega);have hM:=jEl (k:=key) (b:=qMf (k+1)++rest) ⟨hk,by rw[List.length_append,qEd];omega⟩;simp(maxSteps:=9^9)(disch:=try exact dS)only[go_sem,h1,h2,zL4,qEd,hR,t5,t6,lD,hM,qTi,zMf];refine⟨oM,qJ.rd (fun j=>if j=9000 then 41072 else j) ?_ ?_ rfl⟩;all_goals simp(maxSteps:=9^9)(disch:=try exact dS)only[go_sem,id,zQn]
   all_goals first | omega | rfl
  ·have e:k=(n+31)/32:=oM;subst e;simp(maxSteps:=9^9)(disch:=try exact dS)only[go_sem,hR,drv,hr]
def qS0:Ct where
 α:=List UInt8×List UInt8×List UInt8×Nat
 aS x:=[.t (.sl (x.1.map qA)),.t (qN9 x.2.1),.t (.sl (x.2.2.1.map qA)),.t (.int .i64 x.2.2.2)]
 ins _:=[]
 pre x:=x.1.length≤64∧x.2.1.length<100000000∧x.2.2.1.length<100000000∧x.2.2.2≤1024
 r x:= .t (.sl ((drv x.1 x.2.1 x.2.2.1 x.2.2.2).map qA))
 outs _:=[]
 inj:=by
  rintro⟨a,b,c,d⟩ ⟨e,f,g,h⟩ hh _;simp only[List.cons.injEq,V.t.injEq,T.int.injEq,T.sl.injEq,true_and,and_true,jB,zHt,Int.natCast_inj] at hh;obtain⟨rfl,rfl,rfl,rfl⟩:=hh;exact⟨rfl,rfl⟩
theorem zGv {k l c:List UInt8}{n:Nat}(h:k.length≤64∧l.length<100000000∧c.length<100000000∧1≤n∧n≤1024):qS0.fs [.t (.sl (k.map qA)),.t (qN9 l),.t (.sl (c.map qA)),.t (.int .i64 n)] []=some (.t (.sl ((drv k l c n).map qA)),[]):=qS0.eq (k,l,c,n) ⟨h.1,h.2.1,h.2.2.1,h.2.2.2.2⟩
end Go.Eng
end
