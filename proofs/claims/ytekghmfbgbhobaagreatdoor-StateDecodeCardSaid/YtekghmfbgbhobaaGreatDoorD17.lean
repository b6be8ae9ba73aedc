/- A part of an abstract machine, its walks, their tie. -/
import Derived.Test.YtekghmfbgbhobaaGreatDoorD16
import Derived.Test.YtekghmfbgbhobaaGreatDoorD9
set_option linter.all false
section
set_option maxHeartbeats 8000000
set_option maxRecDepth 20000
namespace Go.Eng
variable (tab:Tab) (gl:Gl)
def zBc (n:Nat):Nat:=(119-n%64)%64
def beL (n k:Nat):List UInt8:=(List.range k).map fun i=>UInt8.ofNat (n/2^(56-8*i))
def kJ (bs:List UInt8):List UInt8:=bs++[128]++List.replicate (zBc bs.length) 0++beL (bs.length*8) 8
theorem zKf {n:Nat}:beL n 0=[]:=rfl
theorem qHb {n k:Nat}:(beL n k).length=k:=by simp[beL]
theorem zKe {n k:Nat}:beL n (k+1)=beL n k++[UInt8.ofNat (n/2^(56-8*k))]:=by simp[beL,List.range_succ]
theorem zGe (bs:List UInt8)(hb:bs.length<1000000000):qHs.1.wp tab gl (qE 0 [.t (.sl (bs.map qA))]) (qE 0 []) (xU [] [(2,none)] 0 (fun r o=>r = .sl 0 0 (kJ bs).length∧o=[.live 1 (((kJ bs).map qA).map V.t) true false])):=by
 have hz:zBc bs.length=(119-bs.length%64)%64:=rfl;simp(disch:=omega)only[go_sem,qHs];refine qD (zBc bs.length) (fun k=>[(0,.t (.sl (bs.map qA))),(3,.sl 8304 0 (bs.length+1+k))]) (fun k=>[(8304,.live 1 (((bs++[128]++List.replicate k 0).map qA).map V.t) true false)]) ?_ (fun k hk=>?_)
 ·refine qI.rd id ?_ ?_ rfl;all_goals simp(disch:=omega)only[go_sem,id]
 ·by_cases hlt:k<zBc bs.length
  ·simp(disch:=omega)only[go_sem];refine⟨hlt,qI.rd (fun _=>16416) ?_ ?_ rfl⟩;all_goals simp(disch:=omega)only[go_sem,List.replicate_succ',List.append_assoc,Nat.add_assoc]
  ·have e:k=zBc bs.length:=oM;subst e;simp(disch:=omega)only[go_sem];refine qD 8 (fun k=>[(3,.sl 8304 0 (bs.length+1+zBc bs.length+k)),(4,V.t (T.int IntKind.u64 (bs.length*8:Nat))),(5,.t (.int .i64 (56-((8*k:Nat):Int))))]) (fun k=>[(8304,.live 1 (((bs++[128]++List.replicate (zBc bs.length) 0++beL (bs.length*8) k).map qA).map V.t) true false)]) ?_ (fun k hk=>?_)
   ·refine qI.rd id ?_ ?_ rfl;all_goals simp(disch:=omega)only[go_sem,id,zKf,List.append_nil]
   ·by_cases hlt:k<8
    ·simp(disch:=omega)only[go_sem,qHb];refine⟨hlt,qI.rd (fun _=>36976) ?_ ?_ rfl⟩;all_goals simp(disch:=omega)only[go_sem,zKe,List.append_assoc,Nat.add_assoc]
     omega
    ·have e:k=8:=oM;subst e;simp(disch:=omega)only[go_sem,qHb,kJ]
theorem zCy (a:Int):qAm.1.wp tab gl (qE 0 [.t (.int .i64 a)]) (qE 0 []) (qX [(2,none)] 0 (fun r o=>r = .t (.int .i64 (if a=0 then 20 else if a=1 then 32 else 0))∧o=[])):=by
 by_cases h0:a=0
 ·subst h0;simp(disch:=omega)only[go_sem,qAm]
 ·by_cases h1:a=1
  ·subst h1;simp(disch:=omega)only[go_sem,qAm]
  ·simp(disch:=omega)only[go_sem,qAm,h0,h1]
theorem zJk (a:Int):qC4.1.wp tab gl (qE 0 [.t (.int .i64 a)]) (qE 0 []) (qX [(2,none)] 0 (fun r o=>r = .t (.int .i64 (if a=0 then 20 else if a=1 then 32 else 0))∧o=[])):=by
 by_cases h0:a=0
 ·subst h0;simp(disch:=omega)only[go_sem,qC4]
 ·by_cases h1:a=1
  ·subst h1;simp(disch:=omega)only[go_sem,qC4]
  ·simp(disch:=omega)only[go_sem,qC4,h0,h1]
def qZ6 (bs:List UInt8)(i:Nat):UInt32:=(bs.getD (4*i) 0).toUInt32 <<< 24 ||| (bs.getD (4*i+1) 0).toUInt32 <<< 16 ||| (bs.getD (4*i+2) 0).toUInt32 <<< 8 ||| (bs.getD (4*i+3) 0).toUInt32
theorem zCz (bs:List UInt8)(i:Nat)(hi:4*i+3<bs.length)(hb:bs.length<1000000000):qGa.1.wp tab gl (qE 0 [.t (.sl (bs.map qA)),.t (.int .i64 i)]) (qE 0 []) (qX [(4,none)] 0 (fun r o=>r = .t (jE (qZ6 bs i))∧o=[])):=by
 simp(disch:=omega)only[go_sem,qGa];exact⟨rfl,rfl⟩
theorem zJo (bs:List UInt8)(i:Nat)(hi:4*i+3<bs.length)(hb:bs.length<1000000000):qJ8.1.wp tab gl (qE 0 [.t (.sl (bs.map qA)),.t (.int .i64 i)]) (qE 0 []) (qX [(4,none)] 0 (fun r o=>r = .t (jE (qZ6 bs i))∧o=[])):=by
 simp(disch:=omega)only[go_sem,qJ8];exact⟨rfl,rfl⟩
def qUy (x:UInt32)(n:Nat):UInt32:=x >>> UInt32.ofNat n ||| x <<< UInt32.ofNat (32-n)
theorem zJn (x:UInt32)(n:Nat)(h:0<n∧n<32):qJ7.1.wp tab gl (qE 0 [.t (jE x),.t (.int .u64 n)]) (qE 0 []) (qX [(4,none)] 0 (fun r o=>r = .t (jE (qUy x n))∧o=[])):=by
 simp(disch:=omega)only[go_sem,qJ7];rfl
theorem zJm (x:UInt32)(n:Nat)(h:0<n∧n<32):qJ6.1.wp tab gl (qE 0 [.t (jE x),.t (.int .u64 n)]) (qE 0 []) (qX [(4,none)] 0 (fun r o=>r = .t (jE (qUy x (32-n)))∧o=[])):=by
 simp(disch:=omega)only[go_sem,qJ6];rw[qUy,UInt32.or_comm,show 32-(32-n)=n by omega]
theorem qPw (x:UInt32)(n:Int)(h : -32<n∧n<32∧n≠0):qAd.1.wp tab gl (qE 0 [.t (jE x),.t (.int .i64 n)]) (qE 0 []) (qX [(4,none)] 0 (fun r o=>r = .t (jE (qUy x ((32-n)%32).toNat))∧o=[])):=by
 have e:IntKind.u64.wrap n%32=((32-(32-n).toNat%32:Nat):Int):=by rw[qU9];omega
 have e2:((32-n)%32).toNat=(32-n).toNat%32:=oM;have e3:32-(32-(32-n).toNat%32)=(32-n).toNat%32:=oM;simp(disch:=omega)only[go_sem,qAd,e,e2,e3];rw[qUy,UInt32.or_comm]
def qW0 (w:UInt32):List UInt8:=[(w >>> 24).toUInt8,(w >>> 16).toUInt8,(w >>> 8).toUInt8,w.toUInt8]
def qBc (ws:List UInt32):List UInt8:=ws.flatMap qW0
theorem qG4 (ws:List UInt32):(qBc ws).length=4*ws.length:=by
 induction ws with
 | nil=>rfl
 | cons w r ih=>simp only[qBc,List.flatMap_cons,List.length_append] at *;rw[ih];simp[qW0];omega
theorem qTq {ws:List UInt32}{k:Nat}(h:k<ws.length):qBc (ws.take (k+1))=qBc (ws.take k)++qW0 (ws.getD k 0):=by
 rw[qCh (d:=0) h];simp[qBc]
theorem qXm (ws:List UInt32)(hb:ws.length<1000000000):qDe.1.wp tab gl (qE 0 [.t (.sl (ws.map jE))]) (qE 0 []) (xU [] [(2,none)] 0 (fun r o=>r = .sl 0 0 (4*ws.length)∧o=[.live 1 (((qBc ws).map qA).map V.t) true false])):=by
 simp(disch:=omega)only[go_sem,↓reduceIte,Nat.reduceAdd,Int.reduceLE,reduceCtorEq,qDe];refine qD ws.length (fun k=>[(3,.sl 8240 0 (4*k)),(10,.t (.sl (ws.map jE))),(11,.t (.int .i64 ws.length)),(12,.t (.int .i64 k))]) (fun k=>[(8240,.live 1 (((qBc (ws.take k)).map qA).map V.t) true false)]) ?_ (fun k hk=>?_)
 ·refine qI.rd id ?_ ?_ rfl;all_goals simp(disch:=omega)only[go_sem,↓reduceIte,Nat.reduceAdd,Nat.reduceEqDiff,Nat.reduceMul,id,qBc,List.flatMap_nil,List.map_nil]
 ·have hl:(qBc (ws.take k)).length=4*k:=by rw[qG4,List.length_take];omega
  by_cases hlt:k<ws.length
  ·simp(disch:=omega)only[go_sem,↓reduceIte,Nat.reduceAdd,Nat.reduceEqDiff,Nat.reduceLT,Nat.reduceLeDiff,hl];refine⟨hlt,qI.rd (fun _=>24784) ?_ ?_ rfl⟩;all_goals simp(disch:=omega)only[go_sem,↓reduceIte,Nat.reduceAdd,Nat.reduceEqDiff,qTq,qW0]
   ·omega
   ·simp only[List.append_assoc,List.cons_append,List.nil_append];rfl
  ·have e:k=ws.length:=oM;subst e;rw[List.take_length] at hl;simp(disch:=omega)only[go_sem,↓reduceIte,Nat.reduceAdd,Nat.reduceEqDiff,hl,List.take_length]
def jXe (x:UInt32):UInt32:=qUy x 7 ^^^ qUy x 18 ^^^ x >>> 3
def jXf (x:UInt32):UInt32:=qUy x 17 ^^^ qUy x 19 ^^^ x >>> 10
def qCw (bs:List UInt8):Nat→List UInt32
 | 0=>List.replicate 64 0
 | t+1=>let w:=qCw bs t
  w.set t (if t<16 then qZ6 bs t else jXf (w.getD (t-2) 0)+w.getD (t-7) 0+jXe (w.getD (t-15) 0)+w.getD (t-16) 0)
theorem qTo {bs:List UInt8}{t:Nat}:(qCw bs t).length=64:=by
 induction t with
 | zero=>rfl
 | succ t ih=>simp only[qCw,List.length_set,ih]
def qIo:Ct where
 α:=List UInt8×Nat
 aS x:=[.t (.sl (x.1.map qA)),.t (.int .i64 x.2)]
 ins _:=[]
 pre x:=4*x.2+3<x.1.length∧x.1.length<1000000000
 r x:= .t (jE (qZ6 x.1 x.2))
 outs _:=[]
 inj:=by
  rintro⟨a,b⟩ ⟨c,d⟩ h _;simp[yD,Int.natCast_inj] at h;obtain⟨rfl,rfl⟩:=h;exact⟨rfl,rfl⟩
theorem zDd {bs:List UInt8}{i:Nat}(h:4*i+3<bs.length∧bs.length<1000000000):qIo.fs [.t (.sl (bs.map qA)),.t (.int .i64 i)] []=some (.t (jE (qZ6 bs i)),[]):=qIo.eq (bs,i) h
def qSa:Ct where
 α:=UInt32×Int
 aS x:=[.t (jE x.1),.t (.int .i64 x.2)]
 ins _:=[]
 pre x := -32<x.2∧x.2<32∧x.2≠0
 r x:= .t (jE (qUy x.1 ((32-x.2)%32).toNat))
 outs _:=[]
 inj:=by
  rintro⟨a,b⟩ ⟨c,d⟩ h _;simp[zBv] at h;obtain⟨rfl,rfl⟩:=h;exact⟨rfl,rfl⟩
theorem qPq {x:UInt32}{i:Int}(h : -32<i∧i<32∧i≠0):qSa.fs [.t (jE x),.t (.int .i64 i)] []=some (.t (jE (qUy x ((32-i)%32).toNat)),[]):=qSa.eq (x,i) h
def zDi:List UInt32:=[0x428a2f98,0x71374491,0xb5c0fbcf,0xe9b5dba5,0x3956c25b,0x59f111f1,0x923f82a4,0xab1c5ed5,0xd807aa98,0x12835b01,0x243185be,0x550c7dc3,0x72be5d74,0x80deb1fe,0x9bdc06a7,0xc19bf174,0xe49b69c1,0xefbe4786,0x0fc19dc6,0x240ca1cc,0x2de92c6f,0x4a7484aa,0x5cb0a9dc,0x76f988da,0x983e5152,0xa831c66d,0xb00327c8,0xbf597fc7,0xc6e00bf3,0xd5a79147,0x06ca6351,0x14292967,0x27b70a85,0x2e1b2138,0x4d2c6dfc,0x53380d13,0x650a7354,0x766a0abb,0x81c2c92e,0x92722c85,0xa2bfe8a1,0xa81a664b,0xc24b8b70,0xc76c51a3,0xd192e819,0xd6990624,0xf40e3585,0x106aa070,0x19a4c116,0x1e376c08,0x2748774c,0x34b0bcb5,0x391c0cb3,0x4ed8aa4a,0x5b9cca4f,0x682e6ff3,0x748f82ee,0x78a5636f,0x84c87814,0x8cc70208,0x90befffa,0xa4506ceb,0xbef9a3f7,0xc67178f2]
def rnd (k w:UInt32)(s:List UInt32):List UInt32:=
 let a:=s.getD 0 0
 let e:=s.getD 4 0
 let t1:=s.getD 7 0+(qUy e 6 ^^^ qUy e 11 ^^^ qUy e 25)+((e &&& s.getD 5 0) ^^^ (~~~e &&& s.getD 6 0))+k+w
 let t2:=(qUy a 2 ^^^ qUy a 13 ^^^ qUy a 22)+((a &&& s.getD 1 0) ^^^ (a &&& s.getD 2 0) ^^^ (s.getD 1 0 &&& s.getD 2 0))
 [t1+t2,s.getD 0 0,s.getD 1 0,s.getD 2 0,s.getD 3 0+t1,s.getD 4 0,s.getD 5 0,s.getD 6 0]
def qCg (ws hs:List UInt32):Nat→List UInt32
 | 0=>hs
 | t+1=>rnd (zDi.getD t 0) (ws.getD t 0) (qCg ws hs t)
theorem qQz {ws hs:List UInt32}{t:Nat}(h:hs.length=8):(qCg ws hs t).length=8:=by
 cases t with
 | zero=>exact h
 | succ t=>rfl
def zL4 (hs s:List UInt32):Nat→List UInt32
 | 0=>hs
 | i+1=>(zL4 hs s i).set i ((zL4 hs s i).getD i 0+s.getD i 0)
theorem qM2 {hs s:List UInt32}{i:Nat}:(zL4 hs s i).length=hs.length:=by
 induction i with
 | zero=>rfl
 | succ i ih=>simp only[zL4,List.length_set,ih]
def kV (hs:List UInt32)(bs:List UInt8):List UInt32:=zL4 hs (qCg (qCw bs 64) hs 64) 8
theorem qMj (h1:LkC tab 178 qIo)(h2:LkC tab 179 qSa)(hg:gl 1=some (zDi.map jE))(bs:List UInt8)(hs:List UInt32)(hb:bs.length=64)(hh:hs.length=8) :
  xA.1.wp tab gl (qE 0 [.ref 0 0 0,.t (.sl (bs.map qA))]) (qE 0 [.live 1 ((hs.map jE).map V.t) true true]) (qX [] 1 (fun r o=>r = .tup []∧o=[.live 1 (((kV hs bs).map jE).map V.t) true true])):=by
 have ht:hs.take 8=hs:=List.take_of_length_le oM;simp(disch:=omega)only[go_sem,xA];refine qD 64 (fun k=>[(17,.t (.int .i64 k)),(4,.ref 4096 0 0),(0,.ref 0 0 0),(1,V.t (T.sl (List.map qA bs)))]) (fun k=>[(4096,.live 1 (((qCw bs k).map jE).map V.t) true true),(0,.live 1 ((hs.map jE).map V.t) true true)]) ?_ (fun k hk=>?_)
 ·refine qI.rd id ?_ ?_ rfl;all_goals simp(disch:=omega)only[go_sem,id,qCw]
 ·have hl:(qCw bs k).length=64:=qTo;by_cases hlt:k<64
  ·by_cases h16:k<16
   ·simp(disch:=omega)only[go_sem,h1,h2,zDd,hl];refine⟨hlt,qI.rd id ?_ ?_ rfl⟩;all_goals simp(disch:=omega)only[go_sem,id,qCw,if_pos h16]
   ·simp(disch:=omega)only[go_sem,h1,h2,qPq,hl];refine⟨rfl,rfl,hlt,qI.rd id ?_ ?_ rfl⟩;all_goals simp(disch:=omega)only[go_sem,id,qCw,if_neg h16]
    rfl
  ·have e:k=64:=oM;subst e;simp(disch:=omega)only[go_sem,ht,hh];refine qD 64 (fun k=>[(70,.t (.int .i64 k)),(4,.ref 4096 0 0),(0,.ref 0 0 0),(10,.ref 49200 0 0)]) (fun k=>[(49200,.live 1 (((qCg (qCw bs 64) hs k).map jE).map V.t) true true),(4096,.live 1 (((qCw bs 64).map jE).map V.t) true true),(0,.live 1 ((hs.map jE).map V.t) true true)]) ?_ (fun k hk=>?_)
   ·refine qI.rd id ?_ ?_ rfl;all_goals simp(disch:=omega)only[go_sem,id,qCg]
   ·have hl2:(qCg (qCw bs 64) hs k).length=8:=qQz hh;by_cases hlt:k<64
    ·have hk2:zDi.length=64:=rfl;simp(maxSteps:=9^9)(disch:=try exact dS)only[go_sem,h1,h2,qPq,hl,hl2,hg,hk2];repeat refine And.intro rfl ?_
     refine⟨hlt,qI.rd id ?_ ?_ rfl⟩;all_goals simp(disch:=omega)only[go_sem,id,qCg,rnd,List.drop_eq_nil_of_le (show (qCg (qCw bs 64) hs k).length≤8 by omega)]
    ·have e:k=64:=oM;subst e;simp(disch:=omega)only[go_sem];refine qD 8 (fun k=>[(152,.t (.int .i64 k)),(0,.ref 0 0 0),(10,.ref 49200 0 0)]) (fun k=>[(49200,.live 1 (((qCg (qCw bs 64) hs 64).map jE).map V.t) true true),(0,.live 1 (((zL4 hs (qCg (qCw bs 64) hs 64) k).map jE).map V.t) true true)]) ?_ (fun k hk=>?_)
     ·refine qI.rd id ?_ ?_ rfl;all_goals simp(disch:=omega)only[go_sem,id,zL4]
     ·have hl3:(zL4 hs (qCg (qCw bs 64) hs 64) k).length=8:=by rw[qM2,hh]
      by_cases hlt:k<8
      ·simp(disch:=omega)only[go_sem,hl2,hl3];refine⟨rfl,hlt,qI.rd id ?_ ?_ rfl⟩;all_goals simp(disch:=omega)only[go_sem,id,zL4]
      ·have e:k=8:=oM;subst e;simp(disch:=omega)only[go_sem,kV]
theorem qFn (bs:List UInt8):(kJ bs).length=bs.length+1+zBc bs.length+8:=by
 simp only[kJ,List.length_append,List.length_replicate,qHb,List.length_cons,List.length_nil]
theorem qUv (bs:List UInt8):(kJ bs).length%64=0:=by
 rw[qFn,zBc];omega
def hN (comp:List UInt32→List UInt8→List UInt32)(iv:List UInt32)(p:List UInt8):Nat→List UInt32
 | 0=>iv
 | k+1=>comp (hN comp iv p k) ((p.drop (64*k)).take 64)
def jAx (comp:List UInt32→List UInt8→List UInt32)(iv:List UInt32)(bs:List UInt8):List UInt8:=qBc (hN comp iv (kJ bs) ((kJ bs).length/64))
def qSi:List UInt32:=[0x6a09e667,0xbb67ae85,0x3c6ef372,0xa54ff53a,0x510e527f,0x9b05688c,0x1f83d9ab,0x5be0cd19]
def yK (bs:List UInt8):List UInt8:=jAx kV qSi bs
theorem zQm {comp:List UInt32→List UInt8→List UInt32}{iv:List UInt32}{p:List UInt8}{n:Nat}(hc : ∀ h b,(comp h b).length=h.length)(hi:iv.length=n){k:Nat}:(hN comp iv p k).length=n:=by
 induction k with
 | zero=>exact hi
 | succ k ih=>rw[hN,hc,ih]
theorem qMm (h:List UInt32)(b:List UInt8):(kV h b).length=h.length:=qM2
theorem qV2 {p:List UInt8}{k:Nat}:(hN kV qSi p k).length=8:=zQm qMm rfl
def qQb:Ct where
 α:=List UInt8
 aS x:=[.t (.sl (x.map qA))]
 ins _:=[]
 pre x:=x.length<1000000000
 r x:= .sl 0 0 (kJ x).length
 outs x:=[.live 1 (((kJ x).map qA).map V.t) true false]
 inj:=by
  intro a b h _;simp[yD] at h;subst h;exact⟨rfl,rfl⟩
theorem zK9 {bs:List UInt8}(h:bs.length<1000000000):qQb.fs [.t (.sl (bs.map qA))] []=some (.sl 0 0 (kJ bs).length,[.live 1 (((kJ bs).map qA).map V.t) true false]):=qQb.eq bs h
def qB2:Ct where
 α:=List UInt32
 aS x:=[.t (.sl (x.map jE))]
 ins _:=[]
 pre x:=x.length<1000000000
 r x:= .sl 0 0 (4*x.length)
 outs x:=[.live 1 (((qBc x).map qA).map V.t) true false]
 inj:=by
  intro a b h _;simp[zKz] at h;subst h;exact⟨rfl,rfl⟩
theorem qRb {ws:List UInt32}(h:ws.length<1000000000):qB2.fs [.t (.sl (ws.map jE))] []=some (.sl 0 0 (4*ws.length),[.live 1 (((qBc ws).map qA).map V.t) true false]):=qB2.eq ws h
def qA7 (n:Nat)(comp:List UInt32→List UInt8→List UInt32):Ct where
 α:=List UInt32×List UInt8
 aS x:=[.ref 0 0 0,.t (.sl (x.2.map qA))]
 ins x:=[.live 1 ((x.1.map jE).map V.t) true true]
 pre x:=x.2.length=64∧x.1.length=n
 r _:= .tup []
 outs x:=[.live 1 (((comp x.1 x.2).map jE).map V.t) true true]
 inj:=by
  rintro⟨a,b⟩ ⟨c,d⟩ h1 h2;simp[yD] at h1;simp only[Ob.live.injEq,zVx,zKz,List.cons.injEq] at h2;obtain⟨⟨_,rfl,_,_⟩,_⟩:=h2;subst h1;exact⟨rfl,rfl⟩
theorem zO8 {n:Nat}{comp:List UInt32→List UInt8→List UInt32}{hs:List UInt32}{bs:List UInt8}(h:bs.length=64∧hs.length=n):(qA7 n comp).fs [.ref 0 0 0,.t (.sl (bs.map qA))] [.live 1 ((hs.map jE).map V.t) true true] =
  some (.tup [],[.live 1 (((comp hs bs).map jE).map V.t) true true]):=(qA7 n comp).eq (hs,bs) h
theorem qUe (h1:LkC tab 128 qQb)(h3:LkC tab 130 qB2)(h4:tab.look 131=some (qA7 8 kV).fs)(bs:List UInt8)(hb:bs.length<1000000000) :
  xX.1.wp tab gl (qE 0 [.t (.int .i64 1),.t (.sl (bs.map qA))]) (qE 0 []) (xU [] [(4,none)] 0 (fun r o=>r = .sl 0 0 32∧o=[.live 1 (((yK bs).map qA).map V.t) true false])):=by
 have hp:=qFn bs;have hm:=qUv bs;simp(disch:=omega)only[go_sem,xX,h1,zK9];refine qD ((kJ bs).length/64) (fun k=>[(8,V.sl 49168 (64*k) ((kJ bs).length-64*k)),(7,V.ref 45072 0 0)]) (fun k=>[(49168,.live 1 (((kJ bs).map qA).map V.t) true false),(45072,.live 1 (((hN kV qSi (kJ bs) k).map jE).map V.t) true true)]) ?_ (fun k hk=>?_)
 ·refine qI.rd id ?_ ?_ rfl;all_goals simp(disch:=omega)only[go_sem,id,hN,qSi,Nat.mul_zero,mcn]
 ·have hl:(hN kV qSi (kJ bs) k).length=8:=qV2;by_cases hlt:k<(kJ bs).length/64
  ·simp(maxSteps:=9^9)(disch:=try exact dS)only[go_sem,h4,zO8,hl];refine⟨hlt,qI.rd id ?_ ?_ rfl⟩;all_goals simp(maxSteps:=9^9)(disch:=try exact dS)only[go_sem,id,hN]
   omega
  ·have e:k=(kJ bs).length/64:=oM;subst e;have ht:List.take 8 (hN kV qSi (kJ bs) ((kJ bs).length/64))=hN kV qSi (kJ bs) ((kJ bs).length/64):=List.take_of_length_le oM;simp(disch:=omega)only[go_sem,h3,qRb,hl,ht,yK,jAx]
def wT (bs:List UInt8):Nat→List UInt32
 | 0=>List.replicate 80 0
 | t+1=>let w:=wT bs t
  w.set t (if t<16 then qZ6 bs t else qUy (w.getD (t-3) 0 ^^^ w.getD (t-8) 0 ^^^ w.getD (t-14) 0 ^^^ w.getD (t-16) 0) 31)
theorem qQ1 {bs:List UInt8}{t:Nat}:(wT bs t).length=80:=by
 induction t with
 | zero=>rfl
 | succ t ih=>simp only[wT,List.length_set,ih]
def f1 (t:Nat)(b c d:UInt32):UInt32:=if t<20 then (b &&& c) ^^^ (~~~b &&& d) else if t<40 then b ^^^ c ^^^ d else if t<60 then (b &&& c) ^^^ (b &&& d) ^^^ (c &&& d) else b ^^^ c ^^^ d
def k1 (t:Nat):UInt32:=if t<20 then 0x5a827999 else if t<40 then 0x6ed9eba1 else if t<60 then 0x8f1bbcdc else 0xca62c1d6
def zW7 (t:Nat)(w:UInt32)(s:List UInt32):List UInt32:=
 [qUy (s.getD 0 0) 27+f1 t (s.getD 1 0) (s.getD 2 0) (s.getD 3 0)+s.getD 4 0+k1 t+w,s.getD 0 0,qUy (s.getD 1 0) 2,s.getD 2 0,s.getD 3 0]
def vU (ws hs:List UInt32):Nat→List UInt32
 | 0=>hs
 | t+1=>zW7 t (ws.getD t 0) (vU ws hs t)
def qD6 (hs:List UInt32)(bs:List UInt8):List UInt32:=
 let s:=vU (wT bs 80) hs 80
 [hs.getD 0 0+s.getD 0 0,hs.getD 1 0+s.getD 1 0,hs.getD 2 0+s.getD 2 0,hs.getD 3 0+s.getD 3 0,hs.getD 4 0+s.getD 4 0]
theorem qRp (h1:LkC tab 178 qIo)(h2:LkC tab 179 qSa)(bs:List UInt8)(x0 x1 x2 x3 x4:UInt32)(hb:bs.length=64) :
  wV.1.wp tab gl (qE 0 [.ref 0 0 0,.t (.sl (bs.map qA))]) (qE 0 [.live 1 (([x0,x1,x2,x3,x4].map jE).map V.t) true true]) (qX [] 1 (fun r o=>r = .tup []∧o=[.live 1 (((qD6 [x0,x1,x2,x3,x4] bs).map jE).map V.t) true true])):=by
 simp(disch:=omega)only[go_sem,wV];refine qD 80 (fun k=>[(14,.t (.int .i64 k)),(4,.ref 4096 0 0),(0,.ref 0 0 0),(1,V.t (T.sl (List.map qA bs)))]) (fun k=>[(4096,.live 1 (((wT bs k).map jE).map V.t) true true),(0,.live 1 [.t (jE x0),.t (jE x1),.t (jE x2),.t (jE x3),.t (jE x4)] true true)]) ?_ (fun k hk=>?_)
 ·refine qI.rd id ?_ ?_ rfl;all_goals simp(disch:=omega)only[go_sem,id,wT]
 ·have hl:(wT bs k).length=80:=qQ1;by_cases hlt:k<80
  ·by_cases h16:k<16
   ·simp(disch:=omega)only[go_sem,h1,h2,zDd,hl];refine⟨hlt,qI.rd id ?_ ?_ rfl⟩;all_goals simp(disch:=omega)only[go_sem,id,wT,if_pos h16]
   ·simp(disch:=omega)only[go_sem,h1,h2,qPq,hl];repeat refine And.intro rfl ?_
    refine⟨hlt,qI.rd id ?_ ?_ rfl⟩;all_goals simp(disch:=omega)only[go_sem,id,wT,if_neg h16]
  ·have e:k=80:=oM;subst e;simp(disch:=omega)only[go_sem];repeat refine And.intro rfl ?_
   refine qD 80 (fun k=>[(67,.t (.int .i64 k)),(4,.ref 4096 0 0),(0,.ref 0 0 0),(6,.t (jE ((vU (wT bs 80) [x0,x1,x2,x3,x4] k).getD 0 0))),(7,.t (jE ((vU (wT bs 80) [x0,x1,x2,x3,x4] k).getD 1 0))),(8,.t (jE ((vU (wT bs 80) [x0,x1,x2,x3,x4] k).getD 2 0))),(9,.t (jE ((vU (wT bs 80) [x0,x1,x2,x3,x4] k).getD 3 0))),(10,.t (jE ((vU (wT bs 80) [x0,x1,x2,x3,x4] k).getD 4 0)))])
    (fun k=>[(4096,.live 1 (((wT bs 80).map jE).map V.t) true true),(0,.live 1 [.t (jE x0),.t (jE x1),.t (jE x2),.t (jE x3),.t (jE x4)] true true)]) ?_ (fun k hk=>?_)
   ·refine qI.rd id ?_ ?_ rfl;all_goals simp(disch:=omega)only[go_sem,id,vU,List.getD_cons_zero,List.getD_cons_succ]
   ·by_cases hlt:k<80
    ·by_cases h20:k<20
     ·have e0:k/20=0:=oM;simp(disch:=omega)only[go_sem,h1,h2,qPq,hl,e0];repeat refine And.intro rfl ?_
      refine⟨hlt,qI.rd id ?_ ?_ rfl⟩;all_goals simp(disch:=omega)only[go_sem,id,vU,zW7,f1,k1,if_pos h20,List.getD_cons_zero,List.getD_cons_succ]
     ·by_cases h40:k<40
      ·have e0:k/20=1:=oM;simp(disch:=omega)only[go_sem,h1,h2,qPq,hl,e0];repeat refine And.intro rfl ?_
       refine⟨hlt,qI.rd id ?_ ?_ rfl⟩;all_goals simp(disch:=omega)only[go_sem,id,vU,zW7,f1,k1,if_neg h20,if_pos h40,List.getD_cons_zero,List.getD_cons_succ]
      ·by_cases h60:k<60
       ·have e0:k/20=2:=oM;simp(disch:=omega)only[go_sem,h1,h2,qPq,hl,e0];repeat refine And.intro rfl ?_
        refine⟨hlt,qI.rd id ?_ ?_ rfl⟩;all_goals simp(disch:=omega)only[go_sem,id,vU,zW7,f1,k1,if_neg h20,if_neg h40,if_pos h60,List.getD_cons_zero,List.getD_cons_succ]
       ·have e0:k/20=3:=oM;simp(disch:=omega)only[go_sem,h1,h2,qPq,hl,e0];repeat refine And.intro rfl ?_
        refine⟨hlt,qI.rd id ?_ ?_ rfl⟩;all_goals simp(disch:=omega)only[go_sem,id,vU,zW7,f1,k1,if_neg h20,if_neg h40,if_neg h60,List.getD_cons_zero,List.getD_cons_succ]
    ·have e:k=80:=oM;subst e;simp(disch:=omega)only[go_sem,qD6,List.getD_cons_zero,List.getD_cons_succ];repeat refine And.intro rfl ?_
     rfl
def iv1:List UInt32:=[0x67452301,0xefcdab89,0x98badcfe,0x10325476,0xc3d2e1f0]
theorem zD7 {p:List UInt8}{k:Nat}:(hN qD6 iv1 p k).length=5:=by
 cases k<;>rfl
def zBq (bs:List UInt8):List UInt8:=jAx qD6 iv1 bs
theorem qY6 (h1:LkC tab 128 qQb)(h3:LkC tab 130 qB2)(h4:tab.look 129=some (qA7 5 qD6).fs)(bs:List UInt8)(hb:bs.length<1000000000) :
  xX.1.wp tab gl (qE 0 [.t (.int .i64 0),.t (.sl (bs.map qA))]) (qE 0 []) (xU [] [(4,none)] 0 (fun r o=>r = .sl 0 0 20∧o=[.live 1 (((zBq bs).map qA).map V.t) true false])):=by
 have hp:=qFn bs;have hm:=qUv bs;simp(disch:=omega)only[go_sem,xX,h1,zK9];refine qD ((kJ bs).length/64) (fun k=>[(6,V.sl 20496 (64*k) ((kJ bs).length-64*k)),(5,V.ref 16400 0 0)]) (fun k=>[(20496,.live 1 (((kJ bs).map qA).map V.t) true false),(16400,.live 1 (((hN qD6 iv1 (kJ bs) k).map jE).map V.t) true true)]) ?_ (fun k hk=>?_)
 ·refine qI.rd id ?_ ?_ rfl;all_goals simp(disch:=omega)only[go_sem,id,hN,iv1,Nat.mul_zero,mcn]
 ·have hl:(hN qD6 iv1 (kJ bs) k).length=5:=zD7;by_cases hlt:k<(kJ bs).length/64
  ·simp(maxSteps:=9^9)(disch:=try exact dS)only[go_sem,h4,zO8,hl];refine⟨hlt,qI.rd id ?_ ?_ rfl⟩;all_goals simp(maxSteps:=9^9)(disch:=try exact dS)only[go_sem,id,hN]
   omega
  ·have e:k=(kJ bs).length/64:=oM;subst e;have ht:List.take 5 (hN qD6 iv1 (kJ bs) ((kJ bs).length/64))=hN qD6 iv1 (kJ bs) ((kJ bs).length/64):=List.take_of_length_le oM;simp(disch:=omega)only[go_sem,h3,qRb,hl,ht,zBq,jAx]
theorem zN6 (bs:List UInt8)(hb:bs.length<1000000000):qMx.1.wp tab gl (qE 0 [.t (.sl (bs.map qA))]) (qE 0 []) (xU [] [(2,none)] 0 (fun r o=>r = .sl 0 0 (kJ bs).length∧o=[.live 1 (((kJ bs).map qA).map V.t) true false])):=by
 have hz:zBc bs.length=(119-bs.length%64)%64:=rfl;simp(disch:=omega)only[go_sem,qMx];refine qD (zBc bs.length) (fun k=>[(0,.t (.sl (bs.map qA))),(3,.sl 8256 0 (bs.length+1+k))]) (fun k=>[(8256,.live 1 (((bs++[128]++List.replicate k 0).map qA).map V.t) true false)]) ?_ (fun k hk=>?_)
 ·refine qI.rd id ?_ ?_ rfl;all_goals simp(disch:=omega)only[go_sem,id]
 ·by_cases hlt:k<zBc bs.length
  ·simp(disch:=omega)only[go_sem];refine⟨hlt,qI.rd (fun _=>16416) ?_ ?_ rfl⟩;all_goals simp(disch:=omega)only[go_sem,List.replicate_succ',List.append_assoc,Nat.add_assoc]
  ·have e:k=zBc bs.length:=oM;subst e;simp(disch:=omega)only[go_sem];refine qD 8 (fun k=>[(3,.sl 8256 0 (bs.length+1+zBc bs.length+k)),(4,V.t (T.int IntKind.u64 (bs.length*8:Nat))),(5,.t (.int .i64 (7-(k:Int))))]) (fun k=>[(8256,.live 1 (((bs++[128]++List.replicate (zBc bs.length) 0++beL (bs.length*8) k).map qA).map V.t) true false)]) ?_ (fun k hk=>?_)
   ·refine qI.rd id ?_ ?_ rfl;all_goals simp(disch:=omega)only[go_sem,id,zKf,List.append_nil]
   ·by_cases hlt:k<8
    ·have e:8*(7-k)=56-8*k:=oM;simp(disch:=omega)only[go_sem,qHb,e];refine⟨hlt,qI.rd (fun _=>36992) ?_ ?_ rfl⟩;all_goals simp(disch:=omega)only[go_sem,zKe,List.append_assoc,Nat.add_assoc]
     omega
    ·have e:k=8:=oM;subst e;simp(disch:=omega)only[go_sem,qHb,kJ]
theorem zGi (ws:List UInt32)(hb:ws.length<1000000000):qH4.1.wp tab gl (qE 0 [.t (.sl (ws.map jE))]) (qE 0 []) (xU [] [(2,none)] 0 (fun r o=>r = .sl 0 0 (4*ws.length)∧o=[.live 1 (((qBc ws).map qA).map V.t) true false])):=by
 simp(disch:=omega)only[go_sem,Nat.reduceAdd,qH4];refine qD ws.length (fun k=>[(3,.sl 9000 0 (4*k)),(0,.t (.sl (ws.map jE))),(4,.t (.int .i64 k))]) (fun k=>[(9000,.live 1 (((qBc (ws.take k)).map qA).map V.t) true false)]) ?_ (fun k hk=>?_)
 ·show qI _ _ _ ([(9000,.live 1 [] true false)]++[]);refine qI.cv0 id ?_ ?_ rfl rfl;all_goals simp(disch:=omega)only[go_sem,↓reduceIte,Nat.reduceEqDiff,reduceCtorEq,id,mcn,Nat.mul_zero]
 ·have hl:(qBc (ws.take k)).length=4*k:=by rw[qG4,List.length_take];omega
  by_cases hlt:k<ws.length
  ·simp(disch:=omega)only[go_sem,↓reduceIte,Nat.reduceAdd,Nat.reduceEqDiff,Nat.reduceLT,Nat.reduceLeDiff,reduceCtorEq,hl];refine⟨rfl,hlt,qI.rd (fun _=>24976) ?_ ?_ rfl⟩;all_goals simp(disch:=omega)only[go_sem,↓reduceIte,Nat.reduceAdd,Nat.reduceEqDiff,reduceCtorEq,qTq,qW0]
   ·omega
   ·simp only[List.append_assoc,List.cons_append,List.nil_append];rfl
  ·have e:k=ws.length:=oM;subst e;rw[List.take_length] at hl;simp(disch:=omega)only[go_sem,↓reduceIte,Nat.reduceAdd,Nat.reduceEqDiff,reduceCtorEq,hl,List.take_length]
theorem qUf:qCl.1.wp tab gl (qE 0 []) (qE 0 []) (qX [(0,some (64,true))] 0 (fun r o=>r = .t (.agg (zDi.map jE))∧o=[])):=by
 simp(maxSteps:=9^9)(disch:=try exact dS)only[go_sem,qCl,List.drop_replicate];rfl
def qUp:Ct where
 α:=Unit
 aS _:=[]
 ins _:=[]
 pre _:=True
 r _:= .t (.agg (zDi.map jE))
 outs _:=[]
 inj:=fun _ _ _ _=>⟨rfl,rfl⟩
theorem zUt:qUp.fs [] []=some (.t (.agg (zDi.map jE)),[]):=qUp.eq () trivial
def zAw:Ct where
 α:=UInt32×Nat
 aS x:=[.t (jE x.1),.t (.int .u64 x.2)]
 ins _:=[]
 pre x:=0<x.2∧x.2<32
 r x:= .t (jE (qUy x.1 x.2))
 outs _:=[]
 inj:=by
  rintro⟨a,b⟩ ⟨c,d⟩ h _;simp[zBv,Int.natCast_inj] at h;obtain⟨rfl,rfl⟩:=h;exact⟨rfl,rfl⟩
theorem zR1 {x:UInt32}{n:Nat}(h:0<n∧n<32):zAw.fs [.t (jE x),.t (.int .u64 (no_index (@OfNat.ofNat Int n _)))] []=some (.t (jE (qUy x n)),[]):=zAw.eq (x,n) h
theorem zC3 (h1:LkC tab 132 qUp)(h2:LkC tab 133 qQb)(h3:LkC tab 134 qIo)(h4:LkC tab 135 zAw)(h5:LkC tab 136 qB2)
  (bs:List UInt8) (hb:bs.length<1000000000) :
  qGm.1.wp tab gl (qE 0 [.t (.sl (bs.map qA))]) (qE 0 []) (xU [] [(2,none)] 0 (fun r o=>r = .sl 0 0 32∧o=[.live 1 (((yK bs).map qA).map V.t) true false])):=by
 have hp:=qFn bs;have hm:=qUv bs;have hz:zBc bs.length<64:=by unfold zBc;omega
 have hk2:zDi.length=64:=rfl;simp(maxSteps:=9^9)(disch:=try exact dS)only[go_sem,qGm,h1,zUt,h2,zK9,hk2];refine qD ((kJ bs).length/64) (fun k=>[(3,.ref 8208 0 0),(4,.sl 12288 0 8),(5,.sl 16400 0 (kJ bs).length),(6,.t (.int .i64 ((64*k:Nat):Int)))])
  (fun k=>[(8208,.live 1 ((zDi.map jE).map V.t) true true),(12288,.live 1 (((hN kV qSi (kJ bs) k).map jE).map V.t) true false),(16400,.live 1 (((kJ bs).map qA).map V.t) true false)]) ?_ (fun k hk=>?_)
 ·refine qI.rd id ?_ ?_ rfl;all_goals simp(disch:=omega)only[go_sem,id,hN,qSi,Nat.mul_zero,mcn]
 ·have hl:(hN kV qSi (kJ bs) k).length=8:=qV2;by_cases hlt:k<(kJ bs).length/64
  ·generalize hH:hN kV qSi (kJ bs) k=H at hl ⊢;generalize hB:List.take 64 (List.drop (64*k) (kJ bs))=B;have hBl:B.length=64:=by rw[←hB];simp only[List.length_take,List.length_drop];omega
   simp(disch:=omega)only[go_sem];refine qD 64 (fun t=>[(8,.t (.int .i64 t)),(7,.ref 32768 0 0),(3,.ref 8208 0 0),(4,.sl 12288 0 8),(5,.sl 16400 0 (kJ bs).length),(6,.t (.int .i64 ((64*k:Nat):Int)))])
    (fun t=>[(32768,.live 1 (((qCw B t).map jE).map V.t) true true),(8208,.live 1 ((zDi.map jE).map V.t) true true),(12288,.live 1 ((H.map jE).map V.t) true false),(16400,.live 1 (((kJ bs).map qA).map V.t) true false)]) ?_ (fun t ht=>?_)
   ·refine qI.rd id ?_ ?_ rfl;all_goals simp(disch:=omega)only[go_sem,id,qCw]
   ·have hs:(qCw B t).length=64:=qTo;by_cases hlt2:t<64
    ·by_cases h16:t<16
     ·simp(disch:=omega)only[go_sem,h3,zDd,hs,hB];refine⟨hlt2,qI.rd id ?_ ?_ rfl⟩;all_goals simp(disch:=omega)only[go_sem,id,qCw,if_pos h16]
     ·simp(maxSteps:=9^9)(disch:=try exact dS)only[go_sem,h4,zR1,hs];repeat refine And.intro rfl ?_
      refine⟨hlt2,qI.rd id ?_ ?_ rfl⟩;all_goals simp(maxSteps:=9^9)(disch:=try exact dS)only[go_sem,id,qCw,if_neg h16]
      rfl
    ·have e:t=64:=oM;subst e;have hT:List.take 8 H=H:=List.take_of_length_le oM;simp(disch:=omega)only[go_sem,hl,hT];refine qD 64 (fun t=>[(12,.t (.int .i64 t)),(11,.sl 69664 0 8),(7,.ref 32768 0 0),(3,.ref 8208 0 0),(4,.sl 12288 0 8),(5,.sl 16400 0 (kJ bs).length),(6,.t (.int .i64 ((64*k:Nat):Int)))])
      (fun t=>[(69664,.live 1 (((qCg (qCw B 64) H t).map jE).map V.t) true false),(32768,.live 1 (((qCw B 64).map jE).map V.t) true true),(8208,.live 1 ((zDi.map jE).map V.t) true true),(12288,.live 1 ((H.map jE).map V.t) true false),(16400,.live 1 (((kJ bs).map qA).map V.t) true false)]) ?_ (fun t ht=>?_)
     ·refine qI.rd id ?_ ?_ rfl;all_goals simp(disch:=omega)only[go_sem,id,qCg]
     ·have hr:(qCg (qCw B 64) H t).length=8:=qQz hl;by_cases hlt3:t<64
      ·simp(maxSteps:=9^9)(disch:=try exact dS)only[go_sem,h4,zR1,hs,hr,hk2];repeat refine And.intro rfl ?_
       refine⟨hlt3,qI.rd (fun i=>if i=69664 then 98656 else i) ?_ ?_ rfl⟩;all_goals simp(disch:=omega)only[go_sem,qCg,rnd]
       trace_state
      ·have e:t=64:=oM;subst e;simp(disch:=omega)only[go_sem];refine qD 8 (fun t=>[(17,.t (.int .i64 t)),(11,.sl 69664 0 8),(3,.ref 8208 0 0),(4,.sl 12288 0 8),(5,.sl 16400 0 (kJ bs).length),(6,.t (.int .i64 ((64*k:Nat):Int)))])
        (fun t=>[(69664,.live 1 (((qCg (qCw B 64) H 64).map jE).map V.t) true false),(8208,.live 1 ((zDi.map jE).map V.t) true true),(12288,.live 1 (((zL4 H (qCg (qCw B 64) H 64) t).map jE).map V.t) true false),(16400,.live 1 (((kJ bs).map qA).map V.t) true false)]) ?_ (fun t ht=>?_)
       ·refine qI.rd id ?_ ?_ rfl;all_goals simp(disch:=omega)only[go_sem,id,zL4]
       ·have ha:(zL4 H (qCg (qCw B 64) H 64) t).length=8:=by rw[qM2,hl]
        by_cases hlt4:t<8
        ·simp(disch:=omega)only[go_sem,hr,ha];repeat refine And.intro rfl ?_
         refine⟨hlt4,qI.rd id ?_ ?_ rfl⟩;all_goals simp(disch:=omega)only[go_sem,id,zL4]
        ·have e:t=8:=oM;subst e;simp(disch:=omega)only[go_sem];refine⟨hlt,qI.rd id ?_ ?_ rfl⟩;all_goals simp(disch:=omega)only[go_sem,id,hN,hH,hB,kV]
         omega
  ·have e:k=(kJ bs).length/64:=oM;subst e;have e2:64*((kJ bs).length/64)=(kJ bs).length:=oM;have ht:List.take 8 (hN kV qSi (kJ bs) ((kJ bs).length/64))=hN kV qSi (kJ bs) ((kJ bs).length/64):=List.take_of_length_le oM;simp(disch:=omega)only[go_sem,e2,h5,qRb,hl,ht,yK,jAx]
def qUq:Ct where
 α:=UInt32×Nat
 aS x:=[.t (jE x.1),.t (.int .u64 x.2)]
 ins _:=[]
 pre x:=0<x.2∧x.2<32
 r x:= .t (jE (qUy x.1 (32-x.2)))
 outs _:=[]
 inj:=by
  rintro⟨a,b⟩ ⟨c,d⟩ h _;simp[zBv,Int.natCast_inj] at h;obtain⟨rfl,rfl⟩:=h;exact⟨rfl,rfl⟩
theorem qQy {x:UInt32}{n:Nat}(h:0<n∧n<32):qUq.fs [.t (jE x),.t (.int .u64 (no_index (@OfNat.ofNat Int n _)))] []=some (.t (jE (qUy x (32-n))),[]):=qUq.eq (x,n) h
theorem zJl (h2:LkC tab 133 qQb)(h3:LkC tab 134 qIo)(h4:LkC tab 280 qUq)(h5:LkC tab 136 qB2)
  (bs:List UInt8) (hb:bs.length<1000000000) :
  qJ5.1.wp tab gl (qE 0 [.t (.sl (bs.map qA))]) (qE 0 []) (xU [] [(2,none)] 0 (fun r o=>r = .sl 0 0 20∧o=[.live 1 (((zBq bs).map qA).map V.t) true false])):=by
 have hp:=qFn bs;have hm:=qUv bs;have hz:zBc bs.length<64:=by unfold zBc;omega
 simp(disch:=omega)only[go_sem,qJ5,h2,zK9];refine qD ((kJ bs).length/64) (fun k=>[(3,.sl 8192 0 5),(4,.sl 12304 0 (kJ bs).length),(5,.t (.int .i64 ((64*k:Nat):Int)))])
  (fun k=>[(8192,.live 1 (((hN qD6 iv1 (kJ bs) k).map jE).map V.t) true false),(12304,.live 1 (((kJ bs).map qA).map V.t) true false)]) ?_ (fun k hk=>?_)
 ·refine qI.rd id ?_ ?_ rfl;all_goals simp(disch:=omega)only[go_sem,id,hN,iv1,Nat.mul_zero,mcn]
 ·have hl:(hN qD6 iv1 (kJ bs) k).length=5:=zD7;by_cases hlt:k<(kJ bs).length/64
  ·generalize hH:hN qD6 iv1 (kJ bs) k=H at hl ⊢;generalize hB:List.take 64 (List.drop (64*k) (kJ bs))=B;have hBl:B.length=64:=by rw[←hB];simp only[List.length_take,List.length_drop];omega
   simp(disch:=omega)only[go_sem];refine qD 80 (fun t=>[(7,.t (.int .i64 t)),(6,.ref 28672 0 0),(3,.sl 8192 0 5),(4,.sl 12304 0 (kJ bs).length),(5,.t (.int .i64 ((64*k:Nat):Int)))])
    (fun t=>[(28672,.live 1 (((wT B t).map jE).map V.t) true true),(8192,.live 1 ((H.map jE).map V.t) true false),(12304,.live 1 (((kJ bs).map qA).map V.t) true false)]) ?_ (fun t ht=>?_)
   ·refine qI.rd id ?_ ?_ rfl;all_goals simp(disch:=omega)only[go_sem,id,wT]
   ·have hs:(wT B t).length=80:=qQ1;by_cases hlt2:t<80
    ·by_cases h16:t<16
     ·simp(disch:=omega)only[go_sem,h3,zDd,hs,hB];repeat refine And.intro rfl ?_
      refine⟨hlt2,qI.rd id ?_ ?_ rfl⟩;all_goals simp(disch:=omega)only[go_sem,id,wT,if_pos h16]
     ·simp(maxSteps:=9^9)(disch:=try exact dS)only[go_sem,h4,qQy,hs];repeat refine And.intro rfl ?_
      refine⟨hlt2,qI.rd id ?_ ?_ rfl⟩;all_goals simp(disch:=omega)only[go_sem,id,wT,if_neg h16]
    ·have e:t=80:=oM;subst e;simp(disch:=omega)only[go_sem,hl];repeat refine And.intro rfl ?_
     refine qD 80 (fun t=>[(13,.t (.int .i64 t)),(6,.ref 28672 0 0),(3,.sl 8192 0 5),(4,.sl 12304 0 (kJ bs).length),(5,.t (.int .i64 ((64*k:Nat):Int))),
       (8,.t (jE ((vU (wT B 80) H t).getD 0 0))),(9,.t (jE ((vU (wT B 80) H t).getD 1 0))),(10,.t (jE ((vU (wT B 80) H t).getD 2 0))),(11,.t (jE ((vU (wT B 80) H t).getD 3 0))),(12,.t (jE ((vU (wT B 80) H t).getD 4 0)))])
      (fun _=>[(28672,.live 1 (((wT B 80).map jE).map V.t) true true),(8192,.live 1 ((H.map jE).map V.t) true false),(12304,.live 1 (((kJ bs).map qA).map V.t) true false)]) ?_ (fun t ht=>?_)
     ·refine qI.rd id ?_ ?_ rfl;all_goals simp(disch:=omega)only[go_sem,id,vU]
     ·by_cases hlt3:t<80
      ·by_cases h20:t<20
       ·simp(maxSteps:=9^9)(disch:=try exact dS)only[go_sem,h4,qQy,hs];repeat refine And.intro rfl ?_
        refine⟨hlt3,qI.rd id ?_ ?_ rfl⟩;all_goals simp(disch:=omega)only[go_sem,id,vU,zW7,f1,k1,if_pos h20,List.getD_cons_zero,List.getD_cons_succ]
       ·by_cases h40:t<40
        ·simp(maxSteps:=9^9)(disch:=try exact dS)only[go_sem,h4,qQy,hs];repeat refine And.intro rfl ?_
         refine⟨hlt3,qI.rd id ?_ ?_ rfl⟩;all_goals simp(disch:=omega)only[go_sem,id,vU,zW7,f1,k1,if_neg h20,if_pos h40,List.getD_cons_zero,List.getD_cons_succ]
        ·by_cases h60:t<60
         ·simp(maxSteps:=9^9)(disch:=try exact dS)only[go_sem,h4,qQy,hs];repeat refine And.intro rfl ?_
          refine⟨hlt3,qI.rd id ?_ ?_ rfl⟩;all_goals simp(disch:=omega)only[go_sem,id,vU,zW7,f1,k1,if_neg h20,if_neg h40,if_pos h60,List.getD_cons_zero,List.getD_cons_succ]
         ·simp(maxSteps:=9^9)(disch:=try exact dS)only[go_sem,h4,qQy,hs];repeat refine And.intro rfl ?_
          refine⟨hlt3,qI.rd id ?_ ?_ rfl⟩;all_goals simp(disch:=omega)only[go_sem,id,vU,zW7,f1,k1,if_neg h20,if_neg h40,if_neg h60,List.getD_cons_zero,List.getD_cons_succ]
      ·have e:t=80:=oM;subst e;simp(disch:=omega)only[go_sem,hl];repeat refine And.intro rfl ?_
       refine⟨hlt,qI.rd (fun i=>if i=8192 then 110992 else i) ?_ ?_ rfl⟩;all_goals simp(disch:=omega)only[go_sem,hN,hH,hB,qD6]
       omega
  ·have e:k=(kJ bs).length/64:=oM;subst e;have e2:64*((kJ bs).length/64)=(kJ bs).length:=oM;have ht:List.take 5 (hN qD6 iv1 (kJ bs) ((kJ bs).length/64))=hN qD6 iv1 (kJ bs) ((kJ bs).length/64):=List.take_of_length_le oM;simp(disch:=omega)only[go_sem,e2,h5,qRb,hl,ht,zBq,jAx]
def szA (a:Nat):Nat:=if a=0 then 20 else if a=1 then 32 else 0
def zT1 (a:Nat)(bs:List UInt8):List UInt8:=if a=0 then zBq bs else if a=1 then yK bs else []
theorem qW2 {comp:List UInt32→List UInt8→List UInt32}{iv:List UInt32}{bs:List UInt8}{n:Nat}(hc : ∀ h b,h.length=n→(comp h b).length=n)(hi:iv.length=n):(jAx comp iv bs).length=4*n:=by
 have : ∀ k p,(hN comp iv p k).length=n:=by
  intro k p
  induction k with
  | zero=>exact hi
  | succ k ih=>exact hc _ _ ih
 rw[jAx,qG4,this]
theorem qS {bs:List UInt8}:(yK bs).length=32:=qW2 (n:=8) (fun h b e=>by rw[qMm,e]) rfl
theorem yY {bs:List UInt8}:(zBq bs).length=20:=qW2 (n:=5) (fun h b _=>rfl) rfl
theorem qJh {a:Nat}{bs:List UInt8}:(zT1 a bs).length=szA a:=by
 unfold zT1 szA;split
 ·exact yY
 ·split
  ·exact qS
  ·rfl
theorem zJh (bs:List UInt8)(hb:bs.length<1000000000):qJ3.1.wp tab gl (qE 0 [.t (.sl (bs.map qA))]) (qE 0 []) (xU [] [(2,none)] 0 (fun r o=>r = .sl 0 0 bs.length∧o=[.live 1 ((bs.map qA).map V.t) true false])):=by
 simp(disch:=omega)only[go_sem,qJ3]
def qJm (n:Nat)(f:List UInt8→List UInt8):Ct where
 α:=List UInt8
 aS x:=[.t (.sl (x.map qA))]
 ins _:=[]
 pre x:=x.length<1000000000
 r _:= .sl 0 0 n
 outs x:=[.live 1 (((f x).map qA).map V.t) true false]
 inj:=by
  intro a b h _;simp[yD] at h;subst h;exact⟨rfl,rfl⟩
theorem qZ3 {n:Nat}{f:List UInt8→List UInt8}{bs:List UInt8}(h:bs.length<1000000000):(qJm n f).fs [.t (.sl (bs.map qA))] []=some (.sl 0 0 n,[.live 1 (((f bs).map qA).map V.t) true false]):=(qJm n f).eq bs h
theorem zN5 (h1:tab.look 264=some (qJm 20 zBq).fs)(h2:tab.look 102=some (qJm 32 yK).fs)(a:Nat)(ha:a<2)(bs:List UInt8)(hb:bs.length<1000000000) :
  qH3.1.wp tab gl (qE 0 [.t (.int .i64 a),.t (.sl (bs.map qA))]) (qE 0 []) (xU [] [(4,none)] 0 (fun r o=>r = .sl 0 0 (szA a)∧o=[.live 1 (((zT1 a bs).map qA).map V.t) true false])):=by
 rcases (show a=0∨a=1 by omega) with rfl | rfl
 ·simp(disch:=omega)only[go_sem,qH3,h1,qZ3,szA,zT1]
 ·simp(disch:=omega)only[go_sem,qH3,h2,qZ3,szA,zT1]
def zY0 (n:Nat):List UInt8:=[UInt8.ofNat (n/2^24),UInt8.ofNat (n/2^16),UInt8.ofNat (n/2^8),UInt8.ofNat n]
def yB (tag:Nat)(fs:List (List UInt8)):List UInt8:=UInt8.ofNat tag::fs.flatMap fun f=>zY0 f.length++f
theorem qVy {tag:Nat}{fs:List (List UInt8)}{k:Nat}(h:k<fs.length):yB tag (fs.take (k+1))=yB tag (fs.take k)++zY0 (fs.getD k []).length++fs.getD k []:=by
 rw[qCh (d:=[]) h];simp[yB]
theorem zD3 {tag:Nat}{fs:List (List UInt8)}{k:Nat}:(yB tag (fs.take k)).length≤(yB tag fs).length:=by
 have:yB tag fs=yB tag (fs.take k)++(fs.drop k).flatMap fun f=>zY0 f.length++f:=by
  simp only[yB,List.cons_append,←List.flatMap_append,List.take_append_drop]
 rw[this,List.length_append];omega
theorem zQg {tag:Nat}{fs:List (List UInt8)}:4*fs.length+1≤(yB tag fs).length:=by
 simp only[yB,List.length_cons];have:4*fs.length≤(fs.flatMap fun f=>zY0 f.length++f).length:=by
  induction fs with
  | nil=>simp
  | cons f r ih=>
   have h4 : ∀ n,(zY0 n).length=4:=fun _=>rfl
   simp only[List.flatMap_cons,List.length_append,List.length_cons,h4];omega
 omega
theorem zGg (tag:Nat)(ht:tag<256)(fs:List (List UInt8))(hb:(yB tag fs).length<1000000000):qH2.1.wp tab gl (qE 0 [.t (.int .i64 tag),.t (.sl (fs.map bsT))]) (qE 0 []) (xU [] [(4,none)] 0 (fun r o=>r = .sl 0 0 (yB tag fs).length∧o=[.live 1 (((yB tag fs).map qA).map V.t) true false])):=by
 simp(disch:=omega)only[go_sem,qH2];have hge:=zQg (tag:=tag) (fs:=fs);refine qD fs.length (fun k=>[(5,.sl 8224 0 (yB tag (fs.take k)).length),(1,V.t (T.sl (List.map bsT fs))),(6,.t (.int .i64 k))]) (fun k=>[(8224,.live 1 (((yB tag (fs.take k)).map qA).map V.t) true false)]) ?_ (fun k hk=>?_)
 ·refine qI.rd id ?_ ?_ rfl;all_goals simp(disch:=omega)only[go_sem,id,yB,List.flatMap_nil,mcn]
 ·have h0:=zD3 (tag:=tag) (fs:=fs) (k:=k);by_cases hlt:k<fs.length
  ·have h1:=zD3 (tag:=tag) (fs:=fs) (k:=k+1);rw[qVy hlt,List.length_append,List.length_append] at h1;have h2:(zY0 (fs.getD k []).length).length=4:=rfl;simp(disch:=omega)only[go_sem];refine⟨hlt,qI.rd (fun _=>32848) ?_ ?_ rfl⟩;all_goals simp(disch:=omega)only[go_sem,qVy,zY0]
   simp only[List.append_assoc,List.cons_append,List.nil_append]
  ·have e:k=fs.length:=oM;subst e;simp(disch:=omega)only[go_sem,List.take_length]
theorem zJj (a b:List UInt8)(ha:a.length<1000000000)(hb:b.length<1000000000):qFw.1.wp tab gl (qE 0 [.t (.sl (a.map qA)),.t (.sl (b.map qA))]) (qE 0 []) (qX [(4,none)] 0 (fun r o=>r = .t (.bool (decide (a=b)))∧o=[])):=by
 by_cases hl:a.length=b.length
 ·simp(disch:=omega)only[go_sem,qFw];refine qSj a.length (fun i=>a.take i=b.take i) (fun k=>[(5,.t (.int .i64 k)),(0,.t (.sl (a.map qA))),(1,.t (.sl (b.map qA)))]) (fun _=>[]) rfl ?_ (fun k hk hP=>?_)
  ·refine qI.rd id ?_ ?_ rfl;all_goals simp(disch:=omega)only[go_sem,id]
  ·by_cases hlt:k<a.length
   ·by_cases he:a.getD k 0=b.getD k 0
    ·simp(disch:=omega)only[go_sem,he];refine⟨rfl,hlt,?_,qI.rd id ?_ ?_ rfl⟩
     ·rw[qCh (d:=0) hlt,qCh (d:=0) oM,hP,he]
     all_goals simp(disch:=omega)only[go_sem,id]
    ·have hne : ¬ a=b:=fun h=>he (by rw[h])
     simp(disch:=omega)only[go_sem,he,hne];rfl
   ·have e:k=a.length:=oM;subst e;rw[List.take_length,hl,List.take_length] at hP;simp(disch:=omega)only[go_sem,hP]
 ·have hne : ¬ a=b:=fun h=>hl (by rw[h])
  simp(disch:=omega)only[go_sem,qFw,hne]
def xO:Ct where
 α:=List UInt8×List UInt8
 aS x:=[.t (.sl (x.1.map qA)),.t (.sl (x.2.map qA))]
 ins _:=[]
 pre x:=x.1.length<1000000000∧x.2.length<1000000000
 r x:= .t (.bool (decide (x.1=x.2)))
 outs _:=[]
 inj:=by
  rintro⟨a,b⟩ ⟨c,d⟩ h _;simp[yD] at h;obtain⟨rfl,rfl⟩:=h;exact⟨rfl,rfl⟩
theorem kX {a b:List UInt8}(h:a.length<1000000000∧b.length<1000000000):xO.fs [.t (.sl (a.map qA)),.t (.sl (b.map qA))] []=some (.t (.bool (decide (a=b))),[]):=xO.eq (a,b) h
def zEk (l:List (List UInt8)):Prop:=l.length<1000000000 ∧ ∀ x∈l,x.length<1000000000
theorem qI9 {l:List (List UInt8)}(h:zEk l)(i:Nat):(l.getD i []).length<1000000000:=by
 by_cases hi:i<l.length
 ·have:l.getD i []=l[i]:=by simp[List.getD,hi]
  rw[this];exact h.2 _ (List.getElem_mem hi)
 ·simp[List.getD,List.getElem?_eq_none (Nat.le_of_not_lt hi)]
theorem zGh (h1:LkC tab 20 xO)(a b:List (List UInt8))(ha:zEk a)(hb:zEk b):qD1.1.wp tab gl (qE 0 [.t (.sl (a.map bsT)),.t (.sl (b.map bsT))]) (qE 0 []) (qX [(4,none)] 0 (fun r o=>r = .t (.bool (decide (a=b)))∧o=[])):=by
 have hal:=ha.1;have hbl:=hb.1;by_cases hl:a.length=b.length
 ·simp(disch:=omega)only[go_sem,qD1];refine qSj a.length (fun i=>a.take i=b.take i) (fun k=>[(5,.t (.int .i64 k)),(0,.t (.sl (a.map bsT))),(1,.t (.sl (b.map bsT)))]) (fun _=>[]) rfl ?_ (fun k hk hP=>?_)
  ·refine qI.rd id ?_ ?_ rfl;all_goals simp(disch:=omega)only[go_sem,id]
  ·have m1:=qI9 ha k;have m2:=qI9 hb k;by_cases hlt:k<a.length
   ·by_cases he:a.getD k []=b.getD k []
    ·simp(disch:=omega)only[go_sem,h1,kX,he];refine⟨rfl,hlt,?_,qI.rd id ?_ ?_ rfl⟩
     ·rw[qCh (d:=[]) hlt,qCh (d:=[]) oM,hP,he]
     all_goals simp(disch:=omega)only[go_sem,id]
    ·have hne : ¬ a=b:=fun h=>he (by rw[h])
     simp(disch:=omega)only[go_sem,h1,kX,he,hne];rfl
   ·have e:k=a.length:=oM;subst e;rw[List.take_length,hl,List.take_length] at hP;simp(disch:=omega)only[go_sem,hP]
 ·have hne : ¬ a=b:=fun h=>hl (by rw[h])
  simp(disch:=omega)only[go_sem,qD1,hne]
def qAw:Ct where
 α:=Nat×List (List UInt8)
 aS x:=[.t (.int .i64 x.1),.t (.sl (x.2.map bsT))]
 ins _:=[]
 pre x:=x.1<256∧(yB x.1 x.2).length<1000000000
 r x:= .sl 0 0 (yB x.1 x.2).length
 outs x:=[.live 1 (((yB x.1 x.2).map qA).map V.t) true false]
 inj:=by
  rintro⟨a,b⟩ ⟨c,d⟩ h _;simp[qHj,Int.natCast_inj] at h;obtain⟨rfl,rfl⟩:=h;exact⟨rfl,rfl⟩
theorem qQk {t:Nat}{fs:List (List UInt8)}(h:t<256∧(yB t fs).length<1000000000):qAw.fs [.t (.int .i64 t),.t (.sl (fs.map bsT))] []=some (.sl 0 0 (yB t fs).length,[.live 1 (((yB t fs).map qA).map V.t) true false]):=qAw.eq (t,fs) h
def zHy (t:Nat)(fs:List (List UInt8)):List UInt8:=yK (yB t fs)
def qGz:Ct where
 α:=Nat×List UInt8
 aS x:=[.t (.int .i64 x.1),.t (.sl (x.2.map qA))]
 ins _:=[]
 pre x:=x.1<2∧x.2.length<1000000000
 r x:= .sl 0 0 (szA x.1)
 outs x:=[.live 1 (((zT1 x.1 x.2).map qA).map V.t) true false]
 inj:=by
  rintro⟨a,b⟩ ⟨c,d⟩ h _;simp[yD,Int.natCast_inj] at h;obtain⟨rfl,rfl⟩:=h;exact⟨rfl,rfl⟩
theorem zO {bs:List UInt8}(h:bs.length<1000000000):qGz.fs [.t (.int .i64 0),.t (.sl (bs.map qA))] []=some (.sl 0 0 20,[.live 1 (((zBq bs).map qA).map V.t) true false]):=qGz.eq (0,bs) ⟨sM,h⟩
theorem zN {bs:List UInt8}(h:bs.length<1000000000):qGz.fs [.t (.int .i64 1),.t (.sl (bs.map qA))] []=some (.sl 0 0 32,[.live 1 (((yK bs).map qA).map V.t) true false]):=qGz.eq (1,bs) ⟨sM,h⟩
theorem zJi (h1:LkC tab 191 qAw)(h2:tab.look 102=some (qJm 32 yK).fs)(t:Nat)(fs:List (List UInt8))(ht:t<256)(hb:(yB t fs).length<1000000000) :
  qJ4.1.wp tab gl (qE 0 [.t (.int .i64 t),.t (.sl (fs.map bsT))]) (qE 0 []) (xU [] [(4,none)] 0 (fun r o=>r = .sl 0 0 32∧o=[.live 1 (((zHy t fs).map qA).map V.t) true false])):=by
 simp(disch:=omega)only[go_sem,qJ4,h1,h2,qQk,qZ3,zHy]
theorem zGd (h1:LkC tab 128 qQb)(h2:tab.look 129=some (qA7 5 qD6).fs)(h3:LkC tab 130 qB2)(h4:tab.look 131=some (qA7 8 kV).fs)(a:Nat)(ha:a<2)(bs:List UInt8)(hb:bs.length<1000000000) :
  xX.1.wp tab gl (qE 0 [.t (.int .i64 a),.t (.sl (bs.map qA))]) (qE 0 []) (xU [] [(4,none)] 0 (fun r o=>r = .sl 0 0 (szA a)∧o=[.live 1 (((zT1 a bs).map qA).map V.t) true false])):=by
 rcases (show a=0∨a=1 by omega) with rfl | rfl
 ·exact qY6 tab gl h1 h3 h2 bs hb
 ·exact qUe tab gl h1 h3 h4 bs hb
def m64 (n:Int):Nat:=(n%18446744073709551616).toNat
def beI (size:Nat)(n:Int)(k:Nat):List UInt8:=(List.range k).map fun i=>UInt8.ofNat (m64 n/2^(8*(size-1-i)))
theorem zKd {size:Nat}{n:Int}:beI size n 0=[]:=rfl
theorem qR3 {size:Nat}{n:Int}{k:Nat}:(beI size n k).length=k:=by simp[beI]
theorem zAn {size:Nat}{n:Int}{k:Nat}:beI size n (k+1)=beI size n k++[UInt8.ofNat (m64 n/2^(8*(size-1-k)))]:=by simp[beI,List.range_succ]
theorem zKx {n:Int}:IntKind.u64.wrap n=(m64 n:Int):=by rw[qU9,m64];omega
theorem zJy (b:List UInt8)(size:Nat)(n:Int)(hb:b.length<1000000000)(hs:1≤size∧size≤8):qKk.1.wp tab gl (qE 0 [.t (.sl (b.map qA)),.t (.int .i64 size),.t (.int .i64 n)]) (qE 0 []) (xU [] [(6,none)] 0 (fun r o=>r = .sl 0 0 (b.length+size)∧o=[.live 1 (((b++beI size n size).map qA).map V.t) true false])):=by
 have hw:=zKx (n:=n);simp(disch:=omega)only[go_sem,qKk];refine qD size (fun k=>[(2,.t (.int .i64 n)),(7,.sl 8208 0 (b.length+k)),(8,.t (.int .i64 ((size:Int)-1-k)))]) (fun k=>[(8208,.live 1 (((b++beI size n k).map qA).map V.t) true false)]) ?_ (fun k hk=>?_)
 ·refine qI.rd id ?_ ?_ rfl;all_goals simp(disch:=omega)only[go_sem,id,zKd,List.append_nil]
  all_goals omega
 ·have hl:(beI size n k).length=k:=qR3;by_cases hlt:k<size
  ·simp(disch:=omega)only[go_sem,hl,hw];refine⟨hlt,qI.rd (fun _=>32912) ?_ ?_ rfl⟩;all_goals simp(disch:=omega)only[go_sem,zAn,List.append_assoc,Nat.add_assoc]
   all_goals first | omega | rfl
  ·have e:k=size:=oM;subst e;simp(disch:=omega)only[go_sem,hl]
theorem zJr (b:List UInt8)(size:Nat)(n:Int)(hb:b.length<1000000000)(hs:1≤size∧size≤8):qKd.1.wp tab gl (qE 0 [.t (.sl (b.map qA)),.t (.int .i64 size),.t (.int .i64 n)]) (qE 0 []) (xU [] [(6,none)] 0 (fun r o=>r = .sl 0 0 (b.length+size)∧o=[.live 1 (((b++beI size n size).map qA).map V.t) true false])):=by
 have hw:=zKx (n:=n);simp(disch:=omega)only[go_sem,qKd];refine qD size (fun k=>[(2,.t (.int .i64 n)),(7,.sl 8224 0 (b.length+k)),(8,.t (.int .i64 ((size:Int)-1-k)))]) (fun k=>[(8224,.live 1 (((b++beI size n k).map qA).map V.t) true false)]) ?_ (fun k hk=>?_)
 ·refine qI.rd id ?_ ?_ rfl;all_goals simp(disch:=omega)only[go_sem,id,zKd,List.append_nil]
  all_goals omega
 ·have hl:(beI size n k).length=k:=qR3;by_cases hlt:k<size
  ·simp(disch:=omega)only[go_sem,hl,hw];refine⟨hlt,qI.rd (fun _=>32912) ?_ ?_ rfl⟩;all_goals simp(disch:=omega)only[go_sem,zAn,List.append_assoc,Nat.add_assoc]
   all_goals first | omega | rfl
  ·have e:k=size:=oM;subst e;simp(disch:=omega)only[go_sem,hl]
abbrev Rd:=List UInt8×Nat×Int
def rdT (s:Rd):T:= .agg [bsT s.1,.int .i64 (s.2.1:Int),.int .i64 s.2.2]
def yU (s:Rd):Ob:= .live 3 [.t (rdT s)] true true
def yH (s:Rd):Prop:=s.2.1≤s.1.length∧s.1.length<1000000000
theorem zOb (b:List UInt8)(hb:b.length<1000000000):qM1.1.wp tab gl (qE 0 [.t (.sl (b.map qA))]) (qE 0 []) (xU [8208] [(2,none)] 0 (fun r o=>r = .ref 0 0 0∧o=[yU (b,0,0)])):=by
 simp(disch:=omega)only[go_sem,qM1];rfl
theorem zN8 (b:List UInt8)(hb:b.length<1000000000):qMz.1.wp tab gl (qE 0 [.t (.sl (b.map qA))]) (qE 0 []) (xU [] [(2,none)] 0 (fun r o=>r = .ref 0 0 0∧o=[yU (b,0,0)])):=by
 simp(disch:=omega)only[go_sem,qMz];rfl
theorem zJ0 (s:Rd)(hs:yH s)(p n:Nat)(h:p+n≤s.1.length):yR.1.wp tab gl (qE 0 [.ref 0 0 0,.t (.int .i64 p),.t (.int .i64 n)]) (qE 0 [yU s]) (qX [(6,none),(7,none)] 1 (fun r o=>r = .tup [.t (.sl (((s.1.drop p).take n).map qA)),.t (.int .i64 0)]∧o=[yU s])):=by
 obtain⟨b,at_,e⟩:=s;simp only[yH] at hs h ⊢;simp(disch:=omega)only[go_sem,yR,yU,rdT]
theorem zJz (s:Rd)(hs:yH s)(n:Int):qA4.1.wp tab gl (qE 0 [.ref 0 0 0,.t (.int .i64 n)]) (qE 0 [yU s]) (qX [] 1 (fun r o=>r = .tup []∧o=[yU (s.1,s.2.1,n)])):=by
 obtain⟨b,at_,e⟩:=s;simp(disch:=omega)only[go_sem,qA4,yU,rdT]
end Go.Eng
end
