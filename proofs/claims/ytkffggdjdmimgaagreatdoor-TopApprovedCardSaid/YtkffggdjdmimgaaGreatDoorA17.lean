/- A part of an abstract machine, its walks, their tie. -/
import Derived.Test.YtkffggdjdmimgaaGreatDoorA16
import Derived.Test.YtkffggdjdmimgaaGreatDoorA9
set_option linter.all false
section
set_option maxHeartbeats 8000000
set_option maxRecDepth 20000
namespace Go.Eng
open List
variable (tab:Tab) (gl:Gl)
def zDv (n:Nat):Nat:=(119-n%64)%64
def beL (n k:Nat):List UInt8:=(List.range k).map fun i=>UInt8.ofNat (n/2^(56-8*i))
def kV (bs:List UInt8):List UInt8:=bs++[128]++List.replicate (zDv bs.length) 0++beL (bs.length*8) 8
theorem zMi {n:Nat}:beL n 0=[]:=rfl
theorem qH1 {n k:Nat}:(beL n k).length=k:=by simp[beL]
theorem zMh {n k:Nat}:beL n (k+1)=beL n k++[UInt8.ofNat (n/2^(56-8*k))]:=by simp[beL,range_succ]
theorem zIj (bs:List UInt8)(hb:bs.length<1000000000):qIi.1.wp tab gl (qE 0 [.t (.sl (bs.map qA))]) (qE 0 []) (kG [] [(2,none)] 0 (fun r o=>r = .sl 0 0 (kV bs).length∧o=[.live 1 (((kV bs).map qA).map V.t) true false])):=by
 have hz:zDv bs.length=(119-bs.length%64)%64:=rfl;simp(disch:=omega)only[go_sem,qIi];refine qB (zDv bs.length) (fun k=>[(0,.t (.sl (bs.map qA))),(3,.sl 8304 0 (bs.length+1+k))]) (fun k=>[(8304,.live 1 (((bs++[128]++List.replicate k 0).map qA).map V.t) true false)]) ?_ (fun k hk=>?_)
 ·refine qJ.rd id ?_ ?_ rfl;all_goals simp(disch:=omega)only[go_sem,id]
 ·by_cases hlt:k<zDv bs.length
  ·simp(disch:=omega)only[go_sem];refine⟨hlt,qJ.rd (fun _=>16416) ?_ ?_ rfl⟩;all_goals simp(disch:=omega)only[go_sem,replicate_succ',append_assoc,Nat.add_assoc]
  ·have e:k=zDv bs.length:=oM;subst e;simp(disch:=omega)only[go_sem];refine qB 8 (fun k=>[(3,.sl 8304 0 (bs.length+1+zDv bs.length+k)),(4,V.t (T.int IntKind.u64 (bs.length*8:Nat))),(5,.t (.int .i64 (56-((8*k:Nat):Int))))]) (fun k=>[(8304,.live 1 (((bs++[128]++List.replicate (zDv bs.length) 0++beL (bs.length*8) k).map qA).map V.t) true false)]) ?_ (fun k hk=>?_)
   ·refine qJ.rd id ?_ ?_ rfl;all_goals simp(disch:=omega)only[go_sem,id,zMi,append_nil]
   ·by_cases hlt:k<8
    ·simp(disch:=omega)only[go_sem,qH1];refine⟨hlt,qJ.rd (fun _=>36976) ?_ ?_ rfl⟩;all_goals simp(disch:=omega)only[go_sem,zMh,append_assoc,Nat.add_assoc]
     omega
    ·have e:k=8:=oM;subst e;simp(disch:=omega)only[go_sem,qH1,kV]
theorem zFc (a:Int):qAn.1.wp tab gl (qE 0 [.t (.int .i64 a)]) (qE 0 []) (qV [(2,none)] 0 (fun r o=>r = .t (.int .i64 (if a=0 then 20 else if a=1 then 32 else 0))∧o=[])):=by
 by_cases h0:a=0
 ·subst h0;simp(disch:=omega)only[go_sem,qAn]
 ·by_cases h1:a=1
  ·subst h1;simp(disch:=omega)only[go_sem,qAn]
  ·simp(disch:=omega)only[go_sem,qAn,h0,h1]
theorem zLo (a:Int):qDb.1.wp tab gl (qE 0 [.t (.int .i64 a)]) (qE 0 []) (qV [(2,none)] 0 (fun r o=>r = .t (.int .i64 (if a=0 then 20 else if a=1 then 32 else 0))∧o=[])):=by
 by_cases h0:a=0
 ·subst h0;simp(disch:=omega)only[go_sem,qDb]
 ·by_cases h1:a=1
  ·subst h1;simp(disch:=omega)only[go_sem,qDb]
  ·simp(disch:=omega)only[go_sem,qDb,h0,h1]
def zCi (bs:List UInt8)(i:Nat):UInt32:=(bs.getD (4*i) 0).toUInt32 <<< 24 ||| (bs.getD (4*i+1) 0).toUInt32 <<< 16 ||| (bs.getD (4*i+2) 0).toUInt32 <<< 8 ||| (bs.getD (4*i+3) 0).toUInt32
theorem zFd (bs:List UInt8)(i:Nat)(hi:4*i+3<bs.length)(hb:bs.length<1000000000):qGs.1.wp tab gl (qE 0 [.t (.sl (bs.map qA)),.t (.int .i64 i)]) (qE 0 []) (qV [(4,none)] 0 (fun r o=>r = .t (jC (zCi bs i))∧o=[])):=by
 simp(disch:=omega)only[go_sem,qGs];exact⟨rfl,rfl⟩
theorem zLs (bs:List UInt8)(i:Nat)(hi:4*i+3<bs.length)(hb:bs.length<1000000000):qKs.1.wp tab gl (qE 0 [.t (.sl (bs.map qA)),.t (.int .i64 i)]) (qE 0 []) (qV [(4,none)] 0 (fun r o=>r = .t (jC (zCi bs i))∧o=[])):=by
 simp(disch:=omega)only[go_sem,qKs];exact⟨rfl,rfl⟩
def qWv (x:UInt32)(n:Nat):UInt32:=x >>> UInt32.ofNat n ||| x <<< UInt32.ofNat (32-n)
theorem zLr (x:UInt32)(n:Nat)(h:0<n∧n<32):qKr.1.wp tab gl (qE 0 [.t (jC x),.t (.int .u64 n)]) (qE 0 []) (qV [(4,none)] 0 (fun r o=>r = .t (jC (qWv x n))∧o=[])):=by
 simp(disch:=omega)only[go_sem,qKr];rfl
theorem zLq (x:UInt32)(n:Nat)(h:0<n∧n<32):qKq.1.wp tab gl (qE 0 [.t (jC x),.t (.int .u64 n)]) (qE 0 []) (qV [(4,none)] 0 (fun r o=>r = .t (jC (qWv x (32-n)))∧o=[])):=by
 simp(disch:=omega)only[go_sem,qKq];rw[qWv,UInt32.or_comm,show 32-(32-n)=n by omega]
theorem qQ2 (x:UInt32)(n:Int)(h : -32<n∧n<32∧n≠0):qAf.1.wp tab gl (qE 0 [.t (jC x),.t (.int .i64 n)]) (qE 0 []) (qV [(4,none)] 0 (fun r o=>r = .t (jC (qWv x ((32-n)%32).toNat))∧o=[])):=by
 have e:IntKind.u64.wrap n%32=((32-(32-n).toNat%32:Nat):Int):=by rw[qW6];omega
 have e2:((32-n)%32).toNat=(32-n).toNat%32:=oM;have e3:32-(32-(32-n).toNat%32)=(32-n).toNat%32:=oM;simp(disch:=omega)only[go_sem,qAf,e,e2,e3];rw[qWv,UInt32.or_comm]
def qYx (w:UInt32):List UInt8:=[(w >>> 24).toUInt8,(w >>> 16).toUInt8,(w >>> 8).toUInt8,w.toUInt8]
def qBg (ws:List UInt32):List UInt8:=ws.flatMap qYx
theorem qHs (ws:List UInt32):(qBg ws).length=4*ws.length:=by
 induction ws with
 | nil=>rfl
 | cons w r ih=>simp only[qBg,flatMap_cons,length_append] at *;rw[ih];simp[qYx];omega
theorem qVg {ws:List UInt32}{k:Nat}(h:k<ws.length):qBg (ws.take (k+1))=qBg (ws.take k)++qYx (ws.getD k 0):=by
 rw[qEe (d:=0) h];simp[qBg]
theorem qZt (ws:List UInt32)(hb:ws.length<1000000000):qDs.1.wp tab gl (qE 0 [.t (.sl (ws.map jC))]) (qE 0 []) (kG [] [(2,none)] 0 (fun r o=>r = .sl 0 0 (4*ws.length)∧o=[.live 1 (((qBg ws).map qA).map V.t) true false])):=by
 simp(disch:=omega)only[go_sem,↓reduceIte,Nat.reduceAdd,Int.reduceLE,reduceCtorEq,qDs];refine qB ws.length (fun k=>[(3,.sl 8240 0 (4*k)),(10,.t (.sl (ws.map jC))),(11,.t (.int .i64 ws.length)),(12,.t (.int .i64 k))]) (fun k=>[(8240,.live 1 (((qBg (ws.take k)).map qA).map V.t) true false)]) ?_ (fun k hk=>?_)
 ·refine qJ.rd id ?_ ?_ rfl;all_goals simp(disch:=omega)only[go_sem,↓reduceIte,Nat.reduceAdd,Nat.reduceEqDiff,Nat.reduceMul,id,qBg,flatMap_nil,map_nil]
 ·have hl:(qBg (ws.take k)).length=4*k:=by rw[qHs,length_take];omega
  by_cases hlt:k<ws.length
  ·simp(disch:=omega)only[go_sem,↓reduceIte,Nat.reduceAdd,Nat.reduceEqDiff,Nat.reduceLT,Nat.reduceLeDiff,hl];refine⟨hlt,qJ.rd (fun _=>24784) ?_ ?_ rfl⟩;all_goals simp(disch:=omega)only[go_sem,↓reduceIte,Nat.reduceAdd,Nat.reduceEqDiff,qVg,qYx]
   ·omega
   ·simp only[append_assoc,cons_append,nil_append];rfl
  ·have e:k=ws.length:=oM;subst e;rw[take_length] at hl;simp(disch:=omega)only[go_sem,↓reduceIte,Nat.reduceAdd,Nat.reduceEqDiff,hl,take_length]
def yEc (x:UInt32):UInt32:=qWv x 7 ^^^ qWv x 18 ^^^ x >>> 3
def yEd (x:UInt32):UInt32:=qWv x 17 ^^^ qWv x 19 ^^^ x >>> 10
def qC3 (bs:List UInt8):Nat→List UInt32
 | 0=>List.replicate 64 0
 | t+1=>let w:=qC3 bs t
  w.set t (if t<16 then zCi bs t else yEd (w.getD (t-2) 0)+w.getD (t-7) 0+yEc (w.getD (t-15) 0)+w.getD (t-16) 0)
theorem qVe {bs:List UInt8}{t:Nat}:(qC3 bs t).length=64:=by
 induction t with
 | zero=>rfl
 | succ t ih=>simp only[qC3,length_set,ih]
def qI6:Ct where
 α:=List UInt8×Nat
 aS x:=[.t (.sl (x.1.map qA)),.t (.int .i64 x.2)]
 ins _:=[]
 pre x:=4*x.2+3<x.1.length∧x.1.length<1000000000
 r x:= .t (jC (zCi x.1 x.2))
 outs _:=[]
 inj:=by
  rintro⟨a,b⟩ ⟨c,d⟩ h _;simp[zN,Int.natCast_inj] at h;obtain⟨rfl,rfl⟩:=h;exact⟨rfl,rfl⟩
theorem zFo {bs:List UInt8}{i:Nat}(h:4*i+3<bs.length∧bs.length<1000000000):qI6.fs [.t (.sl (bs.map qA)),.t (.int .i64 i)] []=some (.t (jC (zCi bs i)),[]):=qI6.eq (bs,i) h
def qTl:Ct where
 α:=UInt32×Int
 aS x:=[.t (jC x.1),.t (.int .i64 x.2)]
 ins _:=[]
 pre x := -32<x.2∧x.2<32∧x.2≠0
 r x:= .t (jC (qWv x.1 ((32-x.2)%32).toNat))
 outs _:=[]
 inj:=by
  rintro⟨a,b⟩ ⟨c,d⟩ h _;simp[zEf] at h;obtain⟨rfl,rfl⟩:=h;exact⟨rfl,rfl⟩
theorem qQv {x:UInt32}{i:Int}(h : -32<i∧i<32∧i≠0):qTl.fs [.t (jC x),.t (.int .i64 i)] []=some (.t (jC (qWv x ((32-i)%32).toNat)),[]):=qTl.eq (x,i) h
def zFu:List UInt32:=[0x428a2f98,0x71374491,0xb5c0fbcf,0xe9b5dba5,0x3956c25b,0x59f111f1,0x923f82a4,0xab1c5ed5,0xd807aa98,0x12835b01,0x243185be,0x550c7dc3,0x72be5d74,0x80deb1fe,0x9bdc06a7,0xc19bf174,0xe49b69c1,0xefbe4786,0x0fc19dc6,0x240ca1cc,0x2de92c6f,0x4a7484aa,0x5cb0a9dc,0x76f988da,0x983e5152,0xa831c66d,0xb00327c8,0xbf597fc7,0xc6e00bf3,0xd5a79147,0x06ca6351,0x14292967,0x27b70a85,0x2e1b2138,0x4d2c6dfc,0x53380d13,0x650a7354,0x766a0abb,0x81c2c92e,0x92722c85,0xa2bfe8a1,0xa81a664b,0xc24b8b70,0xc76c51a3,0xd192e819,0xd6990624,0xf40e3585,0x106aa070,0x19a4c116,0x1e376c08,0x2748774c,0x34b0bcb5,0x391c0cb3,0x4ed8aa4a,0x5b9cca4f,0x682e6ff3,0x748f82ee,0x78a5636f,0x84c87814,0x8cc70208,0x90befffa,0xa4506ceb,0xbef9a3f7,0xc67178f2]
def rnd (k w:UInt32)(s:List UInt32):List UInt32:=
 let a:=s.getD 0 0
 let e:=s.getD 4 0
 let t1:=s.getD 7 0+(qWv e 6 ^^^ qWv e 11 ^^^ qWv e 25)+((e &&& s.getD 5 0) ^^^ (~~~e &&& s.getD 6 0))+k+w
 let t2:=(qWv a 2 ^^^ qWv a 13 ^^^ qWv a 22)+((a &&& s.getD 1 0) ^^^ (a &&& s.getD 2 0) ^^^ (s.getD 1 0 &&& s.getD 2 0))
 [t1+t2,s.getD 0 0,s.getD 1 0,s.getD 2 0,s.getD 3 0+t1,s.getD 4 0,s.getD 5 0,s.getD 6 0]
def qCg (ws hs:List UInt32):Nat→List UInt32
 | 0=>hs
 | t+1=>rnd (zFu.getD t 0) (ws.getD t 0) (qCg ws hs t)
theorem qR9 {ws hs:List UInt32}{t:Nat}(h:hs.length=8):(qCg ws hs t).length=8:=by
 cases t with
 | zero=>exact h
 | succ t=>rfl
def zOz (hs s:List UInt32):Nat→List UInt32
 | 0=>hs
 | i+1=>(zOz hs s i).set i ((zOz hs s i).getD i 0+s.getD i 0)
theorem qOg {hs s:List UInt32}{i:Nat}:(zOz hs s i).length=hs.length:=by
 induction i with
 | zero=>rfl
 | succ i ih=>simp only[zOz,length_set,ih]
def xA (hs:List UInt32)(bs:List UInt8):List UInt32:=zOz hs (qCg (qC3 bs 64) hs 64) 8
theorem qNs (h1:LkC tab 260 qI6)(h2:LkC tab 261 qTl)(hg:gl 2=some (zFu.map jC))(bs:List UInt8)(hs:List UInt32)(hb:bs.length=64)(hh:hs.length=8) :
  xQ.1.wp tab gl (qE 0 [.ref 0 0 0,.t (.sl (bs.map qA))]) (qE 0 [.live 1 ((hs.map jC).map V.t) true true]) (qV [] 1 (fun r o=>r = .tup []∧o=[.live 1 (((xA hs bs).map jC).map V.t) true true])):=by
 have ht:hs.take 8=hs:=take_of_length_le oM;simp(disch:=omega)only[go_sem,xQ];refine qB 64 (fun k=>[(17,.t (.int .i64 k)),(4,.ref 4096 0 0),(0,.ref 0 0 0),(1,V.t (T.sl (List.map qA bs)))]) (fun k=>[(4096,.live 1 (((qC3 bs k).map jC).map V.t) true true),(0,.live 1 ((hs.map jC).map V.t) true true)]) ?_ (fun k hk=>?_)
 ·refine qJ.rd id ?_ ?_ rfl;all_goals simp(disch:=omega)only[go_sem,id,qC3]
 ·have hl:(qC3 bs k).length=64:=qVe;by_cases hlt:k<64
  ·by_cases h16:k<16
   ·simp(disch:=omega)only[go_sem,h1,h2,zFo,hl];refine⟨hlt,qJ.rd id ?_ ?_ rfl⟩;all_goals simp(disch:=omega)only[go_sem,id,qC3,if_pos h16]
   ·simp(disch:=omega)only[go_sem,h1,h2,qQv,hl];refine⟨rfl,rfl,hlt,qJ.rd id ?_ ?_ rfl⟩;all_goals simp(disch:=omega)only[go_sem,id,qC3,if_neg h16]
    rfl
  ·have e:k=64:=oM;subst e;simp(disch:=omega)only[go_sem,ht,hh];refine qB 64 (fun k=>[(70,.t (.int .i64 k)),(4,.ref 4096 0 0),(0,.ref 0 0 0),(10,.ref 49200 0 0)]) (fun k=>[(49200,.live 1 (((qCg (qC3 bs 64) hs k).map jC).map V.t) true true),(4096,.live 1 (((qC3 bs 64).map jC).map V.t) true true),(0,.live 1 ((hs.map jC).map V.t) true true)]) ?_ (fun k hk=>?_)
   ·refine qJ.rd id ?_ ?_ rfl;all_goals simp(disch:=omega)only[go_sem,id,qCg]
   ·have hl2:(qCg (qC3 bs 64) hs k).length=8:=qR9 hh;by_cases hlt:k<64
    ·have hk2:zFu.length=64:=rfl;simp(maxSteps:=9^9)(disch:=try exact dS)only[go_sem,h1,h2,qQv,hl,hl2,hg,hk2];repeat refine And.intro rfl ?_
     refine⟨hlt,qJ.rd id ?_ ?_ rfl⟩;all_goals simp(disch:=omega)only[go_sem,id,qCg,rnd,drop_eq_nil_of_le (show (qCg (qC3 bs 64) hs k).length≤8 by omega)]
    ·have e:k=64:=oM;subst e;simp(disch:=omega)only[go_sem];refine qB 8 (fun k=>[(152,.t (.int .i64 k)),(0,.ref 0 0 0),(10,.ref 49200 0 0)]) (fun k=>[(49200,.live 1 (((qCg (qC3 bs 64) hs 64).map jC).map V.t) true true),(0,.live 1 (((zOz hs (qCg (qC3 bs 64) hs 64) k).map jC).map V.t) true true)]) ?_ (fun k hk=>?_)
     ·refine qJ.rd id ?_ ?_ rfl;all_goals simp(disch:=omega)only[go_sem,id,zOz]
     ·have hl3:(zOz hs (qCg (qC3 bs 64) hs 64) k).length=8:=by rw[qOg,hh]
      by_cases hlt:k<8
      ·simp(disch:=omega)only[go_sem,hl2,hl3];refine⟨rfl,hlt,qJ.rd id ?_ ?_ rfl⟩;all_goals simp(disch:=omega)only[go_sem,id,zOz]
      ·have e:k=8:=oM;subst e;simp(disch:=omega)only[go_sem,xA]
theorem qFv (bs:List UInt8):(kV bs).length=bs.length+1+zDv bs.length+8:=by
 simp only[kV,length_append,length_replicate,qH1,length_cons,length_nil]
theorem qWu (bs:List UInt8):(kV bs).length%64=0:=by
 rw[qFv,zDv];omega
def hN (comp:List UInt32→List UInt8→List UInt32)(iv:List UInt32)(p:List UInt8):Nat→List UInt32
 | 0=>iv
 | k+1=>comp (hN comp iv p k) ((p.drop (64*k)).take 64)
def jE3 (comp:List UInt32→List UInt8→List UInt32)(iv:List UInt32)(bs:List UInt8):List UInt8:=qBg (hN comp iv (kV bs) ((kV bs).length/64))
def qTw:List UInt32:=[0x6a09e667,0xbb67ae85,0x3c6ef372,0xa54ff53a,0x510e527f,0x9b05688c,0x1f83d9ab,0x5be0cd19]
def zT (bs:List UInt8):List UInt8:=jE3 xA qTw bs
theorem zTl {comp:List UInt32→List UInt8→List UInt32}{iv:List UInt32}{p:List UInt8}{n:Nat}(hc : ∀ h b,(comp h b).length=h.length)(hi:iv.length=n){k:Nat}:(hN comp iv p k).length=n:=by
 induction k with
 | zero=>exact hi
 | succ k ih=>rw[hN,hc,ih]
theorem qNx (h:List UInt32)(b:List UInt8):(xA h b).length=h.length:=qOg
theorem qX0 {p:List UInt8}{k:Nat}:(hN xA qTw p k).length=8:=zTl qNx rfl
def qRm:Ct where
 α:=List UInt8
 aS x:=[.t (.sl (x.map qA))]
 ins _:=[]
 pre x:=x.length<1000000000
 r x:= .sl 0 0 (kV x).length
 outs x:=[.live 1 (((kV x).map qA).map V.t) true false]
 inj:=by
  intro a b h _;simp[zN] at h;subst h;exact⟨rfl,rfl⟩
theorem zN0 {bs:List UInt8}(h:bs.length<1000000000):qRm.fs [.t (.sl (bs.map qA))] []=some (.sl 0 0 (kV bs).length,[.live 1 (((kV bs).map qA).map V.t) true false]):=qRm.eq bs h
def qB3:Ct where
 α:=List UInt32
 aS x:=[.t (.sl (x.map jC))]
 ins _:=[]
 pre x:=x.length<1000000000
 r x:= .sl 0 0 (4*x.length)
 outs x:=[.live 1 (((qBg x).map qA).map V.t) true false]
 inj:=by
  intro a b h _;simp[zNp] at h;subst h;exact⟨rfl,rfl⟩
theorem qSn {ws:List UInt32}(h:ws.length<1000000000):qB3.fs [.t (.sl (ws.map jC))] []=some (.sl 0 0 (4*ws.length),[.live 1 (((qBg ws).map qA).map V.t) true false]):=qB3.eq ws h
def qA9 (n:Nat)(comp:List UInt32→List UInt8→List UInt32):Ct where
 α:=List UInt32×List UInt8
 aS x:=[.ref 0 0 0,.t (.sl (x.2.map qA))]
 ins x:=[.live 1 ((x.1.map jC).map V.t) true true]
 pre x:=x.2.length=64∧x.1.length=n
 r _:= .tup []
 outs x:=[.live 1 (((comp x.1 x.2).map jC).map V.t) true true]
 inj:=by
  rintro⟨a,b⟩ ⟨c,d⟩ h1 h2;simp[zN] at h1;simp only[Ob.live.injEq,zZm,zNp,List.cons.injEq] at h2;obtain⟨⟨_,rfl,_,_⟩,_⟩:=h2;subst h1;exact⟨rfl,rfl⟩
theorem zR9 {n:Nat}{comp:List UInt32→List UInt8→List UInt32}{hs:List UInt32}{bs:List UInt8}(h:bs.length=64∧hs.length=n):(qA9 n comp).fs [.ref 0 0 0,.t (.sl (bs.map qA))] [.live 1 ((hs.map jC).map V.t) true true] =
  some (.tup [],[.live 1 (((comp hs bs).map jC).map V.t) true true]):=(qA9 n comp).eq (hs,bs) h
theorem qWc (h1:LkC tab 193 qRm)(h3:LkC tab 195 qB3)(h4:tab.look 196=some (qA9 8 xA).fs)(bs:List UInt8)(hb:bs.length<1000000000) :
  qAa.1.wp tab gl (qE 0 [.t (.int .i64 1),.t (.sl (bs.map qA))]) (qE 0 []) (kG [] [(4,none)] 0 (fun r o=>r = .sl 0 0 32∧o=[.live 1 (((zT bs).map qA).map V.t) true false])):=by
 have hp:=qFv bs;have hm:=qWu bs;simp(disch:=omega)only[go_sem,qAa,h1,zN0];refine qB ((kV bs).length/64) (fun k=>[(8,V.sl 49168 (64*k) ((kV bs).length-64*k)),(7,V.ref 45072 0 0)]) (fun k=>[(49168,.live 1 (((kV bs).map qA).map V.t) true false),(45072,.live 1 (((hN xA qTw (kV bs) k).map jC).map V.t) true true)]) ?_ (fun k hk=>?_)
 ·refine qJ.rd id ?_ ?_ rfl;all_goals simp(disch:=omega)only[go_sem,id,hN,qTw,Nat.mul_zero,mcn]
 ·have hl:(hN xA qTw (kV bs) k).length=8:=qX0;by_cases hlt:k<(kV bs).length/64
  ·simp(maxSteps:=9^9)(disch:=try exact dS)only[go_sem,h4,zR9,hl];refine⟨hlt,qJ.rd id ?_ ?_ rfl⟩;all_goals simp(maxSteps:=9^9)(disch:=try exact dS)only[go_sem,id,hN]
   omega
  ·have e:k=(kV bs).length/64:=oM;subst e;have ht:List.take 8 (hN xA qTw (kV bs) ((kV bs).length/64))=hN xA qTw (kV bs) ((kV bs).length/64):=take_of_length_le oM;simp(disch:=omega)only[go_sem,h3,qSn,hl,ht,zT,jE3]
def kI (bs:List UInt8):Nat→List UInt32
 | 0=>List.replicate 80 0
 | t+1=>let w:=kI bs t
  w.set t (if t<16 then zCi bs t else qWv (w.getD (t-3) 0 ^^^ w.getD (t-8) 0 ^^^ w.getD (t-14) 0 ^^^ w.getD (t-16) 0) 31)
theorem qSc {bs:List UInt8}{t:Nat}:(kI bs t).length=80:=by
 induction t with
 | zero=>rfl
 | succ t ih=>simp only[kI,length_set,ih]
def f1 (t:Nat)(b c d:UInt32):UInt32:=if t<20 then (b &&& c) ^^^ (~~~b &&& d) else if t<40 then b ^^^ c ^^^ d else if t<60 then (b &&& c) ^^^ (b &&& d) ^^^ (c &&& d) else b ^^^ c ^^^ d
def k1 (t:Nat):UInt32:=if t<20 then 0x5a827999 else if t<40 then 0x6ed9eba1 else if t<60 then 0x8f1bbcdc else 0xca62c1d6
def jA1 (t:Nat)(w:UInt32)(s:List UInt32):List UInt32:=
 [qWv (s.getD 0 0) 27+f1 t (s.getD 1 0) (s.getD 2 0) (s.getD 3 0)+s.getD 4 0+k1 t+w,s.getD 0 0,qWv (s.getD 1 0) 2,s.getD 2 0,s.getD 3 0]
def wE (ws hs:List UInt32):Nat→List UInt32
 | 0=>hs
 | t+1=>jA1 t (ws.getD t 0) (wE ws hs t)
def qEj (hs:List UInt32)(bs:List UInt8):List UInt32:=
 let s:=wE (kI bs 80) hs 80
 [hs.getD 0 0+s.getD 0 0,hs.getD 1 0+s.getD 1 0,hs.getD 2 0+s.getD 2 0,hs.getD 3 0+s.getD 3 0,hs.getD 4 0+s.getD 4 0]
theorem qSv (h1:LkC tab 260 qI6)(h2:LkC tab 261 qTl)(bs:List UInt8)(x0 x1 x2 x3 x4:UInt32)(hb:bs.length=64) :
  kK.1.wp tab gl (qE 0 [.ref 0 0 0,.t (.sl (bs.map qA))]) (qE 0 [.live 1 (([x0,x1,x2,x3,x4].map jC).map V.t) true true]) (qV [] 1 (fun r o=>r = .tup []∧o=[.live 1 (((qEj [x0,x1,x2,x3,x4] bs).map jC).map V.t) true true])):=by
 simp(disch:=omega)only[go_sem,kK];refine qB 80 (fun k=>[(14,.t (.int .i64 k)),(4,.ref 4096 0 0),(0,.ref 0 0 0),(1,V.t (T.sl (List.map qA bs)))]) (fun k=>[(4096,.live 1 (((kI bs k).map jC).map V.t) true true),(0,.live 1 [.t (jC x0),.t (jC x1),.t (jC x2),.t (jC x3),.t (jC x4)] true true)]) ?_ (fun k hk=>?_)
 ·refine qJ.rd id ?_ ?_ rfl;all_goals simp(disch:=omega)only[go_sem,id,kI]
 ·have hl:(kI bs k).length=80:=qSc;by_cases hlt:k<80
  ·by_cases h16:k<16
   ·simp(disch:=omega)only[go_sem,h1,h2,zFo,hl];refine⟨hlt,qJ.rd id ?_ ?_ rfl⟩;all_goals simp(disch:=omega)only[go_sem,id,kI,if_pos h16]
   ·simp(disch:=omega)only[go_sem,h1,h2,qQv,hl];repeat refine And.intro rfl ?_
    refine⟨hlt,qJ.rd id ?_ ?_ rfl⟩;all_goals simp(disch:=omega)only[go_sem,id,kI,if_neg h16]
  ·have e:k=80:=oM;subst e;simp(disch:=omega)only[go_sem];repeat refine And.intro rfl ?_
   refine qB 80 (fun k=>[(67,.t (.int .i64 k)),(4,.ref 4096 0 0),(0,.ref 0 0 0),(6,.t (jC ((wE (kI bs 80) [x0,x1,x2,x3,x4] k).getD 0 0))),(7,.t (jC ((wE (kI bs 80) [x0,x1,x2,x3,x4] k).getD 1 0))),(8,.t (jC ((wE (kI bs 80) [x0,x1,x2,x3,x4] k).getD 2 0))),(9,.t (jC ((wE (kI bs 80) [x0,x1,x2,x3,x4] k).getD 3 0))),(10,.t (jC ((wE (kI bs 80) [x0,x1,x2,x3,x4] k).getD 4 0)))])
    (fun k=>[(4096,.live 1 (((kI bs 80).map jC).map V.t) true true),(0,.live 1 [.t (jC x0),.t (jC x1),.t (jC x2),.t (jC x3),.t (jC x4)] true true)]) ?_ (fun k hk=>?_)
   ·refine qJ.rd id ?_ ?_ rfl;all_goals simp(disch:=omega)only[go_sem,id,wE,getD_cons_zero,getD_cons_succ]
   ·by_cases hlt:k<80
    ·by_cases h20:k<20
     ·have e0:k/20=0:=oM;simp(disch:=omega)only[go_sem,h1,h2,qQv,hl,e0];repeat refine And.intro rfl ?_
      refine⟨hlt,qJ.rd id ?_ ?_ rfl⟩;all_goals simp(disch:=omega)only[go_sem,id,wE,jA1,f1,k1,if_pos h20,getD_cons_zero,getD_cons_succ]
     ·by_cases h40:k<40
      ·have e0:k/20=1:=oM;simp(disch:=omega)only[go_sem,h1,h2,qQv,hl,e0];repeat refine And.intro rfl ?_
       refine⟨hlt,qJ.rd id ?_ ?_ rfl⟩;all_goals simp(disch:=omega)only[go_sem,id,wE,jA1,f1,k1,if_neg h20,if_pos h40,getD_cons_zero,getD_cons_succ]
      ·by_cases h60:k<60
       ·have e0:k/20=2:=oM;simp(disch:=omega)only[go_sem,h1,h2,qQv,hl,e0];repeat refine And.intro rfl ?_
        refine⟨hlt,qJ.rd id ?_ ?_ rfl⟩;all_goals simp(disch:=omega)only[go_sem,id,wE,jA1,f1,k1,if_neg h20,if_neg h40,if_pos h60,getD_cons_zero,getD_cons_succ]
       ·have e0:k/20=3:=oM;simp(disch:=omega)only[go_sem,h1,h2,qQv,hl,e0];repeat refine And.intro rfl ?_
        refine⟨hlt,qJ.rd id ?_ ?_ rfl⟩;all_goals simp(disch:=omega)only[go_sem,id,wE,jA1,f1,k1,if_neg h20,if_neg h40,if_neg h60,getD_cons_zero,getD_cons_succ]
    ·have e:k=80:=oM;subst e;simp(disch:=omega)only[go_sem,qEj,getD_cons_zero,getD_cons_succ];repeat refine And.intro rfl ?_
     rfl
def iv1:List UInt32:=[0x67452301,0xefcdab89,0x98badcfe,0x10325476,0xc3d2e1f0]
theorem zGv {p:List UInt8}{k:Nat}:(hN qEj iv1 p k).length=5:=by
 cases k<;>rfl
def qVh (bs:List UInt8):List UInt8:=jE3 qEj iv1 bs
theorem zBa (h1:LkC tab 193 qRm)(h3:LkC tab 195 qB3)(h4:tab.look 194=some (qA9 5 qEj).fs)(bs:List UInt8)(hb:bs.length<1000000000) :
  qAa.1.wp tab gl (qE 0 [.t (.int .i64 0),.t (.sl (bs.map qA))]) (qE 0 []) (kG [] [(4,none)] 0 (fun r o=>r = .sl 0 0 20∧o=[.live 1 (((qVh bs).map qA).map V.t) true false])):=by
 have hp:=qFv bs;have hm:=qWu bs;simp(disch:=omega)only[go_sem,qAa,h1,zN0];refine qB ((kV bs).length/64) (fun k=>[(6,V.sl 20496 (64*k) ((kV bs).length-64*k)),(5,V.ref 16400 0 0)]) (fun k=>[(20496,.live 1 (((kV bs).map qA).map V.t) true false),(16400,.live 1 (((hN qEj iv1 (kV bs) k).map jC).map V.t) true true)]) ?_ (fun k hk=>?_)
 ·refine qJ.rd id ?_ ?_ rfl;all_goals simp(disch:=omega)only[go_sem,id,hN,iv1,Nat.mul_zero,mcn]
 ·have hl:(hN qEj iv1 (kV bs) k).length=5:=zGv;by_cases hlt:k<(kV bs).length/64
  ·simp(maxSteps:=9^9)(disch:=try exact dS)only[go_sem,h4,zR9,hl];refine⟨hlt,qJ.rd id ?_ ?_ rfl⟩;all_goals simp(maxSteps:=9^9)(disch:=try exact dS)only[go_sem,id,hN]
   omega
  ·have e:k=(kV bs).length/64:=oM;subst e;have ht:List.take 5 (hN qEj iv1 (kV bs) ((kV bs).length/64))=hN qEj iv1 (kV bs) ((kV bs).length/64):=take_of_length_le oM;simp(disch:=omega)only[go_sem,h3,qSn,hl,ht,qVh,jE3]
theorem zQ2 (bs:List UInt8)(hb:bs.length<1000000000):qOa.1.wp tab gl (qE 0 [.t (.sl (bs.map qA))]) (qE 0 []) (kG [] [(2,none)] 0 (fun r o=>r = .sl 0 0 (kV bs).length∧o=[.live 1 (((kV bs).map qA).map V.t) true false])):=by
 have hz:zDv bs.length=(119-bs.length%64)%64:=rfl;simp(disch:=omega)only[go_sem,qOa];refine qB (zDv bs.length) (fun k=>[(0,.t (.sl (bs.map qA))),(3,.sl 8256 0 (bs.length+1+k))]) (fun k=>[(8256,.live 1 (((bs++[128]++List.replicate k 0).map qA).map V.t) true false)]) ?_ (fun k hk=>?_)
 ·refine qJ.rd id ?_ ?_ rfl;all_goals simp(disch:=omega)only[go_sem,id]
 ·by_cases hlt:k<zDv bs.length
  ·simp(disch:=omega)only[go_sem];refine⟨hlt,qJ.rd (fun _=>16416) ?_ ?_ rfl⟩;all_goals simp(disch:=omega)only[go_sem,replicate_succ',append_assoc,Nat.add_assoc]
  ·have e:k=zDv bs.length:=oM;subst e;simp(disch:=omega)only[go_sem];refine qB 8 (fun k=>[(3,.sl 8256 0 (bs.length+1+zDv bs.length+k)),(4,V.t (T.int IntKind.u64 (bs.length*8:Nat))),(5,.t (.int .i64 (7-(k:Int))))]) (fun k=>[(8256,.live 1 (((bs++[128]++List.replicate (zDv bs.length) 0++beL (bs.length*8) k).map qA).map V.t) true false)]) ?_ (fun k hk=>?_)
   ·refine qJ.rd id ?_ ?_ rfl;all_goals simp(disch:=omega)only[go_sem,id,zMi,append_nil]
   ·by_cases hlt:k<8
    ·have e:8*(7-k)=56-8*k:=oM;simp(disch:=omega)only[go_sem,qH1,e];refine⟨hlt,qJ.rd (fun _=>36992) ?_ ?_ rfl⟩;all_goals simp(disch:=omega)only[go_sem,zMh,append_assoc,Nat.add_assoc]
     omega
    ·have e:k=8:=oM;subst e;simp(disch:=omega)only[go_sem,qH1,kV]
theorem zIm (ws:List UInt32)(hb:ws.length<1000000000):qIo.1.wp tab gl (qE 0 [.t (.sl (ws.map jC))]) (qE 0 []) (kG [] [(2,none)] 0 (fun r o=>r = .sl 0 0 (4*ws.length)∧o=[.live 1 (((qBg ws).map qA).map V.t) true false])):=by
 simp(disch:=omega)only[go_sem,Nat.reduceAdd,qIo];refine qB ws.length (fun k=>[(3,.sl 9000 0 (4*k)),(0,.t (.sl (ws.map jC))),(4,.t (.int .i64 k))]) (fun k=>[(9000,.live 1 (((qBg (ws.take k)).map qA).map V.t) true false)]) ?_ (fun k hk=>?_)
 ·show qJ _ _ _ ([(9000,.live 1 [] true false)]++[]);refine qJ.cv0 id ?_ ?_ rfl rfl;all_goals simp(disch:=omega)only[go_sem,↓reduceIte,Nat.reduceEqDiff,reduceCtorEq,id,mcn,Nat.mul_zero]
 ·have hl:(qBg (ws.take k)).length=4*k:=by rw[qHs,length_take];omega
  by_cases hlt:k<ws.length
  ·simp(disch:=omega)only[go_sem,↓reduceIte,Nat.reduceAdd,Nat.reduceEqDiff,Nat.reduceLT,Nat.reduceLeDiff,reduceCtorEq,hl];refine⟨rfl,hlt,qJ.rd (fun _=>24976) ?_ ?_ rfl⟩;all_goals simp(disch:=omega)only[go_sem,↓reduceIte,Nat.reduceAdd,Nat.reduceEqDiff,reduceCtorEq,qVg,qYx]
   ·omega
   ·simp only[append_assoc,cons_append,nil_append];rfl
  ·have e:k=ws.length:=oM;subst e;rw[take_length] at hl;simp(disch:=omega)only[go_sem,↓reduceIte,Nat.reduceAdd,Nat.reduceEqDiff,reduceCtorEq,hl,take_length]
theorem qWd:qCt.1.wp tab gl (qE 0 []) (qE 0 []) (qV [(0,some (64,true))] 0 (fun r o=>r = .t (.agg (zFu.map jC))∧o=[])):=by
 simp(maxSteps:=9^9)(disch:=try exact dS)only[go_sem,qCt,drop_replicate];rfl
def qWo:Ct where
 α:=Unit
 aS _:=[]
 ins _:=[]
 pre _:=True
 r _:= .t (.agg (zFu.map jC))
 outs _:=[]
 inj:=fun _ _ _ _=>⟨rfl,rfl⟩
theorem zXz:qWo.fs [] []=some (.t (.agg (zFu.map jC)),[]):=qWo.eq () trivial
def zDe:Ct where
 α:=UInt32×Nat
 aS x:=[.t (jC x.1),.t (.int .u64 x.2)]
 ins _:=[]
 pre x:=0<x.2∧x.2<32
 r x:= .t (jC (qWv x.1 x.2))
 outs _:=[]
 inj:=by
  rintro⟨a,b⟩ ⟨c,d⟩ h _;simp[zEf,Int.natCast_inj] at h;obtain⟨rfl,rfl⟩:=h;exact⟨rfl,rfl⟩
theorem zU0 {x:UInt32}{n:Nat}(h:0<n∧n<32):zDe.fs [.t (jC x),.t (.int .u64 (no_index (@OfNat.ofNat Int n _)))] []=some (.t (jC (qWv x n)),[]):=zDe.eq (x,n) h
theorem zFf (h1:LkC tab 85 qWo)(h2:LkC tab 86 qRm)(h3:LkC tab 87 qI6)(h4:LkC tab 88 zDe)(h5:LkC tab 89 qB3)
  (bs:List UInt8) (hb:bs.length<1000000000) :
  qGz.1.wp tab gl (qE 0 [.t (.sl (bs.map qA))]) (qE 0 []) (kG [] [(2,none)] 0 (fun r o=>r = .sl 0 0 32∧o=[.live 1 (((zT bs).map qA).map V.t) true false])):=by
 have hp:=qFv bs;have hm:=qWu bs;have hz:zDv bs.length<64:=by unfold zDv;omega
 have hk2:zFu.length=64:=rfl;simp(maxSteps:=9^9)(disch:=try exact dS)only[go_sem,qGz,h1,zXz,h2,zN0,hk2];refine qB ((kV bs).length/64) (fun k=>[(3,.ref 8208 0 0),(4,.sl 12288 0 8),(5,.sl 16400 0 (kV bs).length),(6,.t (.int .i64 ((64*k:Nat):Int)))])
  (fun k=>[(8208,.live 1 ((zFu.map jC).map V.t) true true),(12288,.live 1 (((hN xA qTw (kV bs) k).map jC).map V.t) true false),(16400,.live 1 (((kV bs).map qA).map V.t) true false)]) ?_ (fun k hk=>?_)
 ·refine qJ.rd id ?_ ?_ rfl;all_goals simp(disch:=omega)only[go_sem,id,hN,qTw,Nat.mul_zero,mcn]
 ·have hl:(hN xA qTw (kV bs) k).length=8:=qX0;by_cases hlt:k<(kV bs).length/64
  ·generalize hH:hN xA qTw (kV bs) k=H at hl ⊢;generalize hB:List.take 64 (List.drop (64*k) (kV bs))=B;have hBl:B.length=64:=by rw[←hB];simp only[length_take,length_drop];omega
   simp(disch:=omega)only[go_sem];refine qB 64 (fun t=>[(8,.t (.int .i64 t)),(7,.ref 32768 0 0),(3,.ref 8208 0 0),(4,.sl 12288 0 8),(5,.sl 16400 0 (kV bs).length),(6,.t (.int .i64 ((64*k:Nat):Int)))])
    (fun t=>[(32768,.live 1 (((qC3 B t).map jC).map V.t) true true),(8208,.live 1 ((zFu.map jC).map V.t) true true),(12288,.live 1 ((H.map jC).map V.t) true false),(16400,.live 1 (((kV bs).map qA).map V.t) true false)]) ?_ (fun t ht=>?_)
   ·refine qJ.rd id ?_ ?_ rfl;all_goals simp(disch:=omega)only[go_sem,id,qC3]
   ·have hs:(qC3 B t).length=64:=qVe;by_cases hlt2:t<64
    ·by_cases h16:t<16
     ·simp(disch:=omega)only[go_sem,h3,zFo,hs,hB];refine⟨hlt2,qJ.rd id ?_ ?_ rfl⟩;all_goals simp(disch:=omega)only[go_sem,id,qC3,if_pos h16]
     ·simp(maxSteps:=9^9)(disch:=try exact dS)only[go_sem,h4,zU0,hs];repeat refine And.intro rfl ?_
      refine⟨hlt2,qJ.rd id ?_ ?_ rfl⟩;all_goals simp(maxSteps:=9^9)(disch:=try exact dS)only[go_sem,id,qC3,if_neg h16]
      rfl
    ·have e:t=64:=oM;subst e;have hT:List.take 8 H=H:=take_of_length_le oM;simp(disch:=omega)only[go_sem,hl,hT];refine qB 64 (fun t=>[(12,.t (.int .i64 t)),(11,.sl 69664 0 8),(7,.ref 32768 0 0),(3,.ref 8208 0 0),(4,.sl 12288 0 8),(5,.sl 16400 0 (kV bs).length),(6,.t (.int .i64 ((64*k:Nat):Int)))])
      (fun t=>[(69664,.live 1 (((qCg (qC3 B 64) H t).map jC).map V.t) true false),(32768,.live 1 (((qC3 B 64).map jC).map V.t) true true),(8208,.live 1 ((zFu.map jC).map V.t) true true),(12288,.live 1 ((H.map jC).map V.t) true false),(16400,.live 1 (((kV bs).map qA).map V.t) true false)]) ?_ (fun t ht=>?_)
     ·refine qJ.rd id ?_ ?_ rfl;all_goals simp(disch:=omega)only[go_sem,id,qCg]
     ·have hr:(qCg (qC3 B 64) H t).length=8:=qR9 hl;by_cases hlt3:t<64
      ·simp(maxSteps:=9^9)(disch:=try exact dS)only[go_sem,h4,zU0,hs,hr,hk2];repeat refine And.intro rfl ?_
       refine⟨hlt3,qJ.rd (fun i=>if i=69664 then 98656 else i) ?_ ?_ rfl⟩;all_goals simp(disch:=omega)only[go_sem,qCg,rnd]
       trace_state
      ·have e:t=64:=oM;subst e;simp(disch:=omega)only[go_sem];refine qB 8 (fun t=>[(17,.t (.int .i64 t)),(11,.sl 69664 0 8),(3,.ref 8208 0 0),(4,.sl 12288 0 8),(5,.sl 16400 0 (kV bs).length),(6,.t (.int .i64 ((64*k:Nat):Int)))])
        (fun t=>[(69664,.live 1 (((qCg (qC3 B 64) H 64).map jC).map V.t) true false),(8208,.live 1 ((zFu.map jC).map V.t) true true),(12288,.live 1 (((zOz H (qCg (qC3 B 64) H 64) t).map jC).map V.t) true false),(16400,.live 1 (((kV bs).map qA).map V.t) true false)]) ?_ (fun t ht=>?_)
       ·refine qJ.rd id ?_ ?_ rfl;all_goals simp(disch:=omega)only[go_sem,id,zOz]
       ·have ha:(zOz H (qCg (qC3 B 64) H 64) t).length=8:=by rw[qOg,hl]
        by_cases hlt4:t<8
        ·simp(disch:=omega)only[go_sem,hr,ha];repeat refine And.intro rfl ?_
         refine⟨hlt4,qJ.rd id ?_ ?_ rfl⟩;all_goals simp(disch:=omega)only[go_sem,id,zOz]
        ·have e:t=8:=oM;subst e;simp(disch:=omega)only[go_sem];refine⟨hlt,qJ.rd id ?_ ?_ rfl⟩;all_goals simp(disch:=omega)only[go_sem,id,hN,hH,hB,xA]
         omega
  ·have e:k=(kV bs).length/64:=oM;subst e;have e2:64*((kV bs).length/64)=(kV bs).length:=oM;have ht:List.take 8 (hN xA qTw (kV bs) ((kV bs).length/64))=hN xA qTw (kV bs) ((kV bs).length/64):=take_of_length_le oM;simp(disch:=omega)only[go_sem,e2,h5,qSn,hl,ht,zT,jE3]
def qWp:Ct where
 α:=UInt32×Nat
 aS x:=[.t (jC x.1),.t (.int .u64 x.2)]
 ins _:=[]
 pre x:=0<x.2∧x.2<32
 r x:= .t (jC (qWv x.1 (32-x.2)))
 outs _:=[]
 inj:=by
  rintro⟨a,b⟩ ⟨c,d⟩ h _;simp[zEf,Int.natCast_inj] at h;obtain⟨rfl,rfl⟩:=h;exact⟨rfl,rfl⟩
theorem qR8 {x:UInt32}{n:Nat}(h:0<n∧n<32):qWp.fs [.t (jC x),.t (.int .u64 (no_index (@OfNat.ofNat Int n _)))] []=some (.t (jC (qWv x (32-n))),[]):=qWp.eq (x,n) h
theorem zLp (h2:LkC tab 86 qRm)(h3:LkC tab 87 qI6)(h4:LkC tab 152 qWp)(h5:LkC tab 89 qB3)
  (bs:List UInt8) (hb:bs.length<1000000000) :
  qKp.1.wp tab gl (qE 0 [.t (.sl (bs.map qA))]) (qE 0 []) (kG [] [(2,none)] 0 (fun r o=>r = .sl 0 0 20∧o=[.live 1 (((qVh bs).map qA).map V.t) true false])):=by
 have hp:=qFv bs;have hm:=qWu bs;have hz:zDv bs.length<64:=by unfold zDv;omega
 simp(disch:=omega)only[go_sem,qKp,h2,zN0];refine qB ((kV bs).length/64) (fun k=>[(3,.sl 8192 0 5),(4,.sl 12304 0 (kV bs).length),(5,.t (.int .i64 ((64*k:Nat):Int)))])
  (fun k=>[(8192,.live 1 (((hN qEj iv1 (kV bs) k).map jC).map V.t) true false),(12304,.live 1 (((kV bs).map qA).map V.t) true false)]) ?_ (fun k hk=>?_)
 ·refine qJ.rd id ?_ ?_ rfl;all_goals simp(disch:=omega)only[go_sem,id,hN,iv1,Nat.mul_zero,mcn]
 ·have hl:(hN qEj iv1 (kV bs) k).length=5:=zGv;by_cases hlt:k<(kV bs).length/64
  ·generalize hH:hN qEj iv1 (kV bs) k=H at hl ⊢;generalize hB:List.take 64 (List.drop (64*k) (kV bs))=B;have hBl:B.length=64:=by rw[←hB];simp only[length_take,length_drop];omega
   simp(disch:=omega)only[go_sem];refine qB 80 (fun t=>[(7,.t (.int .i64 t)),(6,.ref 28672 0 0),(3,.sl 8192 0 5),(4,.sl 12304 0 (kV bs).length),(5,.t (.int .i64 ((64*k:Nat):Int)))])
    (fun t=>[(28672,.live 1 (((kI B t).map jC).map V.t) true true),(8192,.live 1 ((H.map jC).map V.t) true false),(12304,.live 1 (((kV bs).map qA).map V.t) true false)]) ?_ (fun t ht=>?_)
   ·refine qJ.rd id ?_ ?_ rfl;all_goals simp(disch:=omega)only[go_sem,id,kI]
   ·have hs:(kI B t).length=80:=qSc;by_cases hlt2:t<80
    ·by_cases h16:t<16
     ·simp(disch:=omega)only[go_sem,h3,zFo,hs,hB];repeat refine And.intro rfl ?_
      refine⟨hlt2,qJ.rd id ?_ ?_ rfl⟩;all_goals simp(disch:=omega)only[go_sem,id,kI,if_pos h16]
     ·simp(maxSteps:=9^9)(disch:=try exact dS)only[go_sem,h4,qR8,hs];repeat refine And.intro rfl ?_
      refine⟨hlt2,qJ.rd id ?_ ?_ rfl⟩;all_goals simp(disch:=omega)only[go_sem,id,kI,if_neg h16]
    ·have e:t=80:=oM;subst e;simp(disch:=omega)only[go_sem,hl];repeat refine And.intro rfl ?_
     refine qB 80 (fun t=>[(13,.t (.int .i64 t)),(6,.ref 28672 0 0),(3,.sl 8192 0 5),(4,.sl 12304 0 (kV bs).length),(5,.t (.int .i64 ((64*k:Nat):Int))),
       (8,.t (jC ((wE (kI B 80) H t).getD 0 0))),(9,.t (jC ((wE (kI B 80) H t).getD 1 0))),(10,.t (jC ((wE (kI B 80) H t).getD 2 0))),(11,.t (jC ((wE (kI B 80) H t).getD 3 0))),(12,.t (jC ((wE (kI B 80) H t).getD 4 0)))])
      (fun _=>[(28672,.live 1 (((kI B 80).map jC).map V.t) true true),(8192,.live 1 ((H.map jC).map V.t) true false),(12304,.live 1 (((kV bs).map qA).map V.t) true false)]) ?_ (fun t ht=>?_)
     ·refine qJ.rd id ?_ ?_ rfl;all_goals simp(disch:=omega)only[go_sem,id,wE]
     ·by_cases hlt3:t<80
      ·by_cases h20:t<20
       ·simp(maxSteps:=9^9)(disch:=try exact dS)only[go_sem,h4,qR8,hs];repeat refine And.intro rfl ?_
        refine⟨hlt3,qJ.rd id ?_ ?_ rfl⟩;all_goals simp(disch:=omega)only[go_sem,id,wE,jA1,f1,k1,if_pos h20,getD_cons_zero,getD_cons_succ]
       ·by_cases h40:t<40
        ·simp(maxSteps:=9^9)(disch:=try exact dS)only[go_sem,h4,qR8,hs];repeat refine And.intro rfl ?_
         refine⟨hlt3,qJ.rd id ?_ ?_ rfl⟩;all_goals simp(disch:=omega)only[go_sem,id,wE,jA1,f1,k1,if_neg h20,if_pos h40,getD_cons_zero,getD_cons_succ]
        ·by_cases h60:t<60
         ·simp(maxSteps:=9^9)(disch:=try exact dS)only[go_sem,h4,qR8,hs];repeat refine And.intro rfl ?_
          refine⟨hlt3,qJ.rd id ?_ ?_ rfl⟩;all_goals simp(disch:=omega)only[go_sem,id,wE,jA1,f1,k1,if_neg h20,if_neg h40,if_pos h60,getD_cons_zero,getD_cons_succ]
         ·simp(maxSteps:=9^9)(disch:=try exact dS)only[go_sem,h4,qR8,hs];repeat refine And.intro rfl ?_
          refine⟨hlt3,qJ.rd id ?_ ?_ rfl⟩;all_goals simp(disch:=omega)only[go_sem,id,wE,jA1,f1,k1,if_neg h20,if_neg h40,if_neg h60,getD_cons_zero,getD_cons_succ]
      ·have e:t=80:=oM;subst e;simp(disch:=omega)only[go_sem,hl];repeat refine And.intro rfl ?_
       refine⟨hlt,qJ.rd (fun i=>if i=8192 then 110992 else i) ?_ ?_ rfl⟩;all_goals simp(disch:=omega)only[go_sem,hN,hH,hB,qEj]
       omega
  ·have e:k=(kV bs).length/64:=oM;subst e;have e2:64*((kV bs).length/64)=(kV bs).length:=oM;have ht:List.take 5 (hN qEj iv1 (kV bs) ((kV bs).length/64))=hN qEj iv1 (kV bs) ((kV bs).length/64):=take_of_length_le oM;simp(disch:=omega)only[go_sem,e2,h5,qSn,hl,ht,qVh,jE3]
def szA (a:Nat):Nat:=if a=0 then 20 else if a=1 then 32 else 0
def zW5 (a:Nat)(bs:List UInt8):List UInt8:=if a=0 then qVh bs else if a=1 then zT bs else []
theorem qY0 {comp:List UInt32→List UInt8→List UInt32}{iv:List UInt32}{bs:List UInt8}{n:Nat}(hc : ∀ h b,h.length=n→(comp h b).length=n)(hi:iv.length=n):(jE3 comp iv bs).length=4*n:=by
 have : ∀ k p,(hN comp iv p k).length=n:=by
  intro k p
  induction k with
  | zero=>exact hi
  | succ k ih=>exact hc _ _ ih
 rw[jE3,qHs,this]
theorem qH {bs:List UInt8}:(zT bs).length=32:=qY0 (n:=8) (fun h b e=>by rw[qNx,e]) rfl
theorem zP {bs:List UInt8}:(qVh bs).length=20:=qY0 (n:=5) (fun h b _=>rfl) rfl
theorem qJx {a:Nat}{bs:List UInt8}:(zW5 a bs).length=szA a:=by
 unfold zW5 szA;split
 ·exact zP
 ·split
  ·exact qH
  ·rfl
theorem zLl (bs:List UInt8)(hb:bs.length<1000000000):qKn.1.wp tab gl (qE 0 [.t (.sl (bs.map qA))]) (qE 0 []) (kG [] [(2,none)] 0 (fun r o=>r = .sl 0 0 bs.length∧o=[.live 1 ((bs.map qA).map V.t) true false])):=by
 simp(disch:=omega)only[go_sem,qKn]
def qNy (n:Nat)(f:List UInt8→List UInt8):Ct where
 α:=List UInt8
 aS x:=[.t (.sl (x.map qA))]
 ins _:=[]
 pre x:=x.length<1000000000
 r _:= .sl 0 0 n
 outs x:=[.live 1 (((f x).map qA).map V.t) true false]
 inj:=by
  intro a b h _;simp[zN] at h;subst h;exact⟨rfl,rfl⟩
theorem zCe {n:Nat}{f:List UInt8→List UInt8}{bs:List UInt8}(h:bs.length<1000000000):(qNy n f).fs [.t (.sl (bs.map qA))] []=some (.sl 0 0 n,[.live 1 (((f bs).map qA).map V.t) true false]):=(qNy n f).eq bs h
theorem zQ1 (h1:tab.look 120=some (qNy 20 qVh).fs)(h2:tab.look 52=some (qNy 32 zT).fs)(a:Nat)(ha:a<2)(bs:List UInt8)(hb:bs.length<1000000000) :
  qIn.1.wp tab gl (qE 0 [.t (.int .i64 a),.t (.sl (bs.map qA))]) (qE 0 []) (kG [] [(4,none)] 0 (fun r o=>r = .sl 0 0 (szA a)∧o=[.live 1 (((zW5 a bs).map qA).map V.t) true false])):=by
 rcases (show a=0∨a=1 by omega) with rfl | rfl
 ·simp(disch:=omega)only[go_sem,qIn,h1,zCe,szA,zW5]
 ·simp(disch:=omega)only[go_sem,qIn,h2,zCe,szA,zW5]
def zW1 (n:Nat):List UInt8:=[UInt8.ofNat (n/2^24),UInt8.ofNat (n/2^16),UInt8.ofNat (n/2^8),UInt8.ofNat n]
def qZ (tag:Nat)(fs:List (List UInt8)):List UInt8:=UInt8.ofNat tag::fs.flatMap fun f=>zW1 f.length++f
theorem qJp {tag:Nat}{fs:List (List UInt8)}{k:Nat}(h:k<fs.length):qZ tag (fs.take (k+1))=qZ tag (fs.take k)++zW1 (fs.getD k []).length++fs.getD k []:=by
 rw[qEe (d:=[]) h];simp[qZ]
theorem qRt {tag:Nat}{fs:List (List UInt8)}{k:Nat}:(qZ tag (fs.take k)).length≤(qZ tag fs).length:=by
 have:qZ tag fs=qZ tag (fs.take k)++(fs.drop k).flatMap fun f=>zW1 f.length++f:=by
  simp only[qZ,cons_append,←flatMap_append,take_append_drop]
 rw[this,length_append];omega
theorem zGr {tag:Nat}{fs:List (List UInt8)}:4*fs.length+1≤(qZ tag fs).length:=by
 simp only[qZ,length_cons];have:4*fs.length≤(fs.flatMap fun f=>zW1 f.length++f).length:=by
  induction fs with
  | nil=>simp
  | cons f r ih=>
   have h4 : ∀ n,(zW1 n).length=4:=fun _=>rfl
   simp only[flatMap_cons,length_append,length_cons,h4];omega
 omega
theorem zA9 (tag:Nat)(ht:tag<256)(fs:List (List UInt8))(hb:(qZ tag fs).length<1000000000):qEx.1.wp tab gl (qE 0 [.t (.int .i64 tag),.t (.sl (fs.map bsT))]) (qE 0 []) (kG [] [(4,none)] 0 (fun r o=>r = .sl 0 0 (qZ tag fs).length∧o=[.live 1 (((qZ tag fs).map qA).map V.t) true false])):=by
 simp(disch:=omega)only[go_sem,qEx];have hge:=zGr (tag:=tag) (fs:=fs);refine qB fs.length (fun k=>[(5,.sl 8224 0 (qZ tag (fs.take k)).length),(12,V.t (T.sl (List.map bsT fs))),(13,.t (.int .i64 fs.length)),(14,.t (.int .i64 k))]) (fun k=>[(8224,.live 1 (((qZ tag (fs.take k)).map qA).map V.t) true false)]) ?_ (fun k hk=>?_)
 ·refine qJ.rd id ?_ ?_ rfl;all_goals simp(disch:=omega)only[go_sem,id,qZ,flatMap_nil,mcn]
 ·have h0:=qRt (tag:=tag) (fs:=fs) (k:=k);by_cases hlt:k<fs.length
  ·have h1:=qRt (tag:=tag) (fs:=fs) (k:=k+1);rw[qJp hlt,length_append,length_append] at h1;have h2:(zW1 (fs.getD k []).length).length=4:=rfl;simp(disch:=omega)only[go_sem];refine⟨hlt,qJ.rd (fun _=>32800) ?_ ?_ rfl⟩;all_goals simp(disch:=omega)only[go_sem,qJp,zW1]
   simp only[append_assoc,cons_append,nil_append]
  ·have e:k=fs.length:=oM;subst e;simp(disch:=omega)only[go_sem,take_length]
theorem zIl (tag:Nat)(ht:tag<256)(fs:List (List UInt8))(hb:(qZ tag fs).length<1000000000):qIm.1.wp tab gl (qE 0 [.t (.int .i64 tag),.t (.sl (fs.map bsT))]) (qE 0 []) (kG [] [(4,none)] 0 (fun r o=>r = .sl 0 0 (qZ tag fs).length∧o=[.live 1 (((qZ tag fs).map qA).map V.t) true false])):=by
 simp(disch:=omega)only[go_sem,qIm];have hge:=zGr (tag:=tag) (fs:=fs);refine qB fs.length (fun k=>[(5,.sl 8224 0 (qZ tag (fs.take k)).length),(1,V.t (T.sl (List.map bsT fs))),(6,.t (.int .i64 k))]) (fun k=>[(8224,.live 1 (((qZ tag (fs.take k)).map qA).map V.t) true false)]) ?_ (fun k hk=>?_)
 ·refine qJ.rd id ?_ ?_ rfl;all_goals simp(disch:=omega)only[go_sem,id,qZ,flatMap_nil,mcn]
 ·have h0:=qRt (tag:=tag) (fs:=fs) (k:=k);by_cases hlt:k<fs.length
  ·have h1:=qRt (tag:=tag) (fs:=fs) (k:=k+1);rw[qJp hlt,length_append,length_append] at h1;have h2:(zW1 (fs.getD k []).length).length=4:=rfl;simp(disch:=omega)only[go_sem];refine⟨hlt,qJ.rd (fun _=>32848) ?_ ?_ rfl⟩;all_goals simp(disch:=omega)only[go_sem,qJp,zW1]
   simp only[append_assoc,cons_append,nil_append]
  ·have e:k=fs.length:=oM;subst e;simp(disch:=omega)only[go_sem,take_length]
theorem zLn (a b:List UInt8)(ha:a.length<1000000000)(hb:b.length<1000000000):qF9.1.wp tab gl (qE 0 [.t (.sl (a.map qA)),.t (.sl (b.map qA))]) (qE 0 []) (qV [(4,none)] 0 (fun r o=>r = .t (.bool (decide (a=b)))∧o=[])):=by
 by_cases hl:a.length=b.length
 ·simp(disch:=omega)only[go_sem,qF9];refine qTx a.length (fun i=>a.take i=b.take i) (fun k=>[(5,.t (.int .i64 k)),(0,.t (.sl (a.map qA))),(1,.t (.sl (b.map qA)))]) (fun _=>[]) rfl ?_ (fun k hk hP=>?_)
  ·refine qJ.rd id ?_ ?_ rfl;all_goals simp(disch:=omega)only[go_sem,id]
  ·by_cases hlt:k<a.length
   ·by_cases he:a.getD k 0=b.getD k 0
    ·simp(disch:=omega)only[go_sem,he];refine⟨rfl,hlt,?_,qJ.rd id ?_ ?_ rfl⟩
     ·rw[qEe (d:=0) hlt,qEe (d:=0) oM,hP,he]
     all_goals simp(disch:=omega)only[go_sem,id]
    ·have hne : ¬ a=b:=fun h=>he (by rw[h])
     simp(disch:=omega)only[go_sem,he,hne];rfl
   ·have e:k=a.length:=oM;subst e;rw[take_length,hl,take_length] at hP;simp(disch:=omega)only[go_sem,hP]
 ·have hne : ¬ a=b:=fun h=>hl (by rw[h])
  simp(disch:=omega)only[go_sem,qF9,hne]
def qOj:Ct where
 α:=List UInt8×List UInt8
 aS x:=[.t (.sl (x.1.map qA)),.t (.sl (x.2.map qA))]
 ins _:=[]
 pre x:=x.1.length<1000000000∧x.2.length<1000000000
 r x:= .t (.bool (decide (x.1=x.2)))
 outs _:=[]
 inj:=by
  rintro⟨a,b⟩ ⟨c,d⟩ h _;simp[zN] at h;obtain⟨rfl,rfl⟩:=h;exact⟨rfl,rfl⟩
theorem qYq {a b:List UInt8}(h:a.length<1000000000∧b.length<1000000000):qOj.fs [.t (.sl (a.map qA)),.t (.sl (b.map qA))] []=some (.t (.bool (decide (a=b))),[]):=qOj.eq (a,b) h
def zT3 (l:List (List UInt8)):Prop:=l.length<1000000000 ∧ ∀ x∈l,x.length<1000000000
theorem qR3 {l:List (List UInt8)}(h:zT3 l)(i:Nat):(l.getD i []).length<1000000000:=by
 by_cases hi:i<l.length
 ·have:l.getD i []=l[i]:=by simp[List.getD,hi]
  rw[this];exact h.2 _ (getElem_mem hi)
 ·simp[List.getD,getElem?_eq_none (Nat.le_of_not_lt hi)]
def qEk:Ct where
 α:=Nat×List (List UInt8)
 aS x:=[.t (.int .i64 x.1),.t (.sl (x.2.map bsT))]
 ins _:=[]
 pre x:=x.1<256∧(qZ x.1 x.2).length<1000000000
 r x:= .sl 0 0 (qZ x.1 x.2).length
 outs x:=[.live 1 (((qZ x.1 x.2).map qA).map V.t) true false]
 inj:=by
  rintro⟨a,b⟩ ⟨c,d⟩ h _;simp[qDg,Int.natCast_inj] at h;obtain⟨rfl,rfl⟩:=h;exact⟨rfl,rfl⟩
theorem qRu {t:Nat}{fs:List (List UInt8)}(h:t<256∧(qZ t fs).length<1000000000):qEk.fs [.t (.int .i64 t),.t (.sl (fs.map bsT))] []=some (.sl 0 0 (qZ t fs).length,[.live 1 (((qZ t fs).map qA).map V.t) true false]):=qEk.eq (t,fs) h
def vW (t:Nat)(fs:List (List UInt8)):List UInt8:=zT (qZ t fs)
def qBa:Ct where
 α:=Nat×List UInt8
 aS x:=[.t (.int .i64 x.1),.t (.sl (x.2.map qA))]
 ins _:=[]
 pre x:=x.1<2∧x.2.length<1000000000
 r x:= .sl 0 0 (szA x.1)
 outs x:=[.live 1 (((zW5 x.1 x.2).map qA).map V.t) true false]
 inj:=by
  rintro⟨a,b⟩ ⟨c,d⟩ h _;simp[zN,Int.natCast_inj] at h;obtain⟨rfl,rfl⟩:=h;exact⟨rfl,rfl⟩
theorem qR {bs:List UInt8}(h:bs.length<1000000000):qBa.fs [.t (.int .i64 0),.t (.sl (bs.map qA))] []=some (.sl 0 0 20,[.live 1 (((qVh bs).map qA).map V.t) true false]):=qBa.eq (0,bs) ⟨sM,h⟩
theorem qP {bs:List UInt8}(h:bs.length<1000000000):qBa.fs [.t (.int .i64 1),.t (.sl (bs.map qA))] []=some (.sl 0 0 32,[.live 1 (((zT bs).map qA).map V.t) true false]):=qBa.eq (1,bs) ⟨sM,h⟩
theorem zFb (h1:LkC tab 155 qEk)(h2:LkC tab 153 qBa)(t:Nat)(fs:List (List UInt8))(ht:t<256)(hb:(qZ t fs).length<1000000000) :
  qGr.1.wp tab gl (qE 0 [.t (.int .i64 t),.t (.sl (fs.map bsT))]) (qE 0 []) (kG [] [(4,none)] 0 (fun r o=>r = .sl 0 0 32∧o=[.live 1 (((vW t fs).map qA).map V.t) true false])):=by
 simp(disch:=omega)only[go_sem,qGr,h1,h2,qRu,qP,vW]
theorem zLm (h1:LkC tab 54 qEk)(h2:tab.look 52=some (qNy 32 zT).fs)(t:Nat)(fs:List (List UInt8))(ht:t<256)(hb:(qZ t fs).length<1000000000) :
  qKo.1.wp tab gl (qE 0 [.t (.int .i64 t),.t (.sl (fs.map bsT))]) (qE 0 []) (kG [] [(4,none)] 0 (fun r o=>r = .sl 0 0 32∧o=[.live 1 (((vW t fs).map qA).map V.t) true false])):=by
 simp(disch:=omega)only[go_sem,qKo,h1,h2,qRu,zCe,vW]
theorem zIi (h1:LkC tab 193 qRm)(h2:tab.look 194=some (qA9 5 qEj).fs)(h3:LkC tab 195 qB3)(h4:tab.look 196=some (qA9 8 xA).fs)(a:Nat)(ha:a<2)(bs:List UInt8)(hb:bs.length<1000000000) :
  qAa.1.wp tab gl (qE 0 [.t (.int .i64 a),.t (.sl (bs.map qA))]) (qE 0 []) (kG [] [(4,none)] 0 (fun r o=>r = .sl 0 0 (szA a)∧o=[.live 1 (((zW5 a bs).map qA).map V.t) true false])):=by
 rcases (show a=0∨a=1 by omega) with rfl | rfl
 ·exact zBa tab gl h1 h3 h2 bs hb
 ·exact qWc tab gl h1 h3 h4 bs hb
def m64 (n:Int):Nat:=(n%18446744073709551616).toNat
def beI (size:Nat)(n:Int)(k:Nat):List UInt8:=(List.range k).map fun i=>UInt8.ofNat (m64 n/2^(8*(size-1-i)))
theorem zMg {size:Nat}{n:Int}:beI size n 0=[]:=rfl
theorem qTg {size:Nat}{n:Int}{k:Nat}:(beI size n k).length=k:=by simp[beI]
theorem zCy {size:Nat}{n:Int}{k:Nat}:beI size n (k+1)=beI size n k++[UInt8.ofNat (m64 n/2^(8*(size-1-k)))]:=by simp[beI,range_succ]
theorem zNm {n:Int}:IntKind.u64.wrap n=(m64 n:Int):=by rw[qW6,m64];omega
theorem zL1 (b:List UInt8)(size:Nat)(n:Int)(hb:b.length<1000000000)(hs:1≤size∧size≤8):qK8.1.wp tab gl (qE 0 [.t (.sl (b.map qA)),.t (.int .i64 size),.t (.int .i64 n)]) (qE 0 []) (kG [] [(6,none)] 0 (fun r o=>r = .sl 0 0 (b.length+size)∧o=[.live 1 (((b++beI size n size).map qA).map V.t) true false])):=by
 have hw:=zNm (n:=n);simp(disch:=omega)only[go_sem,qK8];refine qB size (fun k=>[(2,.t (.int .i64 n)),(7,.sl 8208 0 (b.length+k)),(8,.t (.int .i64 ((size:Int)-1-k)))]) (fun k=>[(8208,.live 1 (((b++beI size n k).map qA).map V.t) true false)]) ?_ (fun k hk=>?_)
 ·refine qJ.rd id ?_ ?_ rfl;all_goals simp(disch:=omega)only[go_sem,id,zMg,append_nil]
  all_goals omega
 ·have hl:(beI size n k).length=k:=qTg;by_cases hlt:k<size
  ·simp(disch:=omega)only[go_sem,hl,hw];refine⟨hlt,qJ.rd (fun _=>32912) ?_ ?_ rfl⟩;all_goals simp(disch:=omega)only[go_sem,zCy,append_assoc,Nat.add_assoc]
   all_goals first | omega | rfl
  ·have e:k=size:=oM;subst e;simp(disch:=omega)only[go_sem,hl]
theorem zLv (b:List UInt8)(size:Nat)(n:Int)(hb:b.length<1000000000)(hs:1≤size∧size≤8):qKv.1.wp tab gl (qE 0 [.t (.sl (b.map qA)),.t (.int .i64 size),.t (.int .i64 n)]) (qE 0 []) (kG [] [(6,none)] 0 (fun r o=>r = .sl 0 0 (b.length+size)∧o=[.live 1 (((b++beI size n size).map qA).map V.t) true false])):=by
 have hw:=zNm (n:=n);simp(disch:=omega)only[go_sem,qKv];refine qB size (fun k=>[(2,.t (.int .i64 n)),(7,.sl 8224 0 (b.length+k)),(8,.t (.int .i64 ((size:Int)-1-k)))]) (fun k=>[(8224,.live 1 (((b++beI size n k).map qA).map V.t) true false)]) ?_ (fun k hk=>?_)
 ·refine qJ.rd id ?_ ?_ rfl;all_goals simp(disch:=omega)only[go_sem,id,zMg,append_nil]
  all_goals omega
 ·have hl:(beI size n k).length=k:=qTg;by_cases hlt:k<size
  ·simp(disch:=omega)only[go_sem,hl,hw];refine⟨hlt,qJ.rd (fun _=>32912) ?_ ?_ rfl⟩;all_goals simp(disch:=omega)only[go_sem,zCy,append_assoc,Nat.add_assoc]
   all_goals first | omega | rfl
  ·have e:k=size:=oM;subst e;simp(disch:=omega)only[go_sem,hl]
abbrev Rd:=List UInt8×Nat×Int
def rdT (s:Rd):T:= .agg [bsT s.1,.int .i64 (s.2.1:Int),.int .i64 s.2.2]
def vD (s:Rd):Ob:= .live 3 [.t (rdT s)] true true
def qEo (s:Rd):Prop:=s.2.1≤s.1.length∧s.1.length<1000000000
theorem zQ6 (b:List UInt8)(hb:b.length<1000000000):qOf.1.wp tab gl (qE 0 [.t (.sl (b.map qA))]) (qE 0 []) (kG [8208] [(2,none)] 0 (fun r o=>r = .ref 0 0 0∧o=[vD (b,0,0)])):=by
 simp(disch:=omega)only[go_sem,qOf];rfl
theorem zQ4 (b:List UInt8)(hb:b.length<1000000000):qOc.1.wp tab gl (qE 0 [.t (.sl (b.map qA))]) (qE 0 []) (kG [] [(2,none)] 0 (fun r o=>r = .ref 0 0 0∧o=[vD (b,0,0)])):=by
 simp(disch:=omega)only[go_sem,qOc];rfl
theorem zL3 (s:Rd)(hs:qEo s)(p n:Nat)(h:p+n≤s.1.length):yO.1.wp tab gl (qE 0 [.ref 0 0 0,.t (.int .i64 p),.t (.int .i64 n)]) (qE 0 [vD s]) (qV [(6,none),(7,none)] 1 (fun r o=>r = .tup [.t (.sl (((s.1.drop p).take n).map qA)),.t (.int .i64 0)]∧o=[vD s])):=by
 obtain⟨b,at_,e⟩:=s;simp only[qEo] at hs h ⊢;simp(disch:=omega)only[go_sem,yO,vD,rdT]
theorem zL2 (s:Rd)(hs:qEo s)(n:Int):qA7.1.wp tab gl (qE 0 [.ref 0 0 0,.t (.int .i64 n)]) (qE 0 [vD s]) (qV [] 1 (fun r o=>r = .tup []∧o=[vD (s.1,s.2.1,n)])):=by
 obtain⟨b,at_,e⟩:=s;simp(disch:=omega)only[go_sem,qA7,vD,rdT]
end Go.Eng
end
