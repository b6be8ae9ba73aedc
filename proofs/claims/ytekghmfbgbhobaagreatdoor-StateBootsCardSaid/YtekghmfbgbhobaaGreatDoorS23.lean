/- A part of an abstract machine, its walks, their tie. -/
import Derived.Test.YtekghmfbgbhobaaGreatDoorS22
import Derived.Test.YtekghmfbgbhobaaGreatDoorS11
set_option linter.all false
section
set_option maxHeartbeats 8000000
set_option maxRecDepth 20000
namespace Go.Eng
variable (tab:Tab) (gl:Gl)
def qX9 (n:Nat):Nat:=(119-n%64)%64
def beL (n k:Nat):List UInt8:=(List.range k).map fun i=>UInt8.ofNat (n/2^(56-8*i))
def wG (bs:List UInt8):List UInt8:=bs++[128]++List.replicate (qX9 bs.length) 0++beL (bs.length*8) 8
theorem zGs {n:Nat}:beL n 0=[]:=rfl
theorem qFl {n k:Nat}:(beL n k).length=k:=by simp[beL]
theorem zGr {n k:Nat}:beL n (k+1)=beL n k++[UInt8.ofNat (n/2^(56-8*k))]:=by simp[beL,List.range_succ]
theorem zC4 (bs:List UInt8)(hb:bs.length<1000000000):qF3.1.wp tab gl (qD 0 [.t (.sl (bs.map qA))]) (qD 0 []) (xU [] [(2,none)] 0 (fun r o=>r = .sl 0 0 (wG bs).length∧o=[.live 1 (((wG bs).map qA).map V.t) true false])):=by
 have hz:qX9 bs.length=(119-bs.length%64)%64:=rfl;simp(disch:=omega)only[go_sem,qF3];refine qF (qX9 bs.length) (fun k=>[(0,.t (.sl (bs.map qA))),(3,.sl 8304 0 (bs.length+1+k))]) (fun k=>[(8304,.live 1 (((bs++[128]++List.replicate k 0).map qA).map V.t) true false)]) ?_ (fun k hk=>?_)
 ·refine qI.rd id ?_ ?_ rfl;all_goals simp(disch:=omega)only[go_sem,id]
 ·by_cases hlt:k<qX9 bs.length
  ·simp(disch:=omega)only[go_sem];refine⟨hlt,qI.rd (fun _=>16416) ?_ ?_ rfl⟩;all_goals simp(disch:=omega)only[go_sem,List.replicate_succ',List.append_assoc,Nat.add_assoc]
  ·have e:k=qX9 bs.length:=oM;subst e;simp(disch:=omega)only[go_sem];refine qF 8 (fun k=>[(3,.sl 8304 0 (bs.length+1+qX9 bs.length+k)),(4,V.t (T.int IntKind.u64 (bs.length*8:Nat))),(5,.t (.int .i64 (56-((8*k:Nat):Int))))]) (fun k=>[(8304,.live 1 (((bs++[128]++List.replicate (qX9 bs.length) 0++beL (bs.length*8) k).map qA).map V.t) true false)]) ?_ (fun k hk=>?_)
   ·refine qI.rd id ?_ ?_ rfl;all_goals simp(disch:=omega)only[go_sem,id,zGs,List.append_nil]
   ·by_cases hlt:k<8
    ·simp(disch:=omega)only[go_sem,qFl];refine⟨hlt,qI.rd (fun _=>36976) ?_ ?_ rfl⟩;all_goals simp(disch:=omega)only[go_sem,zGr,List.append_assoc,Nat.add_assoc]
     omega
    ·have e:k=8:=oM;subst e;simp(disch:=omega)only[go_sem,qFl,wG]
theorem qZs (a:Int):kX.1.wp tab gl (qD 0 [.t (.int .i64 a)]) (qD 0 []) (qY [(2,none)] 0 (fun r o=>r = .t (.int .i64 (if a=0 then 20 else if a=1 then 32 else 0))∧o=[])):=by
 by_cases h0:a=0
 ·subst h0;simp(disch:=omega)only[go_sem,kX]
 ·by_cases h1:a=1
  ·subst h1;simp(disch:=omega)only[go_sem,kX]
  ·simp(disch:=omega)only[go_sem,kX,h0,h1]
theorem zFz (a:Int):qBp.1.wp tab gl (qD 0 [.t (.int .i64 a)]) (qD 0 []) (qY [(2,none)] 0 (fun r o=>r = .t (.int .i64 (if a=0 then 20 else if a=1 then 32 else 0))∧o=[])):=by
 by_cases h0:a=0
 ·subst h0;simp(disch:=omega)only[go_sem,qBp]
 ·by_cases h1:a=1
  ·subst h1;simp(disch:=omega)only[go_sem,qBp]
  ·simp(disch:=omega)only[go_sem,qBp,h0,h1]
def qW8 (bs:List UInt8)(i:Nat):UInt32:=(bs.getD (4*i) 0).toUInt32 <<< 24 ||| (bs.getD (4*i+1) 0).toUInt32 <<< 16 ||| (bs.getD (4*i+2) 0).toUInt32 <<< 8 ||| (bs.getD (4*i+3) 0).toUInt32
theorem qZt (bs:List UInt8)(i:Nat)(hi:4*i+3<bs.length)(hb:bs.length<1000000000):qEm.1.wp tab gl (qD 0 [.t (.sl (bs.map qA)),.t (.int .i64 i)]) (qD 0 []) (qY [(4,none)] 0 (fun r o=>r = .t (zW (qW8 bs i))∧o=[])):=by
 simp(disch:=omega)only[go_sem,qEm];exact⟨rfl,rfl⟩
theorem zF3 (bs:List UInt8)(i:Nat)(hi:4*i+3<bs.length)(hb:bs.length<1000000000):qIk.1.wp tab gl (qD 0 [.t (.sl (bs.map qA)),.t (.int .i64 i)]) (qD 0 []) (qY [(4,none)] 0 (fun r o=>r = .t (zW (qW8 bs i))∧o=[])):=by
 simp(disch:=omega)only[go_sem,qIk];exact⟨rfl,rfl⟩
def qSb (x:UInt32)(n:Nat):UInt32:=x >>> UInt32.ofNat n ||| x <<< UInt32.ofNat (32-n)
theorem zF2 (x:UInt32)(n:Nat)(h:0<n∧n<32):qIj.1.wp tab gl (qD 0 [.t (zW x),.t (.int .u64 n)]) (qD 0 []) (qY [(4,none)] 0 (fun r o=>r = .t (zW (qSb x n))∧o=[])):=by
 simp(disch:=omega)only[go_sem,qIj];rfl
theorem zF1 (x:UInt32)(n:Nat)(h:0<n∧n<32):qIi.1.wp tab gl (qD 0 [.t (zW x),.t (.int .u64 n)]) (qD 0 []) (qY [(4,none)] 0 (fun r o=>r = .t (zW (qSb x (32-n)))∧o=[])):=by
 simp(disch:=omega)only[go_sem,qIi];rw[qSb,UInt32.or_comm,show 32-(32-n)=n by omega]
theorem qN8 (x:UInt32)(n:Int)(h : -32<n∧n<32∧n≠0):kO.1.wp tab gl (qD 0 [.t (zW x),.t (.int .i64 n)]) (qD 0 []) (qY [(4,none)] 0 (fun r o=>r = .t (zW (qSb x ((32-n)%32).toNat))∧o=[])):=by
 have e:IntKind.u64.wrap n%32=((32-(32-n).toNat%32:Nat):Int):=by rw[qSm];omega
 have e2:((32-n)%32).toNat=(32-n).toNat%32:=oM;have e3:32-(32-(32-n).toNat%32)=(32-n).toNat%32:=oM;simp(disch:=omega)only[go_sem,kO,e,e2,e3];rw[qSb,UInt32.or_comm]
def qT6 (w:UInt32):List UInt8:=[(w >>> 24).toUInt8,(w >>> 16).toUInt8,(w >>> 8).toUInt8,w.toUInt8]
def xV (ws:List UInt32):List UInt8:=ws.flatMap qT6
theorem qFf (ws:List UInt32):(xV ws).length=4*ws.length:=by
 induction ws with
 | nil=>rfl
 | cons w r ih=>simp only[xV,List.flatMap_cons,List.length_append] at *;rw[ih];simp[qT6];omega
theorem qQ6 {ws:List UInt32}{k:Nat}(h:k<ws.length):xV (ws.take (k+1))=xV (ws.take k)++qT6 (ws.getD k 0):=by
 rw[qEj (d:=0) h];simp[xV]
theorem qUt (ws:List UInt32)(hb:ws.length<1000000000):qBz.1.wp tab gl (qD 0 [.t (.sl (ws.map zW))]) (qD 0 []) (xU [] [(2,none)] 0 (fun r o=>r = .sl 0 0 (4*ws.length)∧o=[.live 1 (((xV ws).map qA).map V.t) true false])):=by
 simp(disch:=omega)only[go_sem,↓reduceIte,Nat.reduceAdd,Int.reduceLE,reduceCtorEq,qBz];refine qF ws.length (fun k=>[(3,.sl 8240 0 (4*k)),(10,.t (.sl (ws.map zW))),(11,.t (.int .i64 ws.length)),(12,.t (.int .i64 k))]) (fun k=>[(8240,.live 1 (((xV (ws.take k)).map qA).map V.t) true false)]) ?_ (fun k hk=>?_)
 ·refine qI.rd id ?_ ?_ rfl;all_goals simp(disch:=omega)only[go_sem,↓reduceIte,Nat.reduceAdd,Nat.reduceEqDiff,Nat.reduceMul,id,xV,List.flatMap_nil,List.map_nil]
 ·have hl:(xV (ws.take k)).length=4*k:=by rw[qFf,List.length_take];omega
  by_cases hlt:k<ws.length
  ·simp(disch:=omega)only[go_sem,↓reduceIte,Nat.reduceAdd,Nat.reduceEqDiff,Nat.reduceLT,Nat.reduceLeDiff,hl];refine⟨hlt,qI.rd (fun _=>24784) ?_ ?_ rfl⟩;all_goals simp(disch:=omega)only[go_sem,↓reduceIte,Nat.reduceAdd,Nat.reduceEqDiff,qQ6,qT6]
   ·omega
   ·simp only[List.append_assoc,List.cons_append,List.nil_append];rfl
  ·have e:k=ws.length:=oM;subst e;rw[List.take_length] at hl;simp(disch:=omega)only[go_sem,↓reduceIte,Nat.reduceAdd,Nat.reduceEqDiff,hl,List.take_length]
def jQ7 (x:UInt32):UInt32:=qSb x 7 ^^^ qSb x 18 ^^^ x >>> 3
def jQ8 (x:UInt32):UInt32:=qSb x 17 ^^^ qSb x 19 ^^^ x >>> 10
def qBi (bs:List UInt8):Nat→List UInt32
 | 0=>List.replicate 64 0
 | t+1=>let w:=qBi bs t
  w.set t (if t<16 then qW8 bs t else jQ8 (w.getD (t-2) 0)+w.getD (t-7) 0+jQ7 (w.getD (t-15) 0)+w.getD (t-16) 0)
theorem qQ4 {bs:List UInt8}{t:Nat}:(qBi bs t).length=64:=by
 induction t with
 | zero=>rfl
 | succ t ih=>simp only[qBi,List.length_set,ih]
def qG5:Ct where
 α:=List UInt8×Nat
 aS x:=[.t (.sl (x.1.map qA)),.t (.int .i64 x.2)]
 ins _:=[]
 pre x:=4*x.2+3<x.1.length∧x.1.length<1000000000
 r x:= .t (zW (qW8 x.1 x.2))
 outs _:=[]
 inj:=by
  rintro⟨a,b⟩ ⟨c,d⟩ h _;simp[yC,Int.natCast_inj] at h;obtain⟨rfl,rfl⟩:=h;exact⟨rfl,rfl⟩
theorem qZ3 {bs:List UInt8}{i:Nat}(h:4*i+3<bs.length∧bs.length<1000000000):qG5.fs [.t (.sl (bs.map qA)),.t (.int .i64 i)] []=some (.t (zW (qW8 bs i)),[]):=qG5.eq (bs,i) h
def qP1:Ct where
 α:=UInt32×Int
 aS x:=[.t (zW x.1),.t (.int .i64 x.2)]
 ins _:=[]
 pre x := -32<x.2∧x.2<32∧x.2≠0
 r x:= .t (zW (qSb x.1 ((32-x.2)%32).toNat))
 outs _:=[]
 inj:=by
  rintro⟨a,b⟩ ⟨c,d⟩ h _;simp[qYp] at h;obtain⟨rfl,rfl⟩:=h;exact⟨rfl,rfl⟩
theorem qN3 {x:UInt32}{i:Int}(h : -32<i∧i<32∧i≠0):qP1.fs [.t (zW x),.t (.int .i64 i)] []=some (.t (zW (qSb x ((32-i)%32).toNat)),[]):=qP1.eq (x,i) h
def qZ7:List UInt32:=[0x428a2f98,0x71374491,0xb5c0fbcf,0xe9b5dba5,0x3956c25b,0x59f111f1,0x923f82a4,0xab1c5ed5,0xd807aa98,0x12835b01,0x243185be,0x550c7dc3,0x72be5d74,0x80deb1fe,0x9bdc06a7,0xc19bf174,0xe49b69c1,0xefbe4786,0x0fc19dc6,0x240ca1cc,0x2de92c6f,0x4a7484aa,0x5cb0a9dc,0x76f988da,0x983e5152,0xa831c66d,0xb00327c8,0xbf597fc7,0xc6e00bf3,0xd5a79147,0x06ca6351,0x14292967,0x27b70a85,0x2e1b2138,0x4d2c6dfc,0x53380d13,0x650a7354,0x766a0abb,0x81c2c92e,0x92722c85,0xa2bfe8a1,0xa81a664b,0xc24b8b70,0xc76c51a3,0xd192e819,0xd6990624,0xf40e3585,0x106aa070,0x19a4c116,0x1e376c08,0x2748774c,0x34b0bcb5,0x391c0cb3,0x4ed8aa4a,0x5b9cca4f,0x682e6ff3,0x748f82ee,0x78a5636f,0x84c87814,0x8cc70208,0x90befffa,0xa4506ceb,0xbef9a3f7,0xc67178f2]
def rnd (k w:UInt32)(s:List UInt32):List UInt32:=
 let a:=s.getD 0 0
 let e:=s.getD 4 0
 let t1:=s.getD 7 0+(qSb e 6 ^^^ qSb e 11 ^^^ qSb e 25)+((e &&& s.getD 5 0) ^^^ (~~~e &&& s.getD 6 0))+k+w
 let t2:=(qSb a 2 ^^^ qSb a 13 ^^^ qSb a 22)+((a &&& s.getD 1 0) ^^^ (a &&& s.getD 2 0) ^^^ (s.getD 1 0 &&& s.getD 2 0))
 [t1+t2,s.getD 0 0,s.getD 1 0,s.getD 2 0,s.getD 3 0+t1,s.getD 4 0,s.getD 5 0,s.getD 6 0]
def qA3 (ws hs:List UInt32):Nat→List UInt32
 | 0=>hs
 | t+1=>rnd (qZ7.getD t 0) (ws.getD t 0) (qA3 ws hs t)
theorem qO2 {ws hs:List UInt32}{t:Nat}(h:hs.length=8):(qA3 ws hs t).length=8:=by
 cases t with
 | zero=>exact h
 | succ t=>rfl
def zHz (hs s:List UInt32):Nat→List UInt32
 | 0=>hs
 | i+1=>(zHz hs s i).set i ((zHz hs s i).getD i 0+s.getD i 0)
theorem qLd {hs s:List UInt32}{i:Nat}:(zHz hs s i).length=hs.length:=by
 induction i with
 | zero=>rfl
 | succ i ih=>simp only[zHz,List.length_set,ih]
def wQ (hs:List UInt32)(bs:List UInt8):List UInt32:=zHz hs (qA3 (qBi bs 64) hs 64) 8
theorem qKu (h1:LkC tab 178 qG5)(h2:LkC tab 179 qP1)(hg:gl 1=some (qZ7.map zW))(bs:List UInt8)(hs:List UInt32)(hb:bs.length=64)(hh:hs.length=8) :
  wV.1.wp tab gl (qD 0 [.ref 0 0 0,.t (.sl (bs.map qA))]) (qD 0 [.live 1 ((hs.map zW).map V.t) true true]) (qY [] 1 (fun r o=>r = .tup []∧o=[.live 1 (((wQ hs bs).map zW).map V.t) true true])):=by
 have ht:hs.take 8=hs:=List.take_of_length_le oM;simp(disch:=omega)only[go_sem,wV];refine qF 64 (fun k=>[(17,.t (.int .i64 k)),(4,.ref 4096 0 0),(0,.ref 0 0 0),(1,V.t (T.sl (List.map qA bs)))]) (fun k=>[(4096,.live 1 (((qBi bs k).map zW).map V.t) true true),(0,.live 1 ((hs.map zW).map V.t) true true)]) ?_ (fun k hk=>?_)
 ·refine qI.rd id ?_ ?_ rfl;all_goals simp(disch:=omega)only[go_sem,id,qBi]
 ·have hl:(qBi bs k).length=64:=qQ4;by_cases hlt:k<64
  ·by_cases h16:k<16
   ·simp(disch:=omega)only[go_sem,h1,h2,qZ3,hl];refine⟨hlt,qI.rd id ?_ ?_ rfl⟩;all_goals simp(disch:=omega)only[go_sem,id,qBi,if_pos h16]
   ·simp(disch:=omega)only[go_sem,h1,h2,qN3,hl];refine⟨rfl,rfl,hlt,qI.rd id ?_ ?_ rfl⟩;all_goals simp(disch:=omega)only[go_sem,id,qBi,if_neg h16]
    rfl
  ·have e:k=64:=oM;subst e;simp(disch:=omega)only[go_sem,ht,hh];refine qF 64 (fun k=>[(70,.t (.int .i64 k)),(4,.ref 4096 0 0),(0,.ref 0 0 0),(10,.ref 49200 0 0)]) (fun k=>[(49200,.live 1 (((qA3 (qBi bs 64) hs k).map zW).map V.t) true true),(4096,.live 1 (((qBi bs 64).map zW).map V.t) true true),(0,.live 1 ((hs.map zW).map V.t) true true)]) ?_ (fun k hk=>?_)
   ·refine qI.rd id ?_ ?_ rfl;all_goals simp(disch:=omega)only[go_sem,id,qA3]
   ·have hl2:(qA3 (qBi bs 64) hs k).length=8:=qO2 hh;by_cases hlt:k<64
    ·have hk2:qZ7.length=64:=rfl;simp(maxSteps:=9^9)(disch:=try exact dS)only[go_sem,h1,h2,qN3,hl,hl2,hg,hk2];repeat refine And.intro rfl ?_
     refine⟨hlt,qI.rd id ?_ ?_ rfl⟩;all_goals simp(disch:=omega)only[go_sem,id,qA3,rnd,List.drop_eq_nil_of_le (show (qA3 (qBi bs 64) hs k).length≤8 by omega)]
    ·have e:k=64:=oM;subst e;simp(disch:=omega)only[go_sem];refine qF 8 (fun k=>[(152,.t (.int .i64 k)),(0,.ref 0 0 0),(10,.ref 49200 0 0)]) (fun k=>[(49200,.live 1 (((qA3 (qBi bs 64) hs 64).map zW).map V.t) true true),(0,.live 1 (((zHz hs (qA3 (qBi bs 64) hs 64) k).map zW).map V.t) true true)]) ?_ (fun k hk=>?_)
     ·refine qI.rd id ?_ ?_ rfl;all_goals simp(disch:=omega)only[go_sem,id,zHz]
     ·have hl3:(zHz hs (qA3 (qBi bs 64) hs 64) k).length=8:=by rw[qLd,hh]
      by_cases hlt:k<8
      ·simp(disch:=omega)only[go_sem,hl2,hl3];refine⟨rfl,hlt,qI.rd id ?_ ?_ rfl⟩;all_goals simp(disch:=omega)only[go_sem,id,zHz]
      ·have e:k=8:=oM;subst e;simp(disch:=omega)only[go_sem,wQ]
theorem qD2 (bs:List UInt8):(wG bs).length=bs.length+1+qX9 bs.length+8:=by
 simp only[wG,List.length_append,List.length_replicate,qFl,List.length_cons,List.length_nil]
theorem qSa (bs:List UInt8):(wG bs).length%64=0:=by
 rw[qD2,qX9];omega
def hN (comp:List UInt32→List UInt8→List UInt32)(iv:List UInt32)(p:List UInt8):Nat→List UInt32
 | 0=>iv
 | k+1=>comp (hN comp iv p k) ((p.drop (64*k)).take 64)
def zVy (comp:List UInt32→List UInt8→List UInt32)(iv:List UInt32)(bs:List UInt8):List UInt8:=xV (hN comp iv (wG bs) ((wG bs).length/64))
def qP6:List UInt32:=[0x6a09e667,0xbb67ae85,0x3c6ef372,0xa54ff53a,0x510e527f,0x9b05688c,0x1f83d9ab,0x5be0cd19]
def jY (bs:List UInt8):List UInt8:=zVy wQ qP6 bs
theorem zL1 {comp:List UInt32→List UInt8→List UInt32}{iv:List UInt32}{p:List UInt8}{n:Nat}(hc : ∀ h b,(comp h b).length=h.length)(hi:iv.length=n){k:Nat}:(hN comp iv p k).length=n:=by
 induction k with
 | zero=>exact hi
 | succ k ih=>rw[hN,hc,ih]
theorem qKx (h:List UInt32)(b:List UInt8):(wQ h b).length=h.length:=qLd
theorem qTc {p:List UInt8}{k:Nat}:(hN wQ qP6 p k).length=8:=zL1 qKx rfl
def qOi:Ct where
 α:=List UInt8
 aS x:=[.t (.sl (x.map qA))]
 ins _:=[]
 pre x:=x.length<1000000000
 r x:= .sl 0 0 (wG x).length
 outs x:=[.live 1 (((wG x).map qA).map V.t) true false]
 inj:=by
  intro a b h _;simp[yC] at h;subst h;exact⟨rfl,rfl⟩
theorem zHd {bs:List UInt8}(h:bs.length<1000000000):qOi.fs [.t (.sl (bs.map qA))] []=some (.sl 0 0 (wG bs).length,[.live 1 (((wG bs).map qA).map V.t) true false]):=qOi.eq bs h
def qAs:Ct where
 α:=List UInt32
 aS x:=[.t (.sl (x.map zW))]
 ins _:=[]
 pre x:=x.length<1000000000
 r x:= .sl 0 0 (4*x.length)
 outs x:=[.live 1 (((xV x).map qA).map V.t) true false]
 inj:=by
  intro a b h _;simp[zG5] at h;subst h;exact⟨rfl,rfl⟩
theorem qPg {ws:List UInt32}(h:ws.length<1000000000):qAs.fs [.t (.sl (ws.map zW))] []=some (.sl 0 0 (4*ws.length),[.live 1 (((xV ws).map qA).map V.t) true false]):=qAs.eq ws h
def xO (n:Nat)(comp:List UInt32→List UInt8→List UInt32):Ct where
 α:=List UInt32×List UInt8
 aS x:=[.ref 0 0 0,.t (.sl (x.2.map qA))]
 ins x:=[.live 1 ((x.1.map zW).map V.t) true true]
 pre x:=x.2.length=64∧x.1.length=n
 r _:= .tup []
 outs x:=[.live 1 (((comp x.1 x.2).map zW).map V.t) true true]
 inj:=by
  rintro⟨a,b⟩ ⟨c,d⟩ h1 h2;simp[yC] at h1;simp only[Ob.live.injEq,zRc,zG5,List.cons.injEq] at h2;obtain⟨⟨_,rfl,_,_⟩,_⟩:=h2;subst h1;exact⟨rfl,rfl⟩
theorem zKv {n:Nat}{comp:List UInt32→List UInt8→List UInt32}{hs:List UInt32}{bs:List UInt8}(h:bs.length=64∧hs.length=n):(xO n comp).fs [.ref 0 0 0,.t (.sl (bs.map qA))] [.live 1 ((hs.map zW).map V.t) true true] =
  some (.tup [],[.live 1 (((comp hs bs).map zW).map V.t) true true]):=(xO n comp).eq (hs,bs) h
theorem qRs (h1:LkC tab 128 qOi)(h3:LkC tab 130 qAs)(h4:tab.look 131=some (xO 8 wQ).fs)(bs:List UInt8)(hb:bs.length<1000000000) :
  kI.1.wp tab gl (qD 0 [.t (.int .i64 1),.t (.sl (bs.map qA))]) (qD 0 []) (xU [] [(4,none)] 0 (fun r o=>r = .sl 0 0 32∧o=[.live 1 (((jY bs).map qA).map V.t) true false])):=by
 have hp:=qD2 bs;have hm:=qSa bs;simp(disch:=omega)only[go_sem,kI,h1,zHd];refine qF ((wG bs).length/64) (fun k=>[(8,V.sl 49168 (64*k) ((wG bs).length-64*k)),(7,V.ref 45072 0 0)]) (fun k=>[(49168,.live 1 (((wG bs).map qA).map V.t) true false),(45072,.live 1 (((hN wQ qP6 (wG bs) k).map zW).map V.t) true true)]) ?_ (fun k hk=>?_)
 ·refine qI.rd id ?_ ?_ rfl;all_goals simp(disch:=omega)only[go_sem,id,hN,qP6,Nat.mul_zero,mcn]
 ·have hl:(hN wQ qP6 (wG bs) k).length=8:=qTc;by_cases hlt:k<(wG bs).length/64
  ·simp(maxSteps:=9^9)(disch:=try exact dS)only[go_sem,h4,zKv,hl];refine⟨hlt,qI.rd id ?_ ?_ rfl⟩;all_goals simp(maxSteps:=9^9)(disch:=try exact dS)only[go_sem,id,hN]
   omega
  ·have e:k=(wG bs).length/64:=oM;subst e;have ht:List.take 8 (hN wQ qP6 (wG bs) ((wG bs).length/64))=hN wQ qP6 (wG bs) ((wG bs).length/64):=List.take_of_length_le oM;simp(disch:=omega)only[go_sem,h3,qPg,hl,ht,jY,zVy]
def vT (bs:List UInt8):Nat→List UInt32
 | 0=>List.replicate 80 0
 | t+1=>let w:=vT bs t
  w.set t (if t<16 then qW8 bs t else qSb (w.getD (t-3) 0 ^^^ w.getD (t-8) 0 ^^^ w.getD (t-14) 0 ^^^ w.getD (t-16) 0) 31)
theorem qO5 {bs:List UInt8}{t:Nat}:(vT bs t).length=80:=by
 induction t with
 | zero=>rfl
 | succ t ih=>simp only[vT,List.length_set,ih]
def f1 (t:Nat)(b c d:UInt32):UInt32:=if t<20 then (b &&& c) ^^^ (~~~b &&& d) else if t<40 then b ^^^ c ^^^ d else if t<60 then (b &&& c) ^^^ (b &&& d) ^^^ (c &&& d) else b ^^^ c ^^^ d
def k1 (t:Nat):UInt32:=if t<20 then 0x5a827999 else if t<40 then 0x6ed9eba1 else if t<60 then 0x8f1bbcdc else 0xca62c1d6
def zSj (t:Nat)(w:UInt32)(s:List UInt32):List UInt32:=
 [qSb (s.getD 0 0) 27+f1 t (s.getD 1 0) (s.getD 2 0) (s.getD 3 0)+s.getD 4 0+k1 t+w,s.getD 0 0,qSb (s.getD 1 0) 2,s.getD 2 0,s.getD 3 0]
def vC (ws hs:List UInt32):Nat→List UInt32
 | 0=>hs
 | t+1=>zSj t (ws.getD t 0) (vC ws hs t)
def qCm (hs:List UInt32)(bs:List UInt8):List UInt32:=
 let s:=vC (vT bs 80) hs 80
 [hs.getD 0 0+s.getD 0 0,hs.getD 1 0+s.getD 1 0,hs.getD 2 0+s.getD 2 0,hs.getD 3 0+s.getD 3 0,hs.getD 4 0+s.getD 4 0]
theorem qPq (h1:LkC tab 178 qG5)(h2:LkC tab 179 qP1)(bs:List UInt8)(x0 x1 x2 x3 x4:UInt32)(hb:bs.length=64) :
  vV.1.wp tab gl (qD 0 [.ref 0 0 0,.t (.sl (bs.map qA))]) (qD 0 [.live 1 (([x0,x1,x2,x3,x4].map zW).map V.t) true true]) (qY [] 1 (fun r o=>r = .tup []∧o=[.live 1 (((qCm [x0,x1,x2,x3,x4] bs).map zW).map V.t) true true])):=by
 simp(disch:=omega)only[go_sem,vV];refine qF 80 (fun k=>[(14,.t (.int .i64 k)),(4,.ref 4096 0 0),(0,.ref 0 0 0),(1,V.t (T.sl (List.map qA bs)))]) (fun k=>[(4096,.live 1 (((vT bs k).map zW).map V.t) true true),(0,.live 1 [.t (zW x0),.t (zW x1),.t (zW x2),.t (zW x3),.t (zW x4)] true true)]) ?_ (fun k hk=>?_)
 ·refine qI.rd id ?_ ?_ rfl;all_goals simp(disch:=omega)only[go_sem,id,vT]
 ·have hl:(vT bs k).length=80:=qO5;by_cases hlt:k<80
  ·by_cases h16:k<16
   ·simp(disch:=omega)only[go_sem,h1,h2,qZ3,hl];refine⟨hlt,qI.rd id ?_ ?_ rfl⟩;all_goals simp(disch:=omega)only[go_sem,id,vT,if_pos h16]
   ·simp(disch:=omega)only[go_sem,h1,h2,qN3,hl];repeat refine And.intro rfl ?_
    refine⟨hlt,qI.rd id ?_ ?_ rfl⟩;all_goals simp(disch:=omega)only[go_sem,id,vT,if_neg h16]
  ·have e:k=80:=oM;subst e;simp(disch:=omega)only[go_sem];repeat refine And.intro rfl ?_
   refine qF 80 (fun k=>[(67,.t (.int .i64 k)),(4,.ref 4096 0 0),(0,.ref 0 0 0),(6,.t (zW ((vC (vT bs 80) [x0,x1,x2,x3,x4] k).getD 0 0))),(7,.t (zW ((vC (vT bs 80) [x0,x1,x2,x3,x4] k).getD 1 0))),(8,.t (zW ((vC (vT bs 80) [x0,x1,x2,x3,x4] k).getD 2 0))),(9,.t (zW ((vC (vT bs 80) [x0,x1,x2,x3,x4] k).getD 3 0))),(10,.t (zW ((vC (vT bs 80) [x0,x1,x2,x3,x4] k).getD 4 0)))])
    (fun k=>[(4096,.live 1 (((vT bs 80).map zW).map V.t) true true),(0,.live 1 [.t (zW x0),.t (zW x1),.t (zW x2),.t (zW x3),.t (zW x4)] true true)]) ?_ (fun k hk=>?_)
   ·refine qI.rd id ?_ ?_ rfl;all_goals simp(disch:=omega)only[go_sem,id,vC,List.getD_cons_zero,List.getD_cons_succ]
   ·by_cases hlt:k<80
    ·by_cases h20:k<20
     ·have e0:k/20=0:=oM;simp(disch:=omega)only[go_sem,h1,h2,qN3,hl,e0];repeat refine And.intro rfl ?_
      refine⟨hlt,qI.rd id ?_ ?_ rfl⟩;all_goals simp(disch:=omega)only[go_sem,id,vC,zSj,f1,k1,if_pos h20,List.getD_cons_zero,List.getD_cons_succ]
     ·by_cases h40:k<40
      ·have e0:k/20=1:=oM;simp(disch:=omega)only[go_sem,h1,h2,qN3,hl,e0];repeat refine And.intro rfl ?_
       refine⟨hlt,qI.rd id ?_ ?_ rfl⟩;all_goals simp(disch:=omega)only[go_sem,id,vC,zSj,f1,k1,if_neg h20,if_pos h40,List.getD_cons_zero,List.getD_cons_succ]
      ·by_cases h60:k<60
       ·have e0:k/20=2:=oM;simp(disch:=omega)only[go_sem,h1,h2,qN3,hl,e0];repeat refine And.intro rfl ?_
        refine⟨hlt,qI.rd id ?_ ?_ rfl⟩;all_goals simp(disch:=omega)only[go_sem,id,vC,zSj,f1,k1,if_neg h20,if_neg h40,if_pos h60,List.getD_cons_zero,List.getD_cons_succ]
       ·have e0:k/20=3:=oM;simp(disch:=omega)only[go_sem,h1,h2,qN3,hl,e0];repeat refine And.intro rfl ?_
        refine⟨hlt,qI.rd id ?_ ?_ rfl⟩;all_goals simp(disch:=omega)only[go_sem,id,vC,zSj,f1,k1,if_neg h20,if_neg h40,if_neg h60,List.getD_cons_zero,List.getD_cons_succ]
    ·have e:k=80:=oM;subst e;simp(disch:=omega)only[go_sem,qCm,List.getD_cons_zero,List.getD_cons_succ];repeat refine And.intro rfl ?_
     rfl
def iv1:List UInt32:=[0x67452301,0xefcdab89,0x98badcfe,0x10325476,0xc3d2e1f0]
theorem zAv {p:List UInt8}{k:Nat}:(hN qCm iv1 p k).length=5:=by
 cases k<;>rfl
def qYn (bs:List UInt8):List UInt8:=zVy qCm iv1 bs
theorem qWc (h1:LkC tab 128 qOi)(h3:LkC tab 130 qAs)(h4:tab.look 129=some (xO 5 qCm).fs)(bs:List UInt8)(hb:bs.length<1000000000) :
  kI.1.wp tab gl (qD 0 [.t (.int .i64 0),.t (.sl (bs.map qA))]) (qD 0 []) (xU [] [(4,none)] 0 (fun r o=>r = .sl 0 0 20∧o=[.live 1 (((qYn bs).map qA).map V.t) true false])):=by
 have hp:=qD2 bs;have hm:=qSa bs;simp(disch:=omega)only[go_sem,kI,h1,zHd];refine qF ((wG bs).length/64) (fun k=>[(6,V.sl 20496 (64*k) ((wG bs).length-64*k)),(5,V.ref 16400 0 0)]) (fun k=>[(20496,.live 1 (((wG bs).map qA).map V.t) true false),(16400,.live 1 (((hN qCm iv1 (wG bs) k).map zW).map V.t) true true)]) ?_ (fun k hk=>?_)
 ·refine qI.rd id ?_ ?_ rfl;all_goals simp(disch:=omega)only[go_sem,id,hN,iv1,Nat.mul_zero,mcn]
 ·have hl:(hN qCm iv1 (wG bs) k).length=5:=zAv;by_cases hlt:k<(wG bs).length/64
  ·simp(maxSteps:=9^9)(disch:=try exact dS)only[go_sem,h4,zKv,hl];refine⟨hlt,qI.rd id ?_ ?_ rfl⟩;all_goals simp(maxSteps:=9^9)(disch:=try exact dS)only[go_sem,id,hN]
   omega
  ·have e:k=(wG bs).length/64:=oM;subst e;have ht:List.take 5 (hN qCm iv1 (wG bs) ((wG bs).length/64))=hN qCm iv1 (wG bs) ((wG bs).length/64):=List.take_of_length_le oM;simp(disch:=omega)only[go_sem,h3,qPg,hl,ht,qYn,zVy]
theorem zJx (bs:List UInt8)(hb:bs.length<1000000000):qK9.1.wp tab gl (qD 0 [.t (.sl (bs.map qA))]) (qD 0 []) (xU [] [(2,none)] 0 (fun r o=>r = .sl 0 0 (wG bs).length∧o=[.live 1 (((wG bs).map qA).map V.t) true false])):=by
 have hz:qX9 bs.length=(119-bs.length%64)%64:=rfl;simp(disch:=omega)only[go_sem,qK9];refine qF (qX9 bs.length) (fun k=>[(0,.t (.sl (bs.map qA))),(3,.sl 8256 0 (bs.length+1+k))]) (fun k=>[(8256,.live 1 (((bs++[128]++List.replicate k 0).map qA).map V.t) true false)]) ?_ (fun k hk=>?_)
 ·refine qI.rd id ?_ ?_ rfl;all_goals simp(disch:=omega)only[go_sem,id]
 ·by_cases hlt:k<qX9 bs.length
  ·simp(disch:=omega)only[go_sem];refine⟨hlt,qI.rd (fun _=>16416) ?_ ?_ rfl⟩;all_goals simp(disch:=omega)only[go_sem,List.replicate_succ',List.append_assoc,Nat.add_assoc]
  ·have e:k=qX9 bs.length:=oM;subst e;simp(disch:=omega)only[go_sem];refine qF 8 (fun k=>[(3,.sl 8256 0 (bs.length+1+qX9 bs.length+k)),(4,V.t (T.int IntKind.u64 (bs.length*8:Nat))),(5,.t (.int .i64 (7-(k:Int))))]) (fun k=>[(8256,.live 1 (((bs++[128]++List.replicate (qX9 bs.length) 0++beL (bs.length*8) k).map qA).map V.t) true false)]) ?_ (fun k hk=>?_)
   ·refine qI.rd id ?_ ?_ rfl;all_goals simp(disch:=omega)only[go_sem,id,zGs,List.append_nil]
   ·by_cases hlt:k<8
    ·have e:8*(7-k)=56-8*k:=oM;simp(disch:=omega)only[go_sem,qFl,e];refine⟨hlt,qI.rd (fun _=>36992) ?_ ?_ rfl⟩;all_goals simp(disch:=omega)only[go_sem,zGr,List.append_assoc,Nat.add_assoc]
     omega
    ·have e:k=8:=oM;subst e;simp(disch:=omega)only[go_sem,qFl,wG]
theorem zC8 (ws:List UInt32)(hb:ws.length<1000000000):qGj.1.wp tab gl (qD 0 [.t (.sl (ws.map zW))]) (qD 0 []) (xU [] [(2,none)] 0 (fun r o=>r = .sl 0 0 (4*ws.length)∧o=[.live 1 (((xV ws).map qA).map V.t) true false])):=by
 simp(disch:=omega)only[go_sem,Nat.reduceAdd,qGj];refine qF ws.length (fun k=>[(3,.sl 9000 0 (4*k)),(0,.t (.sl (ws.map zW))),(4,.t (.int .i64 k))]) (fun k=>[(9000,.live 1 (((xV (ws.take k)).map qA).map V.t) true false)]) ?_ (fun k hk=>?_)
 ·show qI _ _ _ ([(9000,.live 1 [] true false)]++[]);refine qI.cv0 id ?_ ?_ rfl rfl;all_goals simp(disch:=omega)only[go_sem,↓reduceIte,Nat.reduceEqDiff,reduceCtorEq,id,mcn,Nat.mul_zero]
 ·have hl:(xV (ws.take k)).length=4*k:=by rw[qFf,List.length_take];omega
  by_cases hlt:k<ws.length
  ·simp(disch:=omega)only[go_sem,↓reduceIte,Nat.reduceAdd,Nat.reduceEqDiff,Nat.reduceLT,Nat.reduceLeDiff,reduceCtorEq,hl];refine⟨rfl,hlt,qI.rd (fun _=>24976) ?_ ?_ rfl⟩;all_goals simp(disch:=omega)only[go_sem,↓reduceIte,Nat.reduceAdd,Nat.reduceEqDiff,reduceCtorEq,qQ6,qT6]
   ·omega
   ·simp only[List.append_assoc,List.cons_append,List.nil_append];rfl
  ·have e:k=ws.length:=oM;subst e;rw[List.take_length] at hl;simp(disch:=omega)only[go_sem,↓reduceIte,Nat.reduceAdd,Nat.reduceEqDiff,reduceCtorEq,hl,List.take_length]
theorem qRt:qA7.1.wp tab gl (qD 0 []) (qD 0 []) (qY [(0,some (64,true))] 0 (fun r o=>r = .t (.agg (qZ7.map zW))∧o=[])):=by
 simp(maxSteps:=9^9)(disch:=try exact dS)only[go_sem,qA7,List.drop_replicate];rfl
def qR3:Ct where
 α:=Unit
 aS _:=[]
 ins _:=[]
 pre _:=True
 r _:= .t (.agg (qZ7.map zW))
 outs _:=[]
 inj:=fun _ _ _ _=>⟨rfl,rfl⟩
theorem zQa:qR3.fs [] []=some (.t (.agg (qZ7.map zW)),[]):=qR3.eq () trivial
def qXw:Ct where
 α:=UInt32×Nat
 aS x:=[.t (zW x.1),.t (.int .u64 x.2)]
 ins _:=[]
 pre x:=0<x.2∧x.2<32
 r x:= .t (zW (qSb x.1 x.2))
 outs _:=[]
 inj:=by
  rintro⟨a,b⟩ ⟨c,d⟩ h _;simp[qYp,Int.natCast_inj] at h;obtain⟨rfl,rfl⟩:=h;exact⟨rfl,rfl⟩
theorem zNi {x:UInt32}{n:Nat}(h:0<n∧n<32):qXw.fs [.t (zW x),.t (.int .u64 (no_index (@OfNat.ofNat Int n _)))] []=some (.t (zW (qSb x n)),[]):=qXw.eq (x,n) h
theorem qZv (h1:LkC tab 132 qR3)(h2:LkC tab 133 qOi)(h3:LkC tab 134 qG5)(h4:LkC tab 135 qXw)(h5:LkC tab 136 qAs)
  (bs:List UInt8) (hb:bs.length<1000000000) :
  qEy.1.wp tab gl (qD 0 [.t (.sl (bs.map qA))]) (qD 0 []) (xU [] [(2,none)] 0 (fun r o=>r = .sl 0 0 32∧o=[.live 1 (((jY bs).map qA).map V.t) true false])):=by
 have hp:=qD2 bs;have hm:=qSa bs;have hz:qX9 bs.length<64:=by unfold qX9;omega
 have hk2:qZ7.length=64:=rfl;simp(maxSteps:=9^9)(disch:=try exact dS)only[go_sem,qEy,h1,zQa,h2,zHd,hk2];refine qF ((wG bs).length/64) (fun k=>[(3,.ref 8208 0 0),(4,.sl 12288 0 8),(5,.sl 16400 0 (wG bs).length),(6,.t (.int .i64 ((64*k:Nat):Int)))])
  (fun k=>[(8208,.live 1 ((qZ7.map zW).map V.t) true true),(12288,.live 1 (((hN wQ qP6 (wG bs) k).map zW).map V.t) true false),(16400,.live 1 (((wG bs).map qA).map V.t) true false)]) ?_ (fun k hk=>?_)
 ·refine qI.rd id ?_ ?_ rfl;all_goals simp(disch:=omega)only[go_sem,id,hN,qP6,Nat.mul_zero,mcn]
 ·have hl:(hN wQ qP6 (wG bs) k).length=8:=qTc;by_cases hlt:k<(wG bs).length/64
  ·generalize hH:hN wQ qP6 (wG bs) k=H at hl ⊢;generalize hB:List.take 64 (List.drop (64*k) (wG bs))=B;have hBl:B.length=64:=by rw[←hB];simp only[List.length_take,List.length_drop];omega
   simp(disch:=omega)only[go_sem];refine qF 64 (fun t=>[(8,.t (.int .i64 t)),(7,.ref 32768 0 0),(3,.ref 8208 0 0),(4,.sl 12288 0 8),(5,.sl 16400 0 (wG bs).length),(6,.t (.int .i64 ((64*k:Nat):Int)))])
    (fun t=>[(32768,.live 1 (((qBi B t).map zW).map V.t) true true),(8208,.live 1 ((qZ7.map zW).map V.t) true true),(12288,.live 1 ((H.map zW).map V.t) true false),(16400,.live 1 (((wG bs).map qA).map V.t) true false)]) ?_ (fun t ht=>?_)
   ·refine qI.rd id ?_ ?_ rfl;all_goals simp(disch:=omega)only[go_sem,id,qBi]
   ·have hs:(qBi B t).length=64:=qQ4;by_cases hlt2:t<64
    ·by_cases h16:t<16
     ·simp(disch:=omega)only[go_sem,h3,qZ3,hs,hB];refine⟨hlt2,qI.rd id ?_ ?_ rfl⟩;all_goals simp(disch:=omega)only[go_sem,id,qBi,if_pos h16]
     ·simp(maxSteps:=9^9)(disch:=try exact dS)only[go_sem,h4,zNi,hs];repeat refine And.intro rfl ?_
      refine⟨hlt2,qI.rd id ?_ ?_ rfl⟩;all_goals simp(maxSteps:=9^9)(disch:=try exact dS)only[go_sem,id,qBi,if_neg h16]
      rfl
    ·have e:t=64:=oM;subst e;have hT:List.take 8 H=H:=List.take_of_length_le oM;simp(disch:=omega)only[go_sem,hl,hT];refine qF 64 (fun t=>[(12,.t (.int .i64 t)),(11,.sl 69664 0 8),(7,.ref 32768 0 0),(3,.ref 8208 0 0),(4,.sl 12288 0 8),(5,.sl 16400 0 (wG bs).length),(6,.t (.int .i64 ((64*k:Nat):Int)))])
      (fun t=>[(69664,.live 1 (((qA3 (qBi B 64) H t).map zW).map V.t) true false),(32768,.live 1 (((qBi B 64).map zW).map V.t) true true),(8208,.live 1 ((qZ7.map zW).map V.t) true true),(12288,.live 1 ((H.map zW).map V.t) true false),(16400,.live 1 (((wG bs).map qA).map V.t) true false)]) ?_ (fun t ht=>?_)
     ·refine qI.rd id ?_ ?_ rfl;all_goals simp(disch:=omega)only[go_sem,id,qA3]
     ·have hr:(qA3 (qBi B 64) H t).length=8:=qO2 hl;by_cases hlt3:t<64
      ·simp(maxSteps:=9^9)(disch:=try exact dS)only[go_sem,h4,zNi,hs,hr,hk2];repeat refine And.intro rfl ?_
       refine⟨hlt3,qI.rd (fun i=>if i=69664 then 98656 else i) ?_ ?_ rfl⟩;all_goals simp(disch:=omega)only[go_sem,qA3,rnd]
       trace_state
      ·have e:t=64:=oM;subst e;simp(disch:=omega)only[go_sem];refine qF 8 (fun t=>[(17,.t (.int .i64 t)),(11,.sl 69664 0 8),(3,.ref 8208 0 0),(4,.sl 12288 0 8),(5,.sl 16400 0 (wG bs).length),(6,.t (.int .i64 ((64*k:Nat):Int)))])
        (fun t=>[(69664,.live 1 (((qA3 (qBi B 64) H 64).map zW).map V.t) true false),(8208,.live 1 ((qZ7.map zW).map V.t) true true),(12288,.live 1 (((zHz H (qA3 (qBi B 64) H 64) t).map zW).map V.t) true false),(16400,.live 1 (((wG bs).map qA).map V.t) true false)]) ?_ (fun t ht=>?_)
       ·refine qI.rd id ?_ ?_ rfl;all_goals simp(disch:=omega)only[go_sem,id,zHz]
       ·have ha:(zHz H (qA3 (qBi B 64) H 64) t).length=8:=by rw[qLd,hl]
        by_cases hlt4:t<8
        ·simp(disch:=omega)only[go_sem,hr,ha];repeat refine And.intro rfl ?_
         refine⟨hlt4,qI.rd id ?_ ?_ rfl⟩;all_goals simp(disch:=omega)only[go_sem,id,zHz]
        ·have e:t=8:=oM;subst e;simp(disch:=omega)only[go_sem];refine⟨hlt,qI.rd id ?_ ?_ rfl⟩;all_goals simp(disch:=omega)only[go_sem,id,hN,hH,hB,wQ]
         omega
  ·have e:k=(wG bs).length/64:=oM;subst e;have e2:64*((wG bs).length/64)=(wG bs).length:=oM;have ht:List.take 8 (hN wQ qP6 (wG bs) ((wG bs).length/64))=hN wQ qP6 (wG bs) ((wG bs).length/64):=List.take_of_length_le oM;simp(disch:=omega)only[go_sem,e2,h5,qPg,hl,ht,jY,zVy]
def qR4:Ct where
 α:=UInt32×Nat
 aS x:=[.t (zW x.1),.t (.int .u64 x.2)]
 ins _:=[]
 pre x:=0<x.2∧x.2<32
 r x:= .t (zW (qSb x.1 (32-x.2)))
 outs _:=[]
 inj:=by
  rintro⟨a,b⟩ ⟨c,d⟩ h _;simp[qYp,Int.natCast_inj] at h;obtain⟨rfl,rfl⟩:=h;exact⟨rfl,rfl⟩
theorem qO1 {x:UInt32}{n:Nat}(h:0<n∧n<32):qR4.fs [.t (zW x),.t (.int .u64 (no_index (@OfNat.ofNat Int n _)))] []=some (.t (zW (qSb x (32-n))),[]):=qR4.eq (x,n) h
theorem zF0 (h2:LkC tab 133 qOi)(h3:LkC tab 134 qG5)(h4:LkC tab 280 qR4)(h5:LkC tab 136 qAs)
  (bs:List UInt8) (hb:bs.length<1000000000) :
  qIh.1.wp tab gl (qD 0 [.t (.sl (bs.map qA))]) (qD 0 []) (xU [] [(2,none)] 0 (fun r o=>r = .sl 0 0 20∧o=[.live 1 (((qYn bs).map qA).map V.t) true false])):=by
 have hp:=qD2 bs;have hm:=qSa bs;have hz:qX9 bs.length<64:=by unfold qX9;omega
 simp(disch:=omega)only[go_sem,qIh,h2,zHd];refine qF ((wG bs).length/64) (fun k=>[(3,.sl 8192 0 5),(4,.sl 12304 0 (wG bs).length),(5,.t (.int .i64 ((64*k:Nat):Int)))])
  (fun k=>[(8192,.live 1 (((hN qCm iv1 (wG bs) k).map zW).map V.t) true false),(12304,.live 1 (((wG bs).map qA).map V.t) true false)]) ?_ (fun k hk=>?_)
 ·refine qI.rd id ?_ ?_ rfl;all_goals simp(disch:=omega)only[go_sem,id,hN,iv1,Nat.mul_zero,mcn]
 ·have hl:(hN qCm iv1 (wG bs) k).length=5:=zAv;by_cases hlt:k<(wG bs).length/64
  ·generalize hH:hN qCm iv1 (wG bs) k=H at hl ⊢;generalize hB:List.take 64 (List.drop (64*k) (wG bs))=B;have hBl:B.length=64:=by rw[←hB];simp only[List.length_take,List.length_drop];omega
   simp(disch:=omega)only[go_sem];refine qF 80 (fun t=>[(7,.t (.int .i64 t)),(6,.ref 28672 0 0),(3,.sl 8192 0 5),(4,.sl 12304 0 (wG bs).length),(5,.t (.int .i64 ((64*k:Nat):Int)))])
    (fun t=>[(28672,.live 1 (((vT B t).map zW).map V.t) true true),(8192,.live 1 ((H.map zW).map V.t) true false),(12304,.live 1 (((wG bs).map qA).map V.t) true false)]) ?_ (fun t ht=>?_)
   ·refine qI.rd id ?_ ?_ rfl;all_goals simp(disch:=omega)only[go_sem,id,vT]
   ·have hs:(vT B t).length=80:=qO5;by_cases hlt2:t<80
    ·by_cases h16:t<16
     ·simp(disch:=omega)only[go_sem,h3,qZ3,hs,hB];repeat refine And.intro rfl ?_
      refine⟨hlt2,qI.rd id ?_ ?_ rfl⟩;all_goals simp(disch:=omega)only[go_sem,id,vT,if_pos h16]
     ·simp(maxSteps:=9^9)(disch:=try exact dS)only[go_sem,h4,qO1,hs];repeat refine And.intro rfl ?_
      refine⟨hlt2,qI.rd id ?_ ?_ rfl⟩;all_goals simp(disch:=omega)only[go_sem,id,vT,if_neg h16]
    ·have e:t=80:=oM;subst e;simp(disch:=omega)only[go_sem,hl];repeat refine And.intro rfl ?_
     refine qF 80 (fun t=>[(13,.t (.int .i64 t)),(6,.ref 28672 0 0),(3,.sl 8192 0 5),(4,.sl 12304 0 (wG bs).length),(5,.t (.int .i64 ((64*k:Nat):Int))),
       (8,.t (zW ((vC (vT B 80) H t).getD 0 0))),(9,.t (zW ((vC (vT B 80) H t).getD 1 0))),(10,.t (zW ((vC (vT B 80) H t).getD 2 0))),(11,.t (zW ((vC (vT B 80) H t).getD 3 0))),(12,.t (zW ((vC (vT B 80) H t).getD 4 0)))])
      (fun _=>[(28672,.live 1 (((vT B 80).map zW).map V.t) true true),(8192,.live 1 ((H.map zW).map V.t) true false),(12304,.live 1 (((wG bs).map qA).map V.t) true false)]) ?_ (fun t ht=>?_)
     ·refine qI.rd id ?_ ?_ rfl;all_goals simp(disch:=omega)only[go_sem,id,vC]
     ·by_cases hlt3:t<80
      ·by_cases h20:t<20
       ·simp(maxSteps:=9^9)(disch:=try exact dS)only[go_sem,h4,qO1,hs];repeat refine And.intro rfl ?_
        refine⟨hlt3,qI.rd id ?_ ?_ rfl⟩;all_goals simp(disch:=omega)only[go_sem,id,vC,zSj,f1,k1,if_pos h20,List.getD_cons_zero,List.getD_cons_succ]
       ·by_cases h40:t<40
        ·simp(maxSteps:=9^9)(disch:=try exact dS)only[go_sem,h4,qO1,hs];repeat refine And.intro rfl ?_
         refine⟨hlt3,qI.rd id ?_ ?_ rfl⟩;all_goals simp(disch:=omega)only[go_sem,id,vC,zSj,f1,k1,if_neg h20,if_pos h40,List.getD_cons_zero,List.getD_cons_succ]
        ·by_cases h60:t<60
         ·simp(maxSteps:=9^9)(disch:=try exact dS)only[go_sem,h4,qO1,hs];repeat refine And.intro rfl ?_
          refine⟨hlt3,qI.rd id ?_ ?_ rfl⟩;all_goals simp(disch:=omega)only[go_sem,id,vC,zSj,f1,k1,if_neg h20,if_neg h40,if_pos h60,List.getD_cons_zero,List.getD_cons_succ]
         ·simp(maxSteps:=9^9)(disch:=try exact dS)only[go_sem,h4,qO1,hs];repeat refine And.intro rfl ?_
          refine⟨hlt3,qI.rd id ?_ ?_ rfl⟩;all_goals simp(disch:=omega)only[go_sem,id,vC,zSj,f1,k1,if_neg h20,if_neg h40,if_neg h60,List.getD_cons_zero,List.getD_cons_succ]
      ·have e:t=80:=oM;subst e;simp(disch:=omega)only[go_sem,hl];repeat refine And.intro rfl ?_
       refine⟨hlt,qI.rd (fun i=>if i=8192 then 110992 else i) ?_ ?_ rfl⟩;all_goals simp(disch:=omega)only[go_sem,hN,hH,hB,qCm]
       omega
  ·have e:k=(wG bs).length/64:=oM;subst e;have e2:64*((wG bs).length/64)=(wG bs).length:=oM;have ht:List.take 5 (hN qCm iv1 (wG bs) ((wG bs).length/64))=hN qCm iv1 (wG bs) ((wG bs).length/64):=List.take_of_length_le oM;simp(disch:=omega)only[go_sem,e2,h5,qPg,hl,ht,qYn,zVy]
def szA (a:Nat):Nat:=if a=0 then 20 else if a=1 then 32 else 0
def zPi (a:Nat)(bs:List UInt8):List UInt8:=if a=0 then qYn bs else if a=1 then jY bs else []
theorem qT8 {comp:List UInt32→List UInt8→List UInt32}{iv:List UInt32}{bs:List UInt8}{n:Nat}(hc : ∀ h b,h.length=n→(comp h b).length=n)(hi:iv.length=n):(zVy comp iv bs).length=4*n:=by
 have : ∀ k p,(hN comp iv p k).length=n:=by
  intro k p
  induction k with
  | zero=>exact hi
  | succ k ih=>exact hc _ _ ih
 rw[zVy,qFf,this]
theorem qO {bs:List UInt8}:(jY bs).length=32:=qT8 (n:=8) (fun h b e=>by rw[qKx,e]) rfl
theorem yJ {bs:List UInt8}:(qYn bs).length=20:=qT8 (n:=5) (fun h b _=>rfl) rfl
theorem qHs {a:Nat}{bs:List UInt8}:(zPi a bs).length=szA a:=by
 unfold zPi szA;split
 ·exact yJ
 ·split
  ·exact qO
  ·rfl
theorem zFw (bs:List UInt8)(hb:bs.length<1000000000):qIf.1.wp tab gl (qD 0 [.t (.sl (bs.map qA))]) (qD 0 []) (xU [] [(2,none)] 0 (fun r o=>r = .sl 0 0 bs.length∧o=[.live 1 ((bs.map qA).map V.t) true false])):=by
 simp(disch:=omega)only[go_sem,qIf]
def qHx (n:Nat)(f:List UInt8→List UInt8):Ct where
 α:=List UInt8
 aS x:=[.t (.sl (x.map qA))]
 ins _:=[]
 pre x:=x.length<1000000000
 r _:= .sl 0 0 n
 outs x:=[.live 1 (((f x).map qA).map V.t) true false]
 inj:=by
  intro a b h _;simp[yC] at h;subst h;exact⟨rfl,rfl⟩
theorem qW5 {n:Nat}{f:List UInt8→List UInt8}{bs:List UInt8}(h:bs.length<1000000000):(qHx n f).fs [.t (.sl (bs.map qA))] []=some (.sl 0 0 n,[.live 1 (((f bs).map qA).map V.t) true false]):=(qHx n f).eq bs h
theorem zJw (h1:tab.look 264=some (qHx 20 qYn).fs)(h2:tab.look 102=some (qHx 32 jY).fs)(a:Nat)(ha:a<2)(bs:List UInt8)(hb:bs.length<1000000000) :
  qGi.1.wp tab gl (qD 0 [.t (.int .i64 a),.t (.sl (bs.map qA))]) (qD 0 []) (xU [] [(4,none)] 0 (fun r o=>r = .sl 0 0 (szA a)∧o=[.live 1 (((zPi a bs).map qA).map V.t) true false])):=by
 rcases (show a=0∨a=1 by omega) with rfl | rfl
 ·simp(disch:=omega)only[go_sem,qGi,h1,qW5,szA,zPi]
 ·simp(disch:=omega)only[go_sem,qGi,h2,qW5,szA,zPi]
def zUb (n:Nat):List UInt8:=[UInt8.ofNat (n/2^24),UInt8.ofNat (n/2^16),UInt8.ofNat (n/2^8),UInt8.ofNat n]
def jS (tag:Nat)(fs:List (List UInt8)):List UInt8:=UInt8.ofNat tag::fs.flatMap fun f=>zUb f.length++f
theorem qS8 {tag:Nat}{fs:List (List UInt8)}{k:Nat}(h:k<fs.length):jS tag (fs.take (k+1))=jS tag (fs.take k)++zUb (fs.getD k []).length++fs.getD k []:=by
 rw[qEj (d:=[]) h];simp[jS]
theorem zAr {tag:Nat}{fs:List (List UInt8)}{k:Nat}:(jS tag (fs.take k)).length≤(jS tag fs).length:=by
 have:jS tag fs=jS tag (fs.take k)++(fs.drop k).flatMap fun f=>zUb f.length++f:=by
  simp only[jS,List.cons_append,←List.flatMap_append,List.take_append_drop]
 rw[this,List.length_append];omega
theorem zLw {tag:Nat}{fs:List (List UInt8)}:4*fs.length+1≤(jS tag fs).length:=by
 simp only[jS,List.length_cons];have:4*fs.length≤(fs.flatMap fun f=>zUb f.length++f).length:=by
  induction fs with
  | nil=>simp
  | cons f r ih=>
   have h4 : ∀ n,(zUb n).length=4:=fun _=>rfl
   simp only[List.flatMap_cons,List.length_append,List.length_cons,h4];omega
 omega
theorem zC6 (tag:Nat)(ht:tag<256)(fs:List (List UInt8))(hb:(jS tag fs).length<1000000000):qGh.1.wp tab gl (qD 0 [.t (.int .i64 tag),.t (.sl (fs.map bsT))]) (qD 0 []) (xU [] [(4,none)] 0 (fun r o=>r = .sl 0 0 (jS tag fs).length∧o=[.live 1 (((jS tag fs).map qA).map V.t) true false])):=by
 simp(disch:=omega)only[go_sem,qGh];have hge:=zLw (tag:=tag) (fs:=fs);refine qF fs.length (fun k=>[(5,.sl 8224 0 (jS tag (fs.take k)).length),(1,V.t (T.sl (List.map bsT fs))),(6,.t (.int .i64 k))]) (fun k=>[(8224,.live 1 (((jS tag (fs.take k)).map qA).map V.t) true false)]) ?_ (fun k hk=>?_)
 ·refine qI.rd id ?_ ?_ rfl;all_goals simp(disch:=omega)only[go_sem,id,jS,List.flatMap_nil,mcn]
 ·have h0:=zAr (tag:=tag) (fs:=fs) (k:=k);by_cases hlt:k<fs.length
  ·have h1:=zAr (tag:=tag) (fs:=fs) (k:=k+1);rw[qS8 hlt,List.length_append,List.length_append] at h1;have h2:(zUb (fs.getD k []).length).length=4:=rfl;simp(disch:=omega)only[go_sem];refine⟨hlt,qI.rd (fun _=>32848) ?_ ?_ rfl⟩;all_goals simp(disch:=omega)only[go_sem,qS8,zUb]
   simp only[List.append_assoc,List.cons_append,List.nil_append]
  ·have e:k=fs.length:=oM;subst e;simp(disch:=omega)only[go_sem,List.take_length]
theorem zFy (a b:List UInt8)(ha:a.length<1000000000)(hb:b.length<1000000000):qD9.1.wp tab gl (qD 0 [.t (.sl (a.map qA)),.t (.sl (b.map qA))]) (qD 0 []) (qY [(4,none)] 0 (fun r o=>r = .t (.bool (decide (a=b)))∧o=[])):=by
 by_cases hl:a.length=b.length
 ·simp(disch:=omega)only[go_sem,qD9];refine qP8 a.length (fun i=>a.take i=b.take i) (fun k=>[(5,.t (.int .i64 k)),(0,.t (.sl (a.map qA))),(1,.t (.sl (b.map qA)))]) (fun _=>[]) rfl ?_ (fun k hk hP=>?_)
  ·refine qI.rd id ?_ ?_ rfl;all_goals simp(disch:=omega)only[go_sem,id]
  ·by_cases hlt:k<a.length
   ·by_cases he:a.getD k 0=b.getD k 0
    ·simp(disch:=omega)only[go_sem,he];refine⟨rfl,hlt,?_,qI.rd id ?_ ?_ rfl⟩
     ·rw[qEj (d:=0) hlt,qEj (d:=0) oM,hP,he]
     all_goals simp(disch:=omega)only[go_sem,id]
    ·have hne : ¬ a=b:=fun h=>he (by rw[h])
     simp(disch:=omega)only[go_sem,he,hne];rfl
   ·have e:k=a.length:=oM;subst e;rw[List.take_length,hl,List.take_length] at hP;simp(disch:=omega)only[go_sem,hP]
 ·have hne : ¬ a=b:=fun h=>hl (by rw[h])
  simp(disch:=omega)only[go_sem,qD9,hne]
def wA:Ct where
 α:=List UInt8×List UInt8
 aS x:=[.t (.sl (x.1.map qA)),.t (.sl (x.2.map qA))]
 ins _:=[]
 pre x:=x.1.length<1000000000∧x.2.length<1000000000
 r x:= .t (.bool (decide (x.1=x.2)))
 outs _:=[]
 inj:=by
  rintro⟨a,b⟩ ⟨c,d⟩ h _;simp[yC] at h;obtain⟨rfl,rfl⟩:=h;exact⟨rfl,rfl⟩
theorem yG {a b:List UInt8}(h:a.length<1000000000∧b.length<1000000000):wA.fs [.t (.sl (a.map qA)),.t (.sl (b.map qA))] []=some (.t (.bool (decide (a=b))),[]):=wA.eq (a,b) h
def zDo (l:List (List UInt8)):Prop:=l.length<1000000000 ∧ ∀ x∈l,x.length<1000000000
theorem qHl {l:List (List UInt8)}(h:zDo l)(i:Nat):(l.getD i []).length<1000000000:=by
 by_cases hi:i<l.length
 ·have:l.getD i []=l[i]:=by simp[List.getD,hi]
  rw[this];exact h.2 _ (List.getElem_mem hi)
 ·simp[List.getD,List.getElem?_eq_none (Nat.le_of_not_lt hi)]
theorem zC7 (h1:LkC tab 20 wA)(a b:List (List UInt8))(ha:zDo a)(hb:zDo b):qCh.1.wp tab gl (qD 0 [.t (.sl (a.map bsT)),.t (.sl (b.map bsT))]) (qD 0 []) (qY [(4,none)] 0 (fun r o=>r = .t (.bool (decide (a=b)))∧o=[])):=by
 have hal:=ha.1;have hbl:=hb.1;by_cases hl:a.length=b.length
 ·simp(disch:=omega)only[go_sem,qCh];refine qP8 a.length (fun i=>a.take i=b.take i) (fun k=>[(5,.t (.int .i64 k)),(0,.t (.sl (a.map bsT))),(1,.t (.sl (b.map bsT)))]) (fun _=>[]) rfl ?_ (fun k hk hP=>?_)
  ·refine qI.rd id ?_ ?_ rfl;all_goals simp(disch:=omega)only[go_sem,id]
  ·have m1:=qHl ha k;have m2:=qHl hb k;by_cases hlt:k<a.length
   ·by_cases he:a.getD k []=b.getD k []
    ·simp(disch:=omega)only[go_sem,h1,yG,he];refine⟨rfl,hlt,?_,qI.rd id ?_ ?_ rfl⟩
     ·rw[qEj (d:=[]) hlt,qEj (d:=[]) oM,hP,he]
     all_goals simp(disch:=omega)only[go_sem,id]
    ·have hne : ¬ a=b:=fun h=>he (by rw[h])
     simp(disch:=omega)only[go_sem,h1,yG,he,hne];rfl
   ·have e:k=a.length:=oM;subst e;rw[List.take_length,hl,List.take_length] at hP;simp(disch:=omega)only[go_sem,hP]
 ·have hne : ¬ a=b:=fun h=>hl (by rw[h])
  simp(disch:=omega)only[go_sem,qCh,hne]
def xI:Ct where
 α:=Nat×List (List UInt8)
 aS x:=[.t (.int .i64 x.1),.t (.sl (x.2.map bsT))]
 ins _:=[]
 pre x:=x.1<256∧(jS x.1 x.2).length<1000000000
 r x:= .sl 0 0 (jS x.1 x.2).length
 outs x:=[.live 1 (((jS x.1 x.2).map qA).map V.t) true false]
 inj:=by
  rintro⟨a,b⟩ ⟨c,d⟩ h _;simp[qFt,Int.natCast_inj] at h;obtain⟨rfl,rfl⟩:=h;exact⟨rfl,rfl⟩
theorem qOp {t:Nat}{fs:List (List UInt8)}(h:t<256∧(jS t fs).length<1000000000):xI.fs [.t (.int .i64 t),.t (.sl (fs.map bsT))] []=some (.sl 0 0 (jS t fs).length,[.live 1 (((jS t fs).map qA).map V.t) true false]):=xI.eq (t,fs) h
def zEk (t:Nat)(fs:List (List UInt8)):List UInt8:=jY (jS t fs)
def qE9:Ct where
 α:=Nat×List UInt8
 aS x:=[.t (.int .i64 x.1),.t (.sl (x.2.map qA))]
 ins _:=[]
 pre x:=x.1<2∧x.2.length<1000000000
 r x:= .sl 0 0 (szA x.1)
 outs x:=[.live 1 (((zPi x.1 x.2).map qA).map V.t) true false]
 inj:=by
  rintro⟨a,b⟩ ⟨c,d⟩ h _;simp[yC,Int.natCast_inj] at h;obtain⟨rfl,rfl⟩:=h;exact⟨rfl,rfl⟩
theorem zK {bs:List UInt8}(h:bs.length<1000000000):qE9.fs [.t (.int .i64 0),.t (.sl (bs.map qA))] []=some (.sl 0 0 20,[.live 1 (((qYn bs).map qA).map V.t) true false]):=qE9.eq (0,bs) ⟨sM,h⟩
theorem zJ {bs:List UInt8}(h:bs.length<1000000000):qE9.fs [.t (.int .i64 1),.t (.sl (bs.map qA))] []=some (.sl 0 0 32,[.live 1 (((jY bs).map qA).map V.t) true false]):=qE9.eq (1,bs) ⟨sM,h⟩
theorem zFx (h1:LkC tab 191 xI)(h2:tab.look 102=some (qHx 32 jY).fs)(t:Nat)(fs:List (List UInt8))(ht:t<256)(hb:(jS t fs).length<1000000000) :
  qIg.1.wp tab gl (qD 0 [.t (.int .i64 t),.t (.sl (fs.map bsT))]) (qD 0 []) (xU [] [(4,none)] 0 (fun r o=>r = .sl 0 0 32∧o=[.live 1 (((zEk t fs).map qA).map V.t) true false])):=by
 simp(disch:=omega)only[go_sem,qIg,h1,h2,qOp,qW5,zEk]
theorem zC3 (h1:LkC tab 128 qOi)(h2:tab.look 129=some (xO 5 qCm).fs)(h3:LkC tab 130 qAs)(h4:tab.look 131=some (xO 8 wQ).fs)(a:Nat)(ha:a<2)(bs:List UInt8)(hb:bs.length<1000000000) :
  kI.1.wp tab gl (qD 0 [.t (.int .i64 a),.t (.sl (bs.map qA))]) (qD 0 []) (xU [] [(4,none)] 0 (fun r o=>r = .sl 0 0 (szA a)∧o=[.live 1 (((zPi a bs).map qA).map V.t) true false])):=by
 rcases (show a=0∨a=1 by omega) with rfl | rfl
 ·exact qWc tab gl h1 h3 h2 bs hb
 ·exact qRs tab gl h1 h3 h4 bs hb
end Go.Eng
end
