/- A part of an abstract machine, its walks, their tie. -/
import Derived.Test.YteglhhgmfnbalaaGreatDoorK17
set_option linter.all false
section
set_option maxHeartbeats 64000000
set_option maxRecDepth 20000
namespace Go.Eng
open List
variable (tab:Tab)(gl:Gl)
def zD1 (n:Nat):Nat:=(119-n%64)%64
def beL (n k:Nat):List UInt8:=(List.range k).map λi=>UInt8.ofNat (n/2^(56-8*i))
def qA2 (bs:List UInt8):List UInt8:=bs++[128]++List.replicate (zD1 bs.length) 0++beL (bs.length*8) 8
theorem zKb {n:Nat}:beL n 0=[]:=rfl
theorem qHc {n k:Nat}:(beL n k).length=k:=by simp[beL]
theorem zKa {n k:Nat}:beL n (k+1)=beL n k++[UInt8.ofNat (n/2^(56-8*k))]:=by simp[beL,range_succ]
theorem zGh (bs:List UInt8)(hb:bs.length<1000000000):qHm.1.wp tab gl (qD 0 [.t (.sl (bs.map qA))]) (qD 0 []) (xO [] [(2,none)] 0 (λr o=>r=.sl 0 0 (qA2 bs).length/\o=[.live 1 (((qA2 bs).map qA).map V.t) true false])):=by
 have hz:zD1 bs.length=(119-bs.length%64)%64:=rfl;simp(disch:=omega)only[go_sem,qHm];refine qB (zD1 bs.length) (λk=>[(0,.t (.sl (bs.map qA))),(3,.sl 8304 0 (bs.length+1+k))]) (λk=>[(8304,.live 1 (((bs++[128]++List.replicate k 0).map qA).map V.t) true false)]) ?_ (λk hk=>?_)
 .refine qL.rd id ?_ ?_ rfl;all_goals simp(disch:=omega)only[go_sem,id]
 .by_cases hlt:k<zD1 bs.length
  .simp(disch:=omega)only[go_sem];refine⟨hlt,qL.rd (λ_=>16416) ?_ ?_ rfl⟩;all_goals simp(disch:=omega)only[go_sem,replicate_succ',append_assoc,Nat.add_assoc]
  .have e:k=zD1 bs.length:=oM;subst e;simp(disch:=omega)only[go_sem];refine qB 8 (λk=>[(3,.sl 8304 0 (bs.length+1+zD1 bs.length+k)),(4,V.t (T.int IntKind.u64 (bs.length*8:Nat))),(5,.t (.int .i64 (56-((8*k:Nat):Int))))]) (λk=>[(8304,.live 1 (((bs++[128]++List.replicate (zD1 bs.length) 0++beL (bs.length*8) k).map qA).map V.t) true false)]) ?_ (λk hk=>?_)
   .refine qL.rd id ?_ ?_ rfl;all_goals simp(disch:=omega)only[go_sem,id,zKb,append_nil]
   .by_cases hlt:k<8
    .simp(disch:=omega)only[go_sem,qHc];refine⟨hlt,qL.rd (λ_=>36976) ?_ ?_ rfl⟩;all_goals simp(disch:=omega)only[go_sem,zKa,append_assoc,Nat.add_assoc]
     omega
    .have e:k=8:=oM;subst e;simp(disch:=omega)only[go_sem,qHc,qA2]
theorem zDm (a:Int):qAf.1.wp tab gl (qD 0 [.t (.int .i64 a)]) (qD 0 []) (qZ [(2,none)] 0 (λr o=>r=.t (.int .i64 (if a=0 then 20 else if a=1 then 32 else 0))/\o=[])):=by
 by_cases h0:a=0
 .subst h0;simp(disch:=omega)only[go_sem,qAf]
 .by_cases h1:a=1
  .subst h1;simp(disch:=omega)only[go_sem,qAf]
  .simp(disch:=omega)only[go_sem,qAf,h0,h1]
theorem zJf (a:Int):qCw.1.wp tab gl (qD 0 [.t (.int .i64 a)]) (qD 0 []) (qZ [(2,none)] 0 (λr o=>r=.t (.int .i64 (if a=0 then 20 else if a=1 then 32 else 0))/\o=[])):=by
 by_cases h0:a=0
 .subst h0;simp(disch:=omega)only[go_sem,qCw]
 .by_cases h1:a=1
  .subst h1;simp(disch:=omega)only[go_sem,qCw]
  .simp(disch:=omega)only[go_sem,qCw,h0,h1]
def vG (bs:List UInt8)(i:Nat):UInt32:=(bs.getD (4*i) 0).toUInt32 <<< 24 ||| (bs.getD (4*i+1) 0).toUInt32 <<< 16 ||| (bs.getD (4*i+2) 0).toUInt32 <<< 8 ||| (bs.getD (4*i+3) 0).toUInt32
theorem zDn (bs:List UInt8)(i:Nat)(hi:4*i+3<bs.length)(hb:bs.length<1000000000):qGc.1.wp tab gl (qD 0 [.t (.sl (bs.map qA)),.t (.int .i64 i)]) (qD 0 []) (qZ [(4,none)] 0 (λr o=>r=.t (jG (vG bs i))/\o=[])):=by
 simp(disch:=omega)only[go_sem,qGc];exact⟨rfl,rfl⟩
theorem zJh (bs:List UInt8)(i:Nat)(hi:4*i+3<bs.length)(hb:bs.length<1000000000):qJj.1.wp tab gl (qD 0 [.t (.sl (bs.map qA)),.t (.int .i64 i)]) (qD 0 []) (qZ [(4,none)] 0 (λr o=>r=.t (jG (vG bs i))/\o=[])):=by
 simp(disch:=omega)only[go_sem,qJj];exact⟨rfl,rfl⟩
def qBc (x:UInt32)(n:Nat):UInt32:=x >>> UInt32.ofNat n ||| x <<< UInt32.ofNat (32-n)
theorem zJg (x:UInt32)(n:Nat)(h:0<n/\n<32):qJi.1.wp tab gl (qD 0 [.t (jG x),.t (.int .u64 n)]) (qD 0 []) (qZ [(4,none)] 0 (λr o=>r=.t (jG (qBc x n))/\o=[])):=by
 simp(disch:=omega)only[go_sem,qJi];rfl
theorem qPv (x:UInt32)(n:Int)(h : -32<n/\n<32/\n≠0):xX.1.wp tab gl (qD 0 [.t (jG x),.t (.int .i64 n)]) (qD 0 []) (qZ [(4,none)] 0 (λr o=>r=.t (jG (qBc x ((32-n)%32).toNat))/\o=[])):=by
 have e:IntKind.u64.wrap n%32=((32-(32-n).toNat%32:Nat):Int):=by rw[qVn];omega
 have e2:((32-n)%32).toNat=(32-n).toNat%32:=oM;have e3:32-(32-(32-n).toNat%32)=(32-n).toNat%32:=oM;simp(disch:=omega)only[go_sem,xX,e,e2,e3];rw[qBc,UInt32.or_comm]
def qSq (w:UInt32):List UInt8:=[(w >>> 24).toUInt8,(w >>> 16).toUInt8,(w >>> 8).toUInt8,w.toUInt8]
def kK (ws:List UInt32):List UInt8:=ws.flatMap qSq
theorem qG5 (ws:List UInt32):(kK ws).length=4*ws.length:=by
 induction ws with
 |nil=>rfl
 |cons w r ih=>simp only[kK,flatMap_cons,length_append]at *;rw[ih];simp[qSq];omega
theorem qTz {ws:List UInt32}{k:Nat}(h:k<ws.length):kK (ws.take (k+1))=kK (ws.take k)++qSq (ws.getD k 0):=by
 rw[qLr (d:=0) h];simp[kK]
theorem qYh (ws:List UInt32)(hb:ws.length<1000000000):qDb.1.wp tab gl (qD 0 [.t (.sl (ws.map jG))]) (qD 0 []) (xO [] [(2,none)] 0 (λr o=>r=.sl 0 0 (4*ws.length)/\o=[.live 1 (((kK ws).map qA).map V.t) true false])):=by
 simp(disch:=omega)only[go_sem,↓reduceIte,Nat.reduceAdd,Int.reduceLE,reduceCtorEq,qDb];refine qB ws.length (λk=>[(3,.sl 8240 0 (4*k)),(10,.t (.sl (ws.map jG))),(11,.t (.int .i64 ws.length)),(12,.t (.int .i64 k))]) (λk=>[(8240,.live 1 (((kK (ws.take k)).map qA).map V.t) true false)]) ?_ (λk hk=>?_)
 .refine qL.rd id ?_ ?_ rfl;all_goals simp(disch:=omega)only[go_sem,↓reduceIte,Nat.reduceAdd,Nat.reduceEqDiff,Nat.reduceMul,id,kK,flatMap_nil,map_nil]
 .have hl:(kK (ws.take k)).length=4*k:=by rw[qG5,length_take];omega
  by_cases hlt:k<ws.length
  .simp(disch:=omega)only[go_sem,↓reduceIte,Nat.reduceAdd,Nat.reduceEqDiff,Nat.reduceLT,Nat.reduceLeDiff,hl];refine⟨hlt,qL.rd (λ_=>24784) ?_ ?_ rfl⟩;all_goals simp(disch:=omega)only[go_sem,↓reduceIte,Nat.reduceAdd,Nat.reduceEqDiff,qTz,qSq]
   .omega
   .simp only[append_assoc,cons_append,nil_append];rfl
  .have e:k=ws.length:=oM;subst e;rw[take_length]at hl;simp(disch:=omega)only[go_sem,↓reduceIte,Nat.reduceAdd,Nat.reduceEqDiff,hl,take_length]
def zV0 (x:UInt32):UInt32:=qBc x 7 ^^^ qBc x 18 ^^^ x >>> 3
def zV1 (x:UInt32):UInt32:=qBc x 17 ^^^ qBc x 19 ^^^ x >>> 10
def qA5 (bs:List UInt8):Nat->List UInt32
 |0=>List.replicate 64 0
 |t+1=>let w:=qA5 bs t
  w.set t (if t<16 then vG bs t else zV1 (w.getD (t-2) 0)+w.getD (t-7) 0+zV0 (w.getD (t-15) 0)+w.getD (t-16) 0)
theorem qLo {bs:List UInt8}{t:Nat}:(qA5 bs t).length=64:=by
 induction t with
 |zero=>rfl
 |succ t ih=>simp only[qA5,length_set,ih]
def qJz:Ct where
 α:=List UInt8×Nat
 aS x:=[.t (.sl (x.1.map qA)),.t (.int .i64 x.2)]
 ins _:=[]
 pre x:=4*x.2+3<x.1.length/\x.1.length<1000000000
 r x:= .t (jG (vG x.1 x.2))
 outs _:=[]
 inj:=by
  rintro⟨a,b⟩ ⟨c,d⟩ h _;simp[jC,Int.natCast_inj]at h;obtain⟨rfl,rfl⟩:=h;exact⟨rfl,rfl⟩
theorem zJs {bs:List UInt8}{i:Nat}(h:4*i+3<bs.length/\bs.length<1000000000):qJz.fs [.t (.sl (bs.map qA)),.t (.int .i64 i)] []=some (.t (jG (vG bs i)),[]):=qJz.eq (bs,i) h
def qR4:Ct where
 α:=UInt32×Int
 aS x:=[.t (jG x.1),.t (.int .i64 x.2)]
 ins _:=[]
 pre x := -32<x.2/\x.2<32/\x.2≠0
 r x:= .t (jG (qBc x.1 ((32-x.2)%32).toNat))
 outs _:=[]
 inj:=by
  rintro⟨a,b⟩ ⟨c,d⟩ h _;simp[zI0]at h;obtain⟨rfl,rfl⟩:=h;exact⟨rfl,rfl⟩
theorem qPp {x:UInt32}{i:Int}(h : -32<i/\i<32/\i≠0):qR4.fs [.t (jG x),.t (.int .i64 i)] []=some (.t (jG (qBc x ((32-i)%32).toNat)),[]):=qR4.eq (x,i) h
def qTv:List UInt32:=[0x428a2f98,0x71374491,0xb5c0fbcf,0xe9b5dba5,0x3956c25b,0x59f111f1,0x923f82a4,0xab1c5ed5,0xd807aa98,0x12835b01,0x243185be,0x550c7dc3,0x72be5d74,0x80deb1fe,0x9bdc06a7,0xc19bf174,0xe49b69c1,0xefbe4786,0x0fc19dc6,0x240ca1cc,0x2de92c6f,0x4a7484aa,0x5cb0a9dc,0x76f988da,0x983e5152,0xa831c66d,0xb00327c8,0xbf597fc7,0xc6e00bf3,0xd5a79147,0x06ca6351,0x14292967,0x27b70a85,0x2e1b2138,0x4d2c6dfc,0x53380d13,0x650a7354,0x766a0abb,0x81c2c92e,0x92722c85,0xa2bfe8a1,0xa81a664b,0xc24b8b70,0xc76c51a3,0xd192e819,0xd6990624,0xf40e3585,0x106aa070,0x19a4c116,0x1e376c08,0x2748774c,0x34b0bcb5,0x391c0cb3,0x4ed8aa4a,0x5b9cca4f,0x682e6ff3,0x748f82ee,0x78a5636f,0x84c87814,0x8cc70208,0x90befffa,0xa4506ceb,0xbef9a3f7,0xc67178f2]
def rnd (k w:UInt32)(s:List UInt32):List UInt32:=
 let a:=s.getD 0 0
 let e:=s.getD 4 0
 let t1:=s.getD 7 0+(qBc e 6 ^^^ qBc e 11 ^^^ qBc e 25)+((e &&& s.getD 5 0) ^^^ (~~~e &&& s.getD 6 0))+k+w
 let t2:=(qBc a 2 ^^^ qBc a 13 ^^^ qBc a 22)+((a &&& s.getD 1 0) ^^^ (a &&& s.getD 2 0) ^^^ (s.getD 1 0 &&& s.getD 2 0))
 [t1+t2,s.getD 0 0,s.getD 1 0,s.getD 2 0,s.getD 3 0+t1,s.getD 4 0,s.getD 5 0,s.getD 6 0]
def qAk (ws hs:List UInt32):Nat->List UInt32
 |0=>hs
 |t+1=>rnd (qTv.getD t 0) (ws.getD t 0) (qAk ws hs t)
theorem qQz {ws hs:List UInt32}{t:Nat}(h:hs.length=8):(qAk ws hs t).length=8:=by
 cases t with
 |zero=>exact h
 |succ t=>rfl
def zJ0 (hs s:List UInt32):Nat->List UInt32
 |0=>hs
 |i+1=>(zJ0 hs s i).set i ((zJ0 hs s i).getD i 0+s.getD i 0)
theorem qM9 {hs s:List UInt32}{i:Nat}:(zJ0 hs s i).length=hs.length:=by
 induction i with
 |zero=>rfl
 |succ i ih=>simp only[zJ0,length_set,ih]
def vK (hs:List UInt32)(bs:List UInt8):List UInt32:=zJ0 hs (qAk (qA5 bs 64) hs 64) 8
theorem qMk (h1:LkC tab 228 qJz)(h2:LkC tab 229 qR4)(hg:gl 2=some (qTv.map jG))(bs:List UInt8)(hs:List UInt32)(hb:bs.length=64)(hh:hs.length=8) :
  xC.1.wp tab gl (qD 0 [.ref 0 0 0,.t (.sl (bs.map qA))]) (qD 0 [.live 1 ((hs.map jG).map V.t) true true]) (qZ [] 1 (λr o=>r=.tup []/\o=[.live 1 (((vK hs bs).map jG).map V.t) true true])):=by
 have ht:hs.take 8=hs:=take_of_length_le oM;simp(disch:=omega)only[go_sem,xC];refine qB 64 (λk=>[(17,.t (.int .i64 k)),(4,.ref 4096 0 0),(0,.ref 0 0 0),(1,V.t (T.sl (List.map qA bs)))]) (λk=>[(4096,.live 1 (((qA5 bs k).map jG).map V.t) true true),(0,.live 1 ((hs.map jG).map V.t) true true)]) ?_ (λk hk=>?_)
 .refine qL.rd id ?_ ?_ rfl;all_goals simp(disch:=omega)only[go_sem,id,qA5]
 .have hl:(qA5 bs k).length=64:=qLo;by_cases hlt:k<64
  .by_cases h16:k<16
   .simp(disch:=omega)only[go_sem,h1,h2,zJs,hl];refine⟨hlt,qL.rd id ?_ ?_ rfl⟩;all_goals simp(disch:=omega)only[go_sem,id,qA5,if_pos h16]
   .simp(disch:=omega)only[go_sem,h1,h2,qPp,hl];refine⟨rfl,rfl,hlt,qL.rd id ?_ ?_ rfl⟩;all_goals simp(disch:=omega)only[go_sem,id,qA5,if_neg h16]
    rfl
  .have e:k=64:=oM;subst e;simp(disch:=omega)only[go_sem,ht,hh];refine qB 64 (λk=>[(70,.t (.int .i64 k)),(4,.ref 4096 0 0),(0,.ref 0 0 0),(10,.ref 49200 0 0)]) (λk=>[(49200,.live 1 (((qAk (qA5 bs 64) hs k).map jG).map V.t) true true),(4096,.live 1 (((qA5 bs 64).map jG).map V.t) true true),(0,.live 1 ((hs.map jG).map V.t) true true)]) ?_ (λk hk=>?_)
   .refine qL.rd id ?_ ?_ rfl;all_goals simp(disch:=omega)only[go_sem,id,qAk]
   .have hl2:(qAk (qA5 bs 64) hs k).length=8:=qQz hh;by_cases hlt:k<64
    .have hk2:qTv.length=64:=rfl;simp(maxSteps:=9^9)(disch:=try exact dS)only[go_sem,h1,h2,qPp,hl,hl2,hg,hk2];repeat refine And.intro rfl ?_
     refine⟨hlt,qL.rd id ?_ ?_ rfl⟩;all_goals simp(disch:=omega)only[go_sem,id,qAk,rnd,drop_eq_nil_of_le (show(qAk (qA5 bs 64) hs k).length<=8 by omega)]
    .have e:k=64:=oM;subst e;simp(disch:=omega)only[go_sem];refine qB 8 (λk=>[(152,.t (.int .i64 k)),(0,.ref 0 0 0),(10,.ref 49200 0 0)]) (λk=>[(49200,.live 1 (((qAk (qA5 bs 64) hs 64).map jG).map V.t) true true),(0,.live 1 (((zJ0 hs (qAk (qA5 bs 64) hs 64) k).map jG).map V.t) true true)]) ?_ (λk hk=>?_)
     .refine qL.rd id ?_ ?_ rfl;all_goals simp(disch:=omega)only[go_sem,id,zJ0]
     .have hl3:(zJ0 hs (qAk (qA5 bs 64) hs 64) k).length=8:=by rw[qM9,hh]
      by_cases hlt:k<8
      .simp(disch:=omega)only[go_sem,hl2,hl3];refine⟨rfl,hlt,qL.rd id ?_ ?_ rfl⟩;all_goals simp(disch:=omega)only[go_sem,id,zJ0]
      .have e:k=8:=oM;subst e;simp(disch:=omega)only[go_sem,vK]
theorem qIl (bs:List UInt8):(qA2 bs).length=bs.length+1+zD1 bs.length+8:=by
 simp only[qA2,length_append,length_replicate,qHc,length_cons,length_nil]
theorem zCd (bs:List UInt8):(qA2 bs).length%64=0:=by
 rw[qIl,zD1];omega
def hN (comp:List UInt32->List UInt8->List UInt32)(iv:List UInt32)(p:List UInt8):Nat->List UInt32
 |0=>iv
 |k+1=>comp (hN comp iv p k) ((p.drop (64*k)).take 64)
def jI6 (comp:List UInt32->List UInt8->List UInt32)(iv:List UInt32)(bs:List UInt8):List UInt8:=kK (hN comp iv (qA2 bs) ((qA2 bs).length/64))
def qQs:List UInt32:=[0x6a09e667,0xbb67ae85,0x3c6ef372,0xa54ff53a,0x510e527f,0x9b05688c,0x1f83d9ab,0x5be0cd19]
def jF (bs:List UInt8):List UInt8:=jI6 vK qQs bs
theorem zRw {comp:List UInt32->List UInt8->List UInt32}{iv:List UInt32}{p:List UInt8}{n:Nat}(hc:∀h b,(comp h b).length=h.length)(hi:iv.length=n){k:Nat}:(hN comp iv p k).length=n:=by
 induction k with
 |zero=>exact hi
 |succ k ih=>rw[hN,hc,ih]
theorem qMs (h:List UInt32)(b:List UInt8):(vK h b).length=h.length:=qM9
theorem qIj {p:List UInt8}{k:Nat}:(hN vK qQs p k).length=8:=zRw qMs rfl
def qTs:Ct where
 α:=List UInt8
 aS x:=[.t (.sl (x.map qA))]
 ins _:=[]
 pre x:=x.length<1000000000
 r x:= .sl 0 0 (qA2 x).length
 outs x:=[.live 1 (((qA2 x).map qA).map V.t) true false]
 inj:=by
  intro a b h _;simp[jC]at h;subst h;exact⟨rfl,rfl⟩
theorem zSy {bs:List UInt8}(h:bs.length<1000000000):qTs.fs [.t (.sl (bs.map qA))] []=some (.sl 0 0 (qA2 bs).length,[.live 1 (((qA2 bs).map qA).map V.t) true false]):=qTs.eq bs h
def qCy:Ct where
 α:=List UInt32
 aS x:=[.t (.sl (x.map jG))]
 ins _:=[]
 pre x:=x.length<1000000000
 r x:= .sl 0 0 (4*x.length)
 outs x:=[.live 1 (((kK x).map qA).map V.t) true false]
 inj:=by
  intro a b h _;simp[zLk]at h;subst h;exact⟨rfl,rfl⟩
theorem qXn {ws:List UInt32}(h:ws.length<1000000000):qCy.fs [.t (.sl (ws.map jG))] []=some (.sl 0 0 (4*ws.length),[.live 1 (((kK ws).map qA).map V.t) true false]):=qCy.eq ws h
def qA1 (n:Nat)(comp:List UInt32->List UInt8->List UInt32):Ct where
 α:=List UInt32×List UInt8
 aS x:=[.ref 0 0 0,.t (.sl (x.2.map qA))]
 ins x:=[.live 1 ((x.1.map jG).map V.t) true true]
 pre x:=x.2.length=64/\x.1.length=n
 r _:= .tup []
 outs x:=[.live 1 (((comp x.1 x.2).map jG).map V.t) true true]
 inj:=by
  rintro⟨a,b⟩ ⟨c,d⟩ h1 h2;simp[jC]at h1;simp only[Ob.live.injEq,zYo,zLk,List.cons.injEq]at h2;obtain⟨⟨_,rfl,_,_⟩,_⟩:=h2;subst h1;exact⟨rfl,rfl⟩
theorem zQg {n:Nat}{comp:List UInt32->List UInt8->List UInt32}{hs:List UInt32}{bs:List UInt8}(h:bs.length=64/\hs.length=n):(qA1 n comp).fs [.ref 0 0 0,.t (.sl (bs.map qA))] [.live 1 ((hs.map jG).map V.t) true true] =
  some (.tup [],[.live 1 (((comp hs bs).map jG).map V.t) true true]):=(qA1 n comp).eq (hs,bs) h
theorem qUv (h1:LkC tab 162 qTs)(h3:LkC tab 164 qCy)(h4:tab.look 165=some (qA1 8 vK).fs)(bs:List UInt8)(hb:bs.length<1000000000) :
  xS.1.wp tab gl (qD 0 [.t (.int .i64 1),.t (.sl (bs.map qA))]) (qD 0 []) (xO [] [(4,none)] 0 (λr o=>r=.sl 0 0 32/\o=[.live 1 (((jF bs).map qA).map V.t) true false])):=by
 have hp:=qIl bs;have hm:=zCd bs;simp(disch:=omega)only[go_sem,xS,h1,zSy];refine qB ((qA2 bs).length/64) (λk=>[(8,V.sl 49168 (64*k) ((qA2 bs).length-64*k)),(7,V.ref 45072 0 0)]) (λk=>[(49168,.live 1 (((qA2 bs).map qA).map V.t) true false),(45072,.live 1 (((hN vK qQs (qA2 bs) k).map jG).map V.t) true true)]) ?_ (λk hk=>?_)
 .refine qL.rd id ?_ ?_ rfl;all_goals simp(disch:=omega)only[go_sem,id,hN,qQs,Nat.mul_zero,mcn]
 .have hl:(hN vK qQs (qA2 bs) k).length=8:=qIj;by_cases hlt:k<(qA2 bs).length/64
  .simp(maxSteps:=9^9)(disch:=try exact dS)only[go_sem,h4,zQg,hl];refine⟨hlt,qL.rd id ?_ ?_ rfl⟩;all_goals simp(maxSteps:=9^9)(disch:=try exact dS)only[go_sem,id,hN]
   omega
  .have e:k=(qA2 bs).length/64:=oM;subst e;have ht:List.take 8 (hN vK qQs (qA2 bs) ((qA2 bs).length/64))=hN vK qQs (qA2 bs) ((qA2 bs).length/64):=take_of_length_le oM;simp(disch:=omega)only[go_sem,h3,qXn,hl,ht,jF,jI6]
def qFf (bs:List UInt8):Nat->List UInt32
 |0=>List.replicate 80 0
 |t+1=>let w:=qFf bs t
  w.set t (if t<16 then vG bs t else qBc (w.getD (t-3) 0 ^^^ w.getD (t-8) 0 ^^^ w.getD (t-14) 0 ^^^ w.getD (t-16) 0) 31)
theorem zCk {bs:List UInt8}{t:Nat}:(qFf bs t).length=80:=by
 induction t with
 |zero=>rfl
 |succ t ih=>simp only[qFf,length_set,ih]
def f1 (t:Nat)(b c d:UInt32):UInt32:=if t<20 then(b &&& c) ^^^ (~~~b &&& d) else if t<40 then b ^^^ c ^^^ d else if t<60 then(b &&& c) ^^^ (b &&& d) ^^^ (c &&& d) else b ^^^ c ^^^ d
def k1 (t:Nat):UInt32:=if t<20 then 0x5a827999 else if t<40 then 0x6ed9eba1 else if t<60 then 0x8f1bbcdc else 0xca62c1d6
def jPb (t:Nat)(w:UInt32)(s:List UInt32):List UInt32:=
 [qBc (s.getD 0 0) 27+f1 t (s.getD 1 0) (s.getD 2 0) (s.getD 3 0)+s.getD 4 0+k1 t+w,s.getD 0 0,qBc (s.getD 1 0) 2,s.getD 2 0,s.getD 3 0]
def qDp (ws hs:List UInt32):Nat->List UInt32
 |0=>hs
 |t+1=>jPb t (ws.getD t 0) (qDp ws hs t)
def qI8 (hs:List UInt32)(bs:List UInt8):List UInt32:=
 let s:=qDp (qFf bs 80) hs 80
 [hs.getD 0 0+s.getD 0 0,hs.getD 1 0+s.getD 1 0,hs.getD 2 0+s.getD 2 0,hs.getD 3 0+s.getD 3 0,hs.getD 4 0+s.getD 4 0]
theorem qRj (h1:LkC tab 228 qJz)(h2:LkC tab 229 qR4)(bs:List UInt8)(x0 x1 x2 x3 x4:UInt32)(hb:bs.length=64) :
  wK.1.wp tab gl (qD 0 [.ref 0 0 0,.t (.sl (bs.map qA))]) (qD 0 [.live 1 (([x0,x1,x2,x3,x4].map jG).map V.t) true true]) (qZ [] 1 (λr o=>r=.tup []/\o=[.live 1 (((qI8 [x0,x1,x2,x3,x4] bs).map jG).map V.t) true true])):=by
 simp(disch:=omega)only[go_sem,wK];refine qB 80 (λk=>[(14,.t (.int .i64 k)),(4,.ref 4096 0 0),(0,.ref 0 0 0),(1,V.t (T.sl (List.map qA bs)))]) (λk=>[(4096,.live 1 (((qFf bs k).map jG).map V.t) true true),(0,.live 1 [.t (jG x0),.t (jG x1),.t (jG x2),.t (jG x3),.t (jG x4)] true true)]) ?_ (λk hk=>?_)
 .refine qL.rd id ?_ ?_ rfl;all_goals simp(disch:=omega)only[go_sem,id,qFf]
 .have hl:(qFf bs k).length=80:=zCk;by_cases hlt:k<80
  .by_cases h16:k<16
   .simp(disch:=omega)only[go_sem,h1,h2,zJs,hl];refine⟨hlt,qL.rd id ?_ ?_ rfl⟩;all_goals simp(disch:=omega)only[go_sem,id,qFf,if_pos h16]
   .simp(disch:=omega)only[go_sem,h1,h2,qPp,hl];repeat refine And.intro rfl ?_
    refine⟨hlt,qL.rd id ?_ ?_ rfl⟩;all_goals simp(disch:=omega)only[go_sem,id,qFf,if_neg h16]
  .have e:k=80:=oM;subst e;simp(disch:=omega)only[go_sem];repeat refine And.intro rfl ?_
   refine qB 80 (λk=>[(67,.t (.int .i64 k)),(4,.ref 4096 0 0),(0,.ref 0 0 0),(6,.t (jG ((qDp (qFf bs 80) [x0,x1,x2,x3,x4] k).getD 0 0))),(7,.t (jG ((qDp (qFf bs 80) [x0,x1,x2,x3,x4] k).getD 1 0))),(8,.t (jG ((qDp (qFf bs 80) [x0,x1,x2,x3,x4] k).getD 2 0))),(9,.t (jG ((qDp (qFf bs 80) [x0,x1,x2,x3,x4] k).getD 3 0))),(10,.t (jG ((qDp (qFf bs 80) [x0,x1,x2,x3,x4] k).getD 4 0)))])
    (λk=>[(4096,.live 1 (((qFf bs 80).map jG).map V.t) true true),(0,.live 1 [.t (jG x0),.t (jG x1),.t (jG x2),.t (jG x3),.t (jG x4)] true true)]) ?_ (λk hk=>?_)
   .refine qL.rd id ?_ ?_ rfl;all_goals simp(disch:=omega)only[go_sem,id,qDp,getD_cons_zero,getD_cons_succ]
   .by_cases hlt:k<80
    .by_cases h20:k<20
     .have e0:k/20=0:=oM;simp(disch:=omega)only[go_sem,h1,h2,qPp,hl,e0];repeat refine And.intro rfl ?_
      refine⟨hlt,qL.rd id ?_ ?_ rfl⟩;all_goals simp(disch:=omega)only[go_sem,id,qDp,jPb,f1,k1,if_pos h20,getD_cons_zero,getD_cons_succ]
     .by_cases h40:k<40
      .have e0:k/20=1:=oM;simp(disch:=omega)only[go_sem,h1,h2,qPp,hl,e0];repeat refine And.intro rfl ?_
       refine⟨hlt,qL.rd id ?_ ?_ rfl⟩;all_goals simp(disch:=omega)only[go_sem,id,qDp,jPb,f1,k1,if_neg h20,if_pos h40,getD_cons_zero,getD_cons_succ]
      .by_cases h60:k<60
       .have e0:k/20=2:=oM;simp(disch:=omega)only[go_sem,h1,h2,qPp,hl,e0];repeat refine And.intro rfl ?_
        refine⟨hlt,qL.rd id ?_ ?_ rfl⟩;all_goals simp(disch:=omega)only[go_sem,id,qDp,jPb,f1,k1,if_neg h20,if_neg h40,if_pos h60,getD_cons_zero,getD_cons_succ]
       .have e0:k/20=3:=oM;simp(disch:=omega)only[go_sem,h1,h2,qPp,hl,e0];repeat refine And.intro rfl ?_
        refine⟨hlt,qL.rd id ?_ ?_ rfl⟩;all_goals simp(disch:=omega)only[go_sem,id,qDp,jPb,f1,k1,if_neg h20,if_neg h40,if_neg h60,getD_cons_zero,getD_cons_succ]
    .have e:k=80:=oM;subst e;simp(disch:=omega)only[go_sem,qI8,getD_cons_zero,getD_cons_succ];repeat refine And.intro rfl ?_
     rfl
def iv1:List UInt32:=[0x67452301,0xefcdab89,0x98badcfe,0x10325476,0xc3d2e1f0]
theorem zRu {p:List UInt8}{k:Nat}:(hN qI8 iv1 p k).length=5:=by
 cases k<;>rfl
def zG4 (bs:List UInt8):List UInt8:=jI6 qI8 iv1 bs
theorem qZt (h1:LkC tab 162 qTs)(h3:LkC tab 164 qCy)(h4:tab.look 163=some (qA1 5 qI8).fs)(bs:List UInt8)(hb:bs.length<1000000000) :
  xS.1.wp tab gl (qD 0 [.t (.int .i64 0),.t (.sl (bs.map qA))]) (qD 0 []) (xO [] [(4,none)] 0 (λr o=>r=.sl 0 0 20/\o=[.live 1 (((zG4 bs).map qA).map V.t) true false])):=by
 have hp:=qIl bs;have hm:=zCd bs;simp(disch:=omega)only[go_sem,xS,h1,zSy];refine qB ((qA2 bs).length/64) (λk=>[(6,V.sl 20496 (64*k) ((qA2 bs).length-64*k)),(5,V.ref 16400 0 0)]) (λk=>[(20496,.live 1 (((qA2 bs).map qA).map V.t) true false),(16400,.live 1 (((hN qI8 iv1 (qA2 bs) k).map jG).map V.t) true true)]) ?_ (λk hk=>?_)
 .refine qL.rd id ?_ ?_ rfl;all_goals simp(disch:=omega)only[go_sem,id,hN,iv1,Nat.mul_zero,mcn]
 .have hl:(hN qI8 iv1 (qA2 bs) k).length=5:=zRu;by_cases hlt:k<(qA2 bs).length/64
  .simp(maxSteps:=9^9)(disch:=try exact dS)only[go_sem,h4,zQg,hl];refine⟨hlt,qL.rd id ?_ ?_ rfl⟩;all_goals simp(maxSteps:=9^9)(disch:=try exact dS)only[go_sem,id,hN]
   omega
  .have e:k=(qA2 bs).length/64:=oM;subst e;have ht:List.take 5 (hN qI8 iv1 (qA2 bs) ((qA2 bs).length/64))=hN qI8 iv1 (qA2 bs) ((qA2 bs).length/64):=take_of_length_le oM;simp(disch:=omega)only[go_sem,h3,qXn,hl,ht,zG4,jI6]
theorem zO3 (bs:List UInt8)(hb:bs.length<1000000000):qM4.1.wp tab gl (qD 0 [.t (.sl (bs.map qA))]) (qD 0 []) (xO [] [(2,none)] 0 (λr o=>r=.sl 0 0 (qA2 bs).length/\o=[.live 1 (((qA2 bs).map qA).map V.t) true false])):=by
 have hz:zD1 bs.length=(119-bs.length%64)%64:=rfl;simp(disch:=omega)only[go_sem,qM4];refine qB (zD1 bs.length) (λk=>[(0,.t (.sl (bs.map qA))),(3,.sl 8256 0 (bs.length+1+k))]) (λk=>[(8256,.live 1 (((bs++[128]++List.replicate k 0).map qA).map V.t) true false)]) ?_ (λk hk=>?_)
 .refine qL.rd id ?_ ?_ rfl;all_goals simp(disch:=omega)only[go_sem,id]
 .by_cases hlt:k<zD1 bs.length
  .simp(disch:=omega)only[go_sem];refine⟨hlt,qL.rd (λ_=>16416) ?_ ?_ rfl⟩;all_goals simp(disch:=omega)only[go_sem,replicate_succ',append_assoc,Nat.add_assoc]
  .have e:k=zD1 bs.length:=oM;subst e;simp(disch:=omega)only[go_sem];refine qB 8 (λk=>[(3,.sl 8256 0 (bs.length+1+zD1 bs.length+k)),(4,V.t (T.int IntKind.u64 (bs.length*8:Nat))),(5,.t (.int .i64 (7-(k:Int))))]) (λk=>[(8256,.live 1 (((bs++[128]++List.replicate (zD1 bs.length) 0++beL (bs.length*8) k).map qA).map V.t) true false)]) ?_ (λk hk=>?_)
   .refine qL.rd id ?_ ?_ rfl;all_goals simp(disch:=omega)only[go_sem,id,zKb,append_nil]
   .by_cases hlt:k<8
    .have e:8*(7-k)=56-8*k:=oM;simp(disch:=omega)only[go_sem,qHc,e];refine⟨hlt,qL.rd (λ_=>36992) ?_ ?_ rfl⟩;all_goals simp(disch:=omega)only[go_sem,zKa,append_assoc,Nat.add_assoc]
     omega
    .have e:k=8:=oM;subst e;simp(disch:=omega)only[go_sem,qHc,qA2]
theorem zGk (ws:List UInt32)(hb:ws.length<1000000000):qHp.1.wp tab gl (qD 0 [.t (.sl (ws.map jG))]) (qD 0 []) (xO [] [(2,none)] 0 (λr o=>r=.sl 0 0 (4*ws.length)/\o=[.live 1 (((kK ws).map qA).map V.t) true false])):=by
 simp(disch:=omega)only[go_sem,Nat.reduceAdd,qHp];refine qB ws.length (λk=>[(3,.sl 9000 0 (4*k)),(0,.t (.sl (ws.map jG))),(4,.t (.int .i64 k))]) (λk=>[(9000,.live 1 (((kK (ws.take k)).map qA).map V.t) true false)]) ?_ (λk hk=>?_)
 .show qL _ _ _ ([(9000,.live 1 [] true false)]++[]);refine qL.cv0 id ?_ ?_ rfl rfl;all_goals simp(disch:=omega)only[go_sem,↓reduceIte,Nat.reduceEqDiff,reduceCtorEq,id,mcn,Nat.mul_zero]
 .have hl:(kK (ws.take k)).length=4*k:=by rw[qG5,length_take];omega
  by_cases hlt:k<ws.length
  .simp(disch:=omega)only[go_sem,↓reduceIte,Nat.reduceAdd,Nat.reduceEqDiff,Nat.reduceLT,Nat.reduceLeDiff,reduceCtorEq,hl];refine⟨rfl,hlt,qL.rd (λ_=>24976) ?_ ?_ rfl⟩;all_goals simp(disch:=omega)only[go_sem,↓reduceIte,Nat.reduceAdd,Nat.reduceEqDiff,reduceCtorEq,qTz,qSq]
   .omega
   .simp only[append_assoc,cons_append,nil_append];rfl
  .have e:k=ws.length:=oM;subst e;rw[take_length]at hl;simp(disch:=omega)only[go_sem,↓reduceIte,Nat.reduceAdd,Nat.reduceEqDiff,reduceCtorEq,hl,take_length]
theorem qUw:qCc.1.wp tab gl (qD 0 []) (qD 0 []) (qZ [(0,some (64,true))] 0 (λr o=>r=.t (.agg (qTv.map jG))/\o=[])):=by
 simp(maxSteps:=9^9)(disch:=try exact dS)only[go_sem,qCc,drop_replicate];rfl
def qU6:Ct where
 α:=Unit
 aS _:=[]
 ins _:=[]
 pre _:=True
 r _:= .t (.agg (qTv.map jG))
 outs _:=[]
 inj:=λ_ _ _ _=>⟨rfl,rfl⟩
theorem zWt:qU6.fs [] []=some (.t (.agg (qTv.map jG)),[]):=qU6.eq () trivial
def zBr:Ct where
 α:=UInt32×Nat
 aS x:=[.t (jG x.1),.t (.int .u64 x.2)]
 ins _:=[]
 pre x:=0<x.2/\x.2<32
 r x:= .t (jG (qBc x.1 x.2))
 outs _:=[]
 inj:=by
  rintro⟨a,b⟩ ⟨c,d⟩ h _;simp[zI0,Int.natCast_inj]at h;obtain⟨rfl,rfl⟩:=h;exact⟨rfl,rfl⟩
theorem zTm {x:UInt32}{n:Nat}(h:0<n/\n<32):zBr.fs [.t (jG x),.t (.int .u64 (no_index (@OfNat.ofNat Int n _)))] []=some (.t (jG (qBc x n)),[]):=zBr.eq (x,n) h
theorem zDp (h1:LkC tab 92 qU6)(h2:LkC tab 93 qTs)(h3:LkC tab 94 qJz)(h4:LkC tab 95 zBr)(h5:LkC tab 96 qCy)
  (bs:List UInt8) (hb:bs.length<1000000000) :
  qGj.1.wp tab gl (qD 0 [.t (.sl (bs.map qA))]) (qD 0 []) (xO [] [(2,none)] 0 (λr o=>r=.sl 0 0 32/\o=[.live 1 (((jF bs).map qA).map V.t) true false])):=by
 have hp:=qIl bs;have hm:=zCd bs;have hz:zD1 bs.length<64:=by unfold zD1;omega
 have hk2:qTv.length=64:=rfl;simp(maxSteps:=9^9)(disch:=try exact dS)only[go_sem,qGj,h1,zWt,h2,zSy,hk2];refine qB ((qA2 bs).length/64) (λk=>[(3,.ref 8208 0 0),(4,.sl 12288 0 8),(5,.sl 16400 0 (qA2 bs).length),(6,.t (.int .i64 ((64*k:Nat):Int)))])
  (λk=>[(8208,.live 1 ((qTv.map jG).map V.t) true true),(12288,.live 1 (((hN vK qQs (qA2 bs) k).map jG).map V.t) true false),(16400,.live 1 (((qA2 bs).map qA).map V.t) true false)]) ?_ (λk hk=>?_)
 .refine qL.rd id ?_ ?_ rfl;all_goals simp(disch:=omega)only[go_sem,id,hN,qQs,Nat.mul_zero,mcn]
 .have hl:(hN vK qQs (qA2 bs) k).length=8:=qIj;by_cases hlt:k<(qA2 bs).length/64
  .generalize hH:hN vK qQs (qA2 bs) k=H at hl⊢;generalize hB:List.take 64 (List.drop (64*k) (qA2 bs))=B;have hBl:B.length=64:=by rw[<-hB];simp only[length_take,length_drop];omega
   simp(disch:=omega)only[go_sem];refine qB 64 (λt=>[(8,.t (.int .i64 t)),(7,.ref 32768 0 0),(3,.ref 8208 0 0),(4,.sl 12288 0 8),(5,.sl 16400 0 (qA2 bs).length),(6,.t (.int .i64 ((64*k:Nat):Int)))])
    (λt=>[(32768,.live 1 (((qA5 B t).map jG).map V.t) true true),(8208,.live 1 ((qTv.map jG).map V.t) true true),(12288,.live 1 ((H.map jG).map V.t) true false),(16400,.live 1 (((qA2 bs).map qA).map V.t) true false)]) ?_ (λt ht=>?_)
   .refine qL.rd id ?_ ?_ rfl;all_goals simp(disch:=omega)only[go_sem,id,qA5]
   .have hs:(qA5 B t).length=64:=qLo;by_cases hlt2:t<64
    .by_cases h16:t<16
     .simp(disch:=omega)only[go_sem,h3,zJs,hs,hB];refine⟨hlt2,qL.rd id ?_ ?_ rfl⟩;all_goals simp(disch:=omega)only[go_sem,id,qA5,if_pos h16]
     .simp(maxSteps:=9^9)(disch:=try exact dS)only[go_sem,h4,zTm,hs];repeat refine And.intro rfl ?_
      refine⟨hlt2,qL.rd id ?_ ?_ rfl⟩;all_goals simp(maxSteps:=9^9)(disch:=try exact dS)only[go_sem,id,qA5,if_neg h16]
      rfl
    .have e:t=64:=oM;subst e;have hT:List.take 8 H=H:=take_of_length_le oM;simp(disch:=omega)only[go_sem,hl,hT];refine qB 64 (λt=>[(12,.t (.int .i64 t)),(11,.sl 69664 0 8),(7,.ref 32768 0 0),(3,.ref 8208 0 0),(4,.sl 12288 0 8),(5,.sl 16400 0 (qA2 bs).length),(6,.t (.int .i64 ((64*k:Nat):Int)))])
      (λt=>[(69664,.live 1 (((qAk (qA5 B 64) H t).map jG).map V.t) true false),(32768,.live 1 (((qA5 B 64).map jG).map V.t) true true),(8208,.live 1 ((qTv.map jG).map V.t) true true),(12288,.live 1 ((H.map jG).map V.t) true false),(16400,.live 1 (((qA2 bs).map qA).map V.t) true false)]) ?_ (λt ht=>?_)
     .refine qL.rd id ?_ ?_ rfl;all_goals simp(disch:=omega)only[go_sem,id,qAk]
     .have hr:(qAk (qA5 B 64) H t).length=8:=qQz hl;by_cases hlt3:t<64
      .simp(maxSteps:=9^9)(disch:=try exact dS)only[go_sem,h4,zTm,hs,hr,hk2];repeat refine And.intro rfl ?_
       refine⟨hlt3,qL.rd (λi=>if i=69664 then 98656 else i) ?_ ?_ rfl⟩;all_goals simp(disch:=omega)only[go_sem,qAk,rnd]
       trace_state
      .have e:t=64:=oM;subst e;simp(disch:=omega)only[go_sem];refine qB 8 (λt=>[(17,.t (.int .i64 t)),(11,.sl 69664 0 8),(3,.ref 8208 0 0),(4,.sl 12288 0 8),(5,.sl 16400 0 (qA2 bs).length),(6,.t (.int .i64 ((64*k:Nat):Int)))])
        (λt=>[(69664,.live 1 (((qAk (qA5 B 64) H 64).map jG).map V.t) true false),(8208,.live 1 ((qTv.map jG).map V.t) true true),(12288,.live 1 (((zJ0 H (qAk (qA5 B 64) H 64) t).map jG).map V.t) true false),(16400,.live 1 (((qA2 bs).map qA).map V.t) true false)]) ?_ (λt ht=>?_)
       .refine qL.rd id ?_ ?_ rfl;all_goals simp(disch:=omega)only[go_sem,id,zJ0]
       .have ha:(zJ0 H (qAk (qA5 B 64) H 64) t).length=8:=by rw[qM9,hl]
        by_cases hlt4:t<8
        .simp(disch:=omega)only[go_sem,hr,ha];repeat refine And.intro rfl ?_
         refine⟨hlt4,qL.rd id ?_ ?_ rfl⟩;all_goals simp(disch:=omega)only[go_sem,id,zJ0]
        .have e:t=8:=oM;subst e;simp(disch:=omega)only[go_sem];refine⟨hlt,qL.rd id ?_ ?_ rfl⟩;all_goals simp(disch:=omega)only[go_sem,id,hN,hH,hB,vK]
         omega
  .have e:k=(qA2 bs).length/64:=oM;subst e;have e2:64*((qA2 bs).length/64)=(qA2 bs).length:=oM;have ht:List.take 8 (hN vK qQs (qA2 bs) ((qA2 bs).length/64))=hN vK qQs (qA2 bs) ((qA2 bs).length/64):=take_of_length_le oM;simp(disch:=omega)only[go_sem,e2,h5,qXn,hl,ht,jF,jI6]
def szA (a:Nat):Nat:=if a=0 then 20 else if a=1 then 32 else 0
def jI5 (a:Nat)(bs:List UInt8):List UInt8:=if a=0 then zG4 bs else if a=1 then jF bs else []
theorem qXp {comp:List UInt32->List UInt8->List UInt32}{iv:List UInt32}{bs:List UInt8}{n:Nat}(hc:∀h b,h.length=n->(comp h b).length=n)(hi:iv.length=n):(jI6 comp iv bs).length=4*n:=by
 have:∀k p,(hN comp iv p k).length=n:=by
  intro k p
  induction k with
  |zero=>exact hi
  |succ k ih=>exact hc _ _ ih
 rw[jI6,qG5,this]
theorem qO {bs:List UInt8}:(jF bs).length=32:=qXp (n:=8) (λh b e=>by rw[qMs,e]) rfl
theorem yH {bs:List UInt8}:(zG4 bs).length=20:=qXp (n:=5) (λh b _=>rfl) rfl
theorem qIr {a:Nat}{bs:List UInt8}:(jI5 a bs).length=szA a:=by
 unfold jI5 szA;split
 .exact yH
 .split
  .exact qO
  .rfl
def zEh (n:Nat)(f:List UInt8->List UInt8):Ct where
 α:=List UInt8
 aS x:=[.t (.sl (x.map qA))]
 ins _:=[]
 pre x:=x.length<1000000000
 r _:= .sl 0 0 n
 outs x:=[.live 1 (((f x).map qA).map V.t) true false]
 inj:=by
  intro a b h _;simp[jC]at h;subst h;exact⟨rfl,rfl⟩
theorem jEh {n:Nat}{f:List UInt8->List UInt8}{bs:List UInt8}(h:bs.length<1000000000):(zEh n f).fs [.t (.sl (bs.map qA))] []=some (.sl 0 0 n,[.live 1 (((f bs).map qA).map V.t) true false]):=(zEh n f).eq bs h
def zJ8 (n:Nat):List UInt8:=[UInt8.ofNat (n/2^24),UInt8.ofNat (n/2^16),UInt8.ofNat (n/2^8),UInt8.ofNat n]
def zB (tag:Nat)(fs:List (List UInt8)):List UInt8:=UInt8.ofNat tag::fs.flatMap λf=>zJ8 f.length++f
theorem qIi {tag:Nat}{fs:List (List UInt8)}{k:Nat}(h:k<fs.length):zB tag (fs.take (k+1))=zB tag (fs.take k)++zJ8 (fs.getD k []).length++fs.getD k []:=by
 rw[qLr (d:=[]) h];simp[zB]
theorem qQl {tag:Nat}{fs:List (List UInt8)}{k:Nat}:(zB tag (fs.take k)).length<=(zB tag fs).length:=by
 have:zB tag fs=zB tag (fs.take k)++(fs.drop k).flatMap λf=>zJ8 f.length++f:=by
  simp only[zB,cons_append,<-flatMap_append,take_append_drop]
 rw[this,length_append];omega
theorem zEr {tag:Nat}{fs:List (List UInt8)}:4*fs.length+1<=(zB tag fs).length:=by
 simp only[zB,length_cons];have:4*fs.length<=(fs.flatMap λf=>zJ8 f.length++f).length:=by
  induction fs with
  |nil=>simp
  |cons f r ih=>
   have h4:∀n,(zJ8 n).length=4:=λ_=>rfl
   simp only[flatMap_cons,length_append,length_cons,h4];omega
 omega
theorem qZs (tag:Nat)(ht:tag<256)(fs:List (List UInt8))(hb:(zB tag fs).length<1000000000):qEj.1.wp tab gl (qD 0 [.t (.int .i64 tag),.t (.sl (fs.map bsT))]) (qD 0 []) (xO [] [(4,none)] 0 (λr o=>r=.sl 0 0 (zB tag fs).length/\o=[.live 1 (((zB tag fs).map qA).map V.t) true false])):=by
 simp(disch:=omega)only[go_sem,qEj];have hge:=zEr (tag:=tag) (fs:=fs);refine qB fs.length (λk=>[(5,.sl 8224 0 (zB tag (fs.take k)).length),(12,V.t (T.sl (List.map bsT fs))),(13,.t (.int .i64 fs.length)),(14,.t (.int .i64 k))]) (λk=>[(8224,.live 1 (((zB tag (fs.take k)).map qA).map V.t) true false)]) ?_ (λk hk=>?_)
 .refine qL.rd id ?_ ?_ rfl;all_goals simp(disch:=omega)only[go_sem,id,zB,flatMap_nil,mcn]
 .have h0:=qQl (tag:=tag) (fs:=fs) (k:=k);by_cases hlt:k<fs.length
  .have h1:=qQl (tag:=tag) (fs:=fs) (k:=k+1);rw[qIi hlt,length_append,length_append]at h1;have h2:(zJ8 (fs.getD k []).length).length=4:=rfl;simp(disch:=omega)only[go_sem];refine⟨hlt,qL.rd (λ_=>32800) ?_ ?_ rfl⟩;all_goals simp(disch:=omega)only[go_sem,qIi,zJ8]
   simp only[append_assoc,cons_append,nil_append]
  .have e:k=fs.length:=oM;subst e;simp(disch:=omega)only[go_sem,take_length]
theorem zGj (tag:Nat)(ht:tag<256)(fs:List (List UInt8))(hb:(zB tag fs).length<1000000000):qHo.1.wp tab gl (qD 0 [.t (.int .i64 tag),.t (.sl (fs.map bsT))]) (qD 0 []) (xO [] [(4,none)] 0 (λr o=>r=.sl 0 0 (zB tag fs).length/\o=[.live 1 (((zB tag fs).map qA).map V.t) true false])):=by
 simp(disch:=omega)only[go_sem,qHo];have hge:=zEr (tag:=tag) (fs:=fs);refine qB fs.length (λk=>[(5,.sl 8224 0 (zB tag (fs.take k)).length),(1,V.t (T.sl (List.map bsT fs))),(6,.t (.int .i64 k))]) (λk=>[(8224,.live 1 (((zB tag (fs.take k)).map qA).map V.t) true false)]) ?_ (λk hk=>?_)
 .refine qL.rd id ?_ ?_ rfl;all_goals simp(disch:=omega)only[go_sem,id,zB,flatMap_nil,mcn]
 .have h0:=qQl (tag:=tag) (fs:=fs) (k:=k);by_cases hlt:k<fs.length
  .have h1:=qQl (tag:=tag) (fs:=fs) (k:=k+1);rw[qIi hlt,length_append,length_append]at h1;have h2:(zJ8 (fs.getD k []).length).length=4:=rfl;simp(disch:=omega)only[go_sem];refine⟨hlt,qL.rd (λ_=>32848) ?_ ?_ rfl⟩;all_goals simp(disch:=omega)only[go_sem,qIi,zJ8]
   simp only[append_assoc,cons_append,nil_append]
  .have e:k=fs.length:=oM;subst e;simp(disch:=omega)only[go_sem,take_length]
def zBt:Ct where
 α:=List UInt8×List UInt8
 aS x:=[.t (.sl (x.1.map qA)),.t (.sl (x.2.map qA))]
 ins _:=[]
 pre x:=x.1.length<1000000000/\x.2.length<1000000000
 r x:= .t (.bool (decide (x.1=x.2)))
 outs _:=[]
 inj:=by
  rintro⟨a,b⟩ ⟨c,d⟩ h _;simp[jC]at h;obtain⟨rfl,rfl⟩:=h;exact⟨rfl,rfl⟩
theorem jIl {a b:List UInt8}(h:a.length<1000000000/\b.length<1000000000):zBt.fs [.t (.sl (a.map qA)),.t (.sl (b.map qA))] []=some (.t (.bool (decide (a=b))),[]):=zBt.eq (a,b) h
def zYr (l:List (List UInt8)):Prop:=l.length<1000000000/\∀x∈l,x.length<1000000000
theorem zB6 {l:List (List UInt8)}(h:zYr l)(i:Nat):(l.getD i []).length<1000000000:=by
 by_cases hi:i<l.length
 .have:l.getD i []=l[i]:=by simp[List.getD,hi]
  rw[this];exact h.2 _ (getElem_mem hi)
 .simp[List.getD,getElem?_eq_none (Nat.le_of_not_lt hi)]
def qFv:Ct where
 α:=Nat×List (List UInt8)
 aS x:=[.t (.int .i64 x.1),.t (.sl (x.2.map bsT))]
 ins _:=[]
 pre x:=x.1<256/\(zB x.1 x.2).length<1000000000
 r x:= .sl 0 0 (zB x.1 x.2).length
 outs x:=[.live 1 (((zB x.1 x.2).map qA).map V.t) true false]
 inj:=by
  rintro⟨a,b⟩ ⟨c,d⟩ h _;simp[qC0,Int.natCast_inj]at h;obtain⟨rfl,rfl⟩:=h;exact⟨rfl,rfl⟩
theorem qU7 {t:Nat}{fs:List (List UInt8)}(h:t<256/\(zB t fs).length<1000000000):qFv.fs [.t (.int .i64 t),.t (.sl (fs.map bsT))] []=some (.sl 0 0 (zB t fs).length,[.live 1 (((zB t fs).map qA).map V.t) true false]):=qFv.eq (t,fs) h
def kX (t:Nat)(fs:List (List UInt8)):List UInt8:=jF (zB t fs)
def qE6:Ct where
 α:=Nat×List UInt8
 aS x:=[.t (.int .i64 x.1),.t (.sl (x.2.map qA))]
 ins _:=[]
 pre x:=x.1<2/\x.2.length<1000000000
 r x:= .sl 0 0 (szA x.1)
 outs x:=[.live 1 (((jI5 x.1 x.2).map qA).map V.t) true false]
 inj:=by
  rintro⟨a,b⟩ ⟨c,d⟩ h _;simp[jC,Int.natCast_inj]at h;obtain⟨rfl,rfl⟩:=h;exact⟨rfl,rfl⟩
theorem zL {bs:List UInt8}(h:bs.length<1000000000):qE6.fs [.t (.int .i64 0),.t (.sl (bs.map qA))] []=some (.sl 0 0 20,[.live 1 (((zG4 bs).map qA).map V.t) true false]):=qE6.eq (0,bs) ⟨sM,h⟩
theorem zI {bs:List UInt8}(h:bs.length<1000000000):qE6.fs [.t (.int .i64 1),.t (.sl (bs.map qA))] []=some (.sl 0 0 32,[.live 1 (((jF bs).map qA).map V.t) true false]):=qE6.eq (1,bs) ⟨sM,h⟩
theorem zDl (h1:LkC tab 126 qFv)(h2:LkC tab 124 qE6)(t:Nat)(fs:List (List UInt8))(ht:t<256)(hb:(zB t fs).length<1000000000) :
  qGb.1.wp tab gl (qD 0 [.t (.int .i64 t),.t (.sl (fs.map bsT))]) (qD 0 []) (xO [] [(4,none)] 0 (λr o=>r=.sl 0 0 32/\o=[.live 1 (((kX t fs).map qA).map V.t) true false])):=by
 simp(disch:=omega)only[go_sem,qGb,h1,h2,qU7,zI,kX]
theorem zJe (h1:LkC tab 55 qFv)(h2:tab.look 54=some (zEh 32 jF).fs)(t:Nat)(fs:List (List UInt8))(ht:t<256)(hb:(zB t fs).length<1000000000) :
  qJh.1.wp tab gl (qD 0 [.t (.int .i64 t),.t (.sl (fs.map bsT))]) (qD 0 []) (xO [] [(4,none)] 0 (λr o=>r=.sl 0 0 32/\o=[.live 1 (((kX t fs).map qA).map V.t) true false])):=by
 simp(disch:=omega)only[go_sem,qJh,h1,h2,qU7,jEh,kX]
theorem zGg (h1:LkC tab 162 qTs)(h2:tab.look 163=some (qA1 5 qI8).fs)(h3:LkC tab 164 qCy)(h4:tab.look 165=some (qA1 8 vK).fs)(a:Nat)(ha:a<2)(bs:List UInt8)(hb:bs.length<1000000000) :
  xS.1.wp tab gl (qD 0 [.t (.int .i64 a),.t (.sl (bs.map qA))]) (qD 0 []) (xO [] [(4,none)] 0 (λr o=>r=.sl 0 0 (szA a)/\o=[.live 1 (((jI5 a bs).map qA).map V.t) true false])):=by
 rcases(show a=0\/a=1 by omega)with rfl|rfl
 .exact qZt tab gl h1 h3 h2 bs hb
 .exact qUv tab gl h1 h3 h4 bs hb
def m64 (n:Int):Nat:=(n%18446744073709551616).toNat
def beI (size:Nat)(n:Int)(k:Nat):List UInt8:=(List.range k).map λi=>UInt8.ofNat (m64 n/2^(8*(size-1-i)))
theorem zJ9 {size:Nat}{n:Int}:beI size n 0=[]:=rfl
theorem qLy {size:Nat}{n:Int}{k:Nat}:(beI size n k).length=k:=by simp[beI]
theorem zBa {size:Nat}{n:Int}{k:Nat}:beI size n (k+1)=beI size n k++[UInt8.ofNat (m64 n/2^(8*(size-1-k)))]:=by simp[beI,range_succ]
theorem zLi {n:Int}:IntKind.u64.wrap n=(m64 n:Int):=by rw[qVn,m64];omega
theorem zJo (b:List UInt8)(size:Nat)(n:Int)(hb:b.length<1000000000)(hs:1<=size/\size<=8):qJr.1.wp tab gl (qD 0 [.t (.sl (b.map qA)),.t (.int .i64 size),.t (.int .i64 n)]) (qD 0 []) (xO [] [(6,none)] 0 (λr o=>r=.sl 0 0 (b.length+size)/\o=[.live 1 (((b++beI size n size).map qA).map V.t) true false])):=by
 have hw:=zLi (n:=n);simp(disch:=omega)only[go_sem,qJr];refine qB size (λk=>[(2,.t (.int .i64 n)),(7,.sl 8208 0 (b.length+k)),(8,.t (.int .i64 ((size:Int)-1-k)))]) (λk=>[(8208,.live 1 (((b++beI size n k).map qA).map V.t) true false)]) ?_ (λk hk=>?_)
 .refine qL.rd id ?_ ?_ rfl;all_goals simp(disch:=omega)only[go_sem,id,zJ9,append_nil]
  all_goals omega
 .have hl:(beI size n k).length=k:=qLy;by_cases hlt:k<size
  .simp(disch:=omega)only[go_sem,hl,hw];refine⟨hlt,qL.rd (λ_=>32912) ?_ ?_ rfl⟩;all_goals simp(disch:=omega)only[go_sem,zBa,append_assoc,Nat.add_assoc]
   all_goals first|omega|rfl
  .have e:k=size:=oM;subst e;simp(disch:=omega)only[go_sem,hl]
theorem zJj (b:List UInt8)(size:Nat)(n:Int)(hb:b.length<1000000000)(hs:1<=size/\size<=8):qJl.1.wp tab gl (qD 0 [.t (.sl (b.map qA)),.t (.int .i64 size),.t (.int .i64 n)]) (qD 0 []) (xO [] [(6,none)] 0 (λr o=>r=.sl 0 0 (b.length+size)/\o=[.live 1 (((b++beI size n size).map qA).map V.t) true false])):=by
 have hw:=zLi (n:=n);simp(disch:=omega)only[go_sem,qJl];refine qB size (λk=>[(2,.t (.int .i64 n)),(7,.sl 8224 0 (b.length+k)),(8,.t (.int .i64 ((size:Int)-1-k)))]) (λk=>[(8224,.live 1 (((b++beI size n k).map qA).map V.t) true false)]) ?_ (λk hk=>?_)
 .refine qL.rd id ?_ ?_ rfl;all_goals simp(disch:=omega)only[go_sem,id,zJ9,append_nil]
  all_goals omega
 .have hl:(beI size n k).length=k:=qLy;by_cases hlt:k<size
  .simp(disch:=omega)only[go_sem,hl,hw];refine⟨hlt,qL.rd (λ_=>32912) ?_ ?_ rfl⟩;all_goals simp(disch:=omega)only[go_sem,zBa,append_assoc,Nat.add_assoc]
   all_goals first|omega|rfl
  .have e:k=size:=oM;subst e;simp(disch:=omega)only[go_sem,hl]
abbrev Rd:=List UInt8×Nat×Int
def rdT (s:Rd):T:= .agg [bsT s.1,.int .i64 (s.2.1:Int),.int .i64 s.2.2]
def yS (s:Rd):Ob:= .live 3 [.t (rdT s)] true true
def qG4 (s:Rd):Prop:=s.2.1<=s.1.length/\s.1.length<1000000000
theorem zO6 (b:List UInt8)(hb:b.length<1000000000):qM8.1.wp tab gl (qD 0 [.t (.sl (b.map qA))]) (qD 0 []) (xO [8208] [(2,none)] 0 (λr o=>r=.ref 0 0 0/\o=[yS (b,0,0)])):=by
 simp(disch:=omega)only[go_sem,qM8];rfl
theorem zO4 (b:List UInt8)(hb:b.length<1000000000):qM5.1.wp tab gl (qD 0 [.t (.sl (b.map qA))]) (qD 0 []) (xO [] [(2,none)] 0 (λr o=>r=.ref 0 0 0/\o=[yS (b,0,0)])):=by
 simp(disch:=omega)only[go_sem,qM5];rfl
theorem zJq (s:Rd)(hs:qG4 s)(p n:Nat)(h:p+n<=s.1.length):yF.1.wp tab gl (qD 0 [.ref 0 0 0,.t (.int .i64 p),.t (.int .i64 n)]) (qD 0 [yS s]) (qZ [(6,none),(7,none)] 1 (λr o=>r=.tup [.t (.sl (((s.1.drop p).take n).map qA)),.t (.int .i64 0)]/\o=[yS s])):=by
 obtain⟨b,at_,e⟩:=s;simp only[qG4]at hs h⊢;simp(disch:=omega)only[go_sem,yF,yS,rdT]
theorem zJp (s:Rd)(hs:qG4 s)(n:Int):qAz.1.wp tab gl (qD 0 [.ref 0 0 0,.t (.int .i64 n)]) (qD 0 [yS s]) (qZ [] 1 (λr o=>r=.tup []/\o=[yS (s.1,s.2.1,n)])):=by
 obtain⟨b,at_,e⟩:=s;simp(disch:=omega)only[go_sem,qAz,yS,rdT]
def zG2 (w:UInt8)(k:List UInt8):List UInt8:=(k++List.replicate (64-k.length) 0).map (· ^^^ w)
def zVw (k b:List UInt8):List UInt8:=jF (zG2 92 k++jF (zG2 54 k++b))
theorem qW1 {w:UInt8}{k:List UInt8}(h:k.length<=64):(zG2 w k).length=64:=by simp[zG2];omega
theorem zRy {k b:List UInt8}:List.take 32 (zVw k b)=zVw k b:=take_of_length_le (by rw[zVw,qO];omega)
theorem qWo {k b:List UInt8}:(zVw k b).length=32:=qO
def xk (w:UInt8)(z:List UInt8)(k:Nat):List UInt8:=(z.take k).map (· ^^^ w)++z.drop k
theorem yFx {w:UInt8}{z:List UInt8}:xk w z 0=z:=by simp[xk]
theorem yFy {w:UInt8}{z:List UInt8}{n:Nat}(h:z.length=n):xk w z n=z.map (· ^^^ w):=by subst h;simp[xk]
theorem zVj {w:UInt8}{z:List UInt8}{k:Nat}:(xk w z k).length=z.length:=by simp[xk];omega
theorem jR7 {w:UInt8}{z:List UInt8}{k:Nat}(h:k<z.length):(xk w z k).getD k 0=z.getD k 0:=by
 have hl:((z.take k).map (· ^^^ w)).length=k:=soM;rw[xk,getD_eq_getElem?_getD,getElem?_append_right oM,hl,Nat.sub_self,getElem?_drop,getD_eq_getElem?_getD];rfl
theorem jR8 {w:UInt8}{z:List UInt8}{k:Nat}(h:k<z.length):(xk w z k).set k (z.getD k 0 ^^^ w)=xk w z (k+1):=by
 have hl:((z.take k).map (· ^^^ w)).length=k:=soM;have hd:z.drop k=z.getD k 0::z.drop (k+1):=by
  rw[drop_eq_getElem_cons h];simp[List.getD,getElem?_eq_getElem h]
 rw[xk,xk,set_append_right _ _ oM,hl,Nat.sub_self,hd,set_cons_zero,qLr (d:=0) h,map_append,append_assoc];rfl
theorem zJd (w:UInt8)(key:List UInt8)(hk:key.length<=64) :
  qJf.1.wp tab gl (qD 0 [.t (qA w),.ref 0 0 0]) (qD 0 [.live 1 [.t (.sl (key.map qA))] true true]) (xO [] [(3,none)] 1 (λr o=>r=.sl 1 0 64/\o=[.live 1 [.t (.sl (key.map qA))] true true,.live 1 (((zG2 w key).map qA).map V.t) true false])):=by
 simp(maxSteps:=9^9)(disch:=try exact dS)only[go_sem,qJf];have hz:(List.take 64 key++List.replicate (64-key.length) 0).length=64:=soM;have hp:zG2 w key=(List.take 64 key++List.replicate (64-key.length) 0).map (· ^^^ w):=by rw[zG2,take_of_length_le hk]
 rw[hp];generalize List.take 64 key++List.replicate (64-key.length) 0=z at *;refine qB 64 (λk=>[(0,.t (qA w)),(4,.sl 8192 0 64),(10,.t (.int .i64 (k:Nat)))]) (λk=>[(8192,.live 1 (((xk w z k).map qA).map V.t) true false),(0,.live 1 [.t (.sl (key.map qA))] true true)]) ?_ (λk hk=>?_)
 .refine qL.rd id ?_ ?_ rfl;all_goals simp(maxSteps:=9^9)(disch:=try exact dS)only[go_sem,id,yFx]
  all_goals rfl
 .have hx:(xk w z k).length=64:=by rw[zVj,hz]
  by_cases hlt:k<64
  .have hg:=jR7 (w:=w) (z:=z) (k:=k) oM;have hs:=jR8 (w:=w) (z:=z) (k:=k) oM;simp(maxSteps:=9^9)(disch:=try exact dS)only[go_sem,hx,hg,hs];refine⟨hlt,qL.rd id ?_ ?_ rfl⟩;all_goals simp(maxSteps:=9^9)(disch:=try exact dS)only[go_sem,id]
   all_goals first|omega|rfl
  .have e:k=64:=oM;subst e;have hn:=yFy (w:=w) hz;have ht:List.take 64 z=z:=take_of_length_le oM;simp(maxSteps:=9^9)(disch:=try exact dS)only[go_sem,hn,hz,ht]
def zBi:Ct where
 α:=UInt8×List UInt8
 aS x:=[.t (qA x.1),.ref 0 0 0]
 ins x:=[.live 1 [.t (.sl (x.2.map qA))] true true]
 pre x:=x.2.length<=64
 r _:= .sl 1 0 64
 outs x:=[.live 1 [.t (.sl (x.2.map qA))] true true,.live 1 (((zG2 x.1 x.2).map qA).map V.t) true false]
 inj:=by
  rintro⟨a,b⟩ ⟨c,d⟩ h h2;simp only[List.cons.injEq,V.t.injEq,qQb,and_true,bsT,Ob.live.injEq,T.sl.injEq,jC,true_and]at h h2;subst h h2;exact⟨rfl,rfl⟩
theorem zSf {w:UInt8}{k:List UInt8}(h:k.length<=64):zBi.fs [.t (qA w),.ref 0 0 0] [.live 1 [.t (.sl (k.map qA))] true true]=some (.sl 1 0 64,[.live 1 [.t (.sl (k.map qA))] true true,.live 1 (((zG2 w k).map qA).map V.t) true false]):=zBi.eq (w,k) h
theorem zVb (h1:LkC tab 124 qE6)(h2:LkC tab 125 zBi)(key b:List UInt8)(hk:key.length<=64)(hb:b.length<500000000) :
  qRy.1.wp tab gl (qD 0 [.t (bsT key),.t (bsT b)]) (qD 0 []) (xO [] [(4,none)] 0 (λr o=>r=.sl 0 0 32/\o=[.live 1 (((zVw key b).map qA).map V.t) true false])):=by
 have m1:=zSf (w:=54) hk;have m2:=zSf (w:=92) hk;have l1:=qW1 (w:=54) hk;have t1:List.take (64+b.length) (zG2 54 key++b)=zG2 54 key++b:=take_of_length_le (by simp[l1]);have l2:=qW1 (w:=92) hk;have t2:∀x,List.take 32 (jF x)=jF x:=λx=>take_of_length_le (by rw[qO];omega)
 have t3:∀x,List.take 96 (zG2 92 key++jF x)=zG2 92 key++jF x:=λx=>take_of_length_le (by rw[length_append,l2,qO];omega)
 have hl:(zG2 54 key++b).length=64+b.length:=by simp[l1]
 have hl2:(zG2 92 key++jF (zG2 54 key++b)).length=96:=by rw[length_append,l2,qO]
 simp(maxSteps:=9^9)(disch:=try exact dS)only[go_sem,qRy,h1,h2,m1,m2,l1,l2,qO,hl,t1,t2,t3,zI,zVw]
def zKu:Ct where
 α:=List UInt8×List UInt8
 aS x:=[.t (.sl (x.1.map qA)),.t (.sl (x.2.map qA))]
 ins _:=[]
 pre x:=x.1.length<=64/\x.2.length<500000000
 r _:= .sl 0 0 32
 outs x:=[.live 1 (((zVw x.1 x.2).map qA).map V.t) true false]
 inj:=by
  rintro⟨a,b⟩ ⟨c,d⟩ h _;simp[jC]at h;obtain⟨rfl,rfl⟩:=h;exact⟨rfl,rfl⟩
theorem jNx {k b:List UInt8}(h:k.length<=64/\b.length<500000000):zKu.fs [.t (.sl (k.map qA)),.t (.sl (b.map qA))] []=some (.sl 0 0 32,[.live 1 (((zVw k b).map qA).map V.t) true false]):=zKu.eq (k,b) h
def qPe (n:Nat):List UInt8:=[UInt8.ofNat (n/16777216),UInt8.ofNat (n/65536),UInt8.ofNat (n/256),UInt8.ofNat n]
theorem qFx {n:Nat}:(qPe n).length=4:=rfl
theorem zO2 (n:Nat):qM3.1.wp tab gl (qD 0 [.t (.int .i64 n)]) (qD 0 []) (xO [] [(2,none)] 0 (λr o=>r=.sl 0 0 4/\o=[.live 1 (((qPe n).map qA).map V.t) true true])):=by
 simp(maxSteps:=9^9)(disch:=try exact dS)only[go_sem,qM3,zUm,qPe,mcn]
def zBh:Ct where
 α:=Nat
 aS x:=[.t (.int .i64 x)]
 ins _:=[]
 pre _:=True
 r _:= .sl 0 0 4
 outs x:=[.live 1 (((qPe x).map qA).map V.t) true true]
 inj:=by
  intro a b h _;simp only[List.cons.injEq,V.t.injEq,T.int.injEq,true_and,and_true,Int.natCast_inj]at h;subst h;exact⟨rfl,rfl⟩
theorem zRk {n:Nat}:zBh.fs [.t (.int .i64 n)] []=some (.sl 0 0 4,[.live 1 (((qPe n).map qA).map V.t) true true]):=zBh.eq n trivial
theorem zHc {nb id n:Nat}{a:List UInt8}:qC1 nb [.sl id 0 n,.t (qMf a)]=Q.get id λx=>match x with
  |.live z' es true full=>Q.assert (z'=1/\es.length=n/\qDy (n+a.length) 1/\100<=id) (.free nb (.ret (.sl nb 0 (n+a.length),[(id,.dead),(nb,.live 1 (es++(a.map qA).map V.t) true false)])))
  |x=>.fail:=by
 have e:∀st:ByteArray,st.size=a.length->(st.data.toList.map λb=>V.t (qA b))=(a.map qA).map V.t->qC1 nb [.sl id 0 n,.t (.str st)]=Q.get id λx=>match x with
  |.live z' es true full=>Q.assert (z'=1/\es.length=n/\qDy (n+a.length) 1/\100<=id) (.free nb (.ret (.sl nb 0 (n+a.length),[(id,.dead),(nb,.live 1 (es++(a.map qA).map V.t) true false)])))
  |x=>.fail:=λst h1 h2=>by
  simp only[qC1,h1,h2];congr 1
 exact e _ (by simp[ByteArray.size]) sM
attribute [go_sem ↓] zHc
def drT (label ctx:List UInt8)(n:Nat):List UInt8:=label++[0]++ctx++qPe (8*n)
def drR (key rest:List UInt8)(k:Nat):List UInt8:=(List.range k).flatMap λi=>zVw key (qPe (i+1)++rest)
def drv (key label ctx:List UInt8)(n:Nat):List UInt8:=(drR key (drT label ctx n) ((n+31)/32)).take n
theorem qR6 {key rest:List UInt8}:∀{k:Nat},(drR key rest k).length=32*k
 |0=>rfl
 |k+1=>by
  have:=qR6 (key:=key) (rest:=rest) (k:=k);simp only[drR]at this⊢;rw[range_succ,flatMap_append,length_append,this];simp[qWo];omega
theorem zW7 {key rest:List UInt8}{k:Nat}:drR key rest (k+1)=drR key rest k++zVw key (qPe (k+1)++rest):=by
 simp[drR,range_succ]
theorem kH {key label ctx:List UInt8}{n:Nat}:(drv key label ctx n).length=n:=by
 rw[drv,length_take,qR6];omega
theorem zGi (h1:LkC tab 100 zBh)(h2:LkC tab 101 zKu)(key label ctx:List UInt8)(n:Nat)(hk:key.length<=64)(hl:label.length<100000000)(hc:ctx.length<100000000)(hn:n<=1024) :
  qD3.1.wp tab gl (qD 0 [.t (.sl (key.map qA)),.t (qMf label),.t (.sl (ctx.map qA)),.t (.int .i64 n)]) (qD 0 []) (qZ [(8,none)] 0 (λr o=>r=.t (.sl ((drv key label ctx n).map qA))/\o=[])):=by
 rcases Nat.eq_zero_or_pos n with rfl|hn0
 .rw[show drv key label ctx 0=[] from rfl];simp(maxSteps:=9^9)(disch:=try exact dS)only[go_sem,qD3]
 have t4:List.take 4 (qPe (8*n))=qPe (8*n):=rfl;have lD:(drT label ctx n).length=label.length+1+ctx.length+4:=by simp[drT,qPe];omega
 simp(maxSteps:=9^9)(disch:=try exact dS)only[go_sem,qD3,h1,h2,zRk,qFx,t4];have hD:label++[0]++ctx++qPe (8*n)=drT label ctx n:=rfl;rw[hD];generalize hr:drT label ctx n=rest at *;have hm:label.length+1+ctx.length+4<300000000:=oM;generalize label.length+1+ctx.length+4=m at *;refine qB ((n+31)/32) (λk=>[(0,.t (.sl (key.map qA))),(3,.t (.int .i64 n)),(9,.sl 20544 0 m),(10,.sl 9000 0 (32*k)),(11,.t (.int .i64 ((k+1:Nat):Int)))]) (λk=>[(9000,.live 1 (((drR key rest k).map qA).map V.t) true false),(20544,.live 1 ((rest.map qA).map V.t) true false)]) ?_ (λk hk'=>?_)
 .refine qL.cv0 (hv:=[(9000,.live 1 [] true false)]) (ho:=[(20544,.live 1 ((rest.map qA).map V.t) true false)]) id ?_ ?_ rfl rfl;all_goals simp(maxSteps:=9^9)(disch:=try exact dS)only[go_sem,id]
  all_goals rfl
 .have hR:=qR6 (key:=key) (rest:=rest) (k:=k);by_cases hlt:32*k<n
  .have t5:List.take m rest=rest:=take_of_length_le oM;have t6:List.take (4+m) (qPe (k+1)++rest)=qPe (k+1)++rest:=take_of_length_le (by rw[length_append,qFx];omega);have hM:=jNx (k:=key) (b:=qPe (k+1)++rest) ⟨hk,by rw[length_append,qFx];omega⟩;simp(maxSteps:=9^9)(disch:=try exact dS)only[go_sem,h1,h2,zRk,qFx,hR,t5,t6,lD,hM,qWo,zRy];refine⟨oM,qL.rd (λj=>if j=9000 then 41072 else j) ?_ ?_ rfl⟩;all_goals simp(maxSteps:=9^9)(disch:=try exact dS)only[go_sem,id,zW7]
   all_goals first|omega|rfl
  .have e:k=(n+31)/32:=oM;subst e;simp(maxSteps:=9^9)(disch:=try exact dS)only[go_sem,hR,drv,hr]
def qTr:Ct where
 α:=List UInt8×List UInt8×List UInt8×Nat
 aS x:=[.t (.sl (x.1.map qA)),.t (qMf x.2.1),.t (.sl (x.2.2.1.map qA)),.t (.int .i64 x.2.2.2)]
 ins _:=[]
 pre x:=x.1.length<=64/\x.2.1.length<100000000/\x.2.2.1.length<100000000/\x.2.2.2<=1024
 r x:= .t (.sl ((drv x.1 x.2.1 x.2.2.1 x.2.2.2).map qA))
 outs _:=[]
 inj:=by
  rintro⟨a,b,c,d⟩ ⟨e,f,g,h⟩ hh _;simp only[List.cons.injEq,V.t.injEq,T.int.injEq,T.sl.injEq,true_and,and_true,jC,zMm,Int.natCast_inj]at hh;obtain⟨rfl,rfl,rfl,rfl⟩:=hh;exact⟨rfl,rfl⟩
theorem zEl {k l c:List UInt8}{n:Nat}(h:k.length<=64/\l.length<100000000/\c.length<100000000/\1<=n/\n<=1024):qTr.fs [.t (.sl (k.map qA)),.t (qMf l),.t (.sl (c.map qA)),.t (.int .i64 n)] []=some (.t (.sl ((drv k l c n).map qA)),[]):=qTr.eq (k,l,c,n) ⟨h.1,h.2.1,h.2.2.1,h.2.2.2.2⟩
theorem zK {b:List UInt8}{a:Nat}{e:Int}:yS (b,a,e)=.live 3 [.t (.agg [.sl (b.map qA),.int .i64 (a:Int),.int .i64 e])] true true:=rfl
theorem wD {s t:Rd}(h:yS s=yS t):s=t:=by
 obtain⟨b,a,e⟩:=s;obtain⟨b',a',e'⟩:=t;simp only[zK,Ob.live.injEq,List.cons.injEq,V.t.injEq,T.agg.injEq,T.sl.injEq,T.int.injEq,jC,Int.natCast_inj]at h;simp only[Prod.mk.injEq];exact⟨h.2.1.1.1,h.2.1.1.2.1.2,h.2.1.1.2.2.1.2⟩
def wS:Ct where
 α:=Rd×Nat×Nat
 aS x:=[.ref 0 0 0,.t (.int .i64 x.2.1),.t (.int .i64 x.2.2)]
 ins x:=[yS x.1]
 pre x:=qG4 x.1/\x.2.1<=x.1.1.length/\x.2.2<=1000000000
 r x:=if x.2.1+x.2.2<=x.1.1.length then .tup [.t (.sl (((x.1.1.drop x.2.1).take x.2.2).map qA)),.t (.int .i64 0)] else .tup [.t (.sl []),.t (.int .i64 2)]
 outs x:=[yS x.1]
 inj:=by
  rintro⟨s,a,b⟩ ⟨t,c,d⟩ h1 h2;simp[Int.natCast_inj]at h1;simp only[List.cons.injEq,and_true]at h2;obtain⟨rfl,rfl⟩:=h1;cases wD h2;exact⟨rfl,rfl⟩
theorem zCw {b:List UInt8}{a p n:Nat}{e:Int}(h:a<=b.length/\b.length<1000000000/\p+n<=b.length):wS.fs [.ref 0 0 0,.t (.int .i64 p),.t (.int .i64 n)] [.live 3 [.t (.agg [.sl (b.map qA),.int .i64 (a:Int),.int .i64 e])] true true] =
  some (.tup [.t (.sl (((b.drop p).take n).map qA)),.t (.int .i64 0)],[.live 3 [.t (.agg [.sl (b.map qA),.int .i64 (a:Int),.int .i64 e])] true true]):=by
 refine(wS.eq ((b,a,e),p,n) ⟨⟨h.1,h.2.1⟩,?_,?_⟩).trans ?_
 .simp only;omega
 .simp only;omega
 .simp only[wS,if_pos h.2.2,zK]
theorem zCv {b:List UInt8}{a p n:Nat}{e:Int}(h:a<=b.length/\b.length<1000000000/\p<=b.length/\n<=1000000000/\b.length<p+n):wS.fs [.ref 0 0 0,.t (.int .i64 p),.t (.int .i64 n)] [.live 3 [.t (.agg [.sl (b.map qA),.int .i64 (a:Int),.int .i64 e])] true true] =
  some (.tup [.t (.sl []),.t (.int .i64 2)],[.live 3 [.t (.agg [.sl (b.map qA),.int .i64 (a:Int),.int .i64 e])] true true]):=by
 refine(wS.eq ((b,a,e),p,n) ⟨⟨h.1,h.2.1⟩,h.2.2.1,h.2.2.2.1⟩).trans ?_;simp only[wS,zK];rw[if_neg oM]
def qR1:Ct where
 α:=Rd×Int
 aS x:=[.ref 0 0 0,.t (.int .i64 x.2)]
 ins x:=[yS x.1]
 pre x:=qG4 x.1
 r x:= .tup []
 outs x:=[yS (x.1.1,x.1.2.1,x.2)]
 inj:=by
  rintro⟨s,a⟩ ⟨t,c⟩ h1 h2;simp at h1;simp only[List.cons.injEq,and_true]at h2;subst h1;cases wD h2;exact⟨rfl,rfl⟩
theorem qPa {b:List UInt8}{a:Nat}{e n:Int}(h:a<=b.length/\b.length<1000000000):qR1.fs [.ref 0 0 0,.t (.int .i64 n)] [.live 3 [.t (.agg [.sl (b.map qA),.int .i64 (a:Int),.int .i64 e])] true true] =
  some (.tup [],[.live 3 [.t (.agg [.sl (b.map qA),.int .i64 (a:Int),.int .i64 n])] true true]):=qR1.eq ((b,a,e),n) h
def beV (bs:List UInt8):Nat:=bs.foldl (λn x=>256*n+x.toNat) 0
theorem zKc {bs:List UInt8}{k:Nat}(h:k<bs.length):beV (bs.take (k+1))=256*beV (bs.take k)+(bs.getD k 0).toNat:=by
 rw[qLr (d:=0) h];simp[beV]
theorem jB8 {bs:List UInt8}:beV bs<256^bs.length:=by
 have:∀(bs:List UInt8)(n:Nat),bs.foldl (λn x=>256*n+x.toNat) n<256^bs.length*(n+1):=by
  intro bs
  induction bs with
  |nil=>intro n;simp
  |cons x r ih=>
   intro n;simp only[foldl_cons,length_cons];have h1:=ih (256*n+x.toNat);have h2:=x.toNat_lt;have h3:256^r.length*(256*n+x.toNat+1)<=256^r.length*(256*(n+1)):=Nat.mul_le_mul_left _ oM;rw[Nat.pow_succ,Nat.mul_assoc];omega
 have:=this bs 0;simpa [beV]using this
theorem zP0 {bs:List UInt8}(h:bs.length<=7):beV bs<72057594037927936:=by
 have h1:=jB8 (bs:=bs);have h2:256^bs.length<=256^7:=Nat.pow_le_pow_right oM h;omega
theorem zP1 {bs:List UInt8}(h:bs.length<=8):beV bs<18446744073709551616:=by
 have h1:=jB8 (bs:=bs);have h2:256^bs.length<=256^8:=Nat.pow_le_pow_right oM h;omega
def qI (s:Rd)(k:Nat):Int×Rd:=
 if s.2.2≠0 then(0,s) else if s.1.length<s.2.1+k then(0,(s.1,s.2.1,2))
 else if 9223372036854775808<=beV ((s.1.drop s.2.1).take k) then(0,(s.1,s.2.1,4)) else(beV ((s.1.drop s.2.1).take k),(s.1,s.2.1+k,0))
def qAj (s:Rd)(k:Nat):List UInt8×Rd:=
 if s.2.2≠0 then([],s) else if s.1.length<s.2.1+k then([],(s.1,s.2.1,2)) else((s.1.drop s.2.1).take k,(s.1,s.2.1+k,0))
def xM (s:Rd):Int:=if s.2.2=0/\s.2.1<s.1.length then 3 else s.2.2
theorem qRs (h1:LkC tab 127 qR1)(h2:LkC tab 128 wS)(s:Rd)(hs:qG4 s)(k:Nat)(hk:1<=k/\k<=8) :
  vE.1.wp tab gl (qD 0 [.ref 0 0 0,.t (.int .i64 k)]) (qD 0 [yS s]) (qZ [(4,none)] 1 (λr o=>r=.t (.int .i64 (qI s k).1)/\o=[yS (qI s k).2])):=by
 obtain⟨b,a,e⟩:=s;have ha:a<=b.length/\b.length<1000000000:=hs;by_cases he:e=0
 .subst he;by_cases hl:b.length<a+k
  .simp(disch:=omega)only[go_sem,vE,zK,h1,h2,zCv,qPa,qI,ne_eq,hl]
  .have hc:(List.take k (List.drop a b)).length=k:=by simp only[length_take,length_drop];omega
   simp(disch:=omega)only[go_sem,vE,zK,h1,h2,zCw];generalize hC:List.take k (List.drop a b)=c at hc⊢;refine qB k (λi=>[(40,.t (.int .i64 i)),(39,.t (.int .i64 k)),(38,.t (.sl (c.map qA))),(7,.t (.int .u64 (beV (c.take i)))),(0,.ref 0 0 0),(1,.t (.int .i64 k))])
    (λ_=>[(0,.live 3 [.t (.agg [.sl (b.map qA),.int .i64 (a:Int),.int .i64 0])] true true)]) ?_ (λi hi=>?_)
   .refine qL.rd id ?_ ?_ rfl;all_goals simp(disch:=omega)only[go_sem,id,beV,foldl_nil]
   .by_cases hlt:i<k
    .have hb:beV (c.take i)<72057594037927936:=zP0 (by rw[length_take];omega);have ht:=zKc (bs:=c) (k:=i) oM;simp(disch:=omega)only[go_sem,hc];refine⟨hlt,qL.rd id ?_ ?_ rfl⟩;all_goals simp(disch:=omega)only[go_sem,id,ht]
    .have e:i=k:=oM;subst e;have ht:List.take i c=c:=take_of_length_le oM;have hb8:beV c<18446744073709551616:=zP1 oM;by_cases hbig:9223372036854775808<=beV c
     .simp(disch:=omega)only[go_sem,hc,ht,h1,qPa,qI,zK,hl,hbig,ne_eq,hC]
     .simp(disch:=omega)only[go_sem,hc,ht,qI,zK,hl,hbig,ne_eq,hC]
 .simp(disch:=omega)only[go_sem,vE,zK,qI,ne_eq,he]
theorem qTo (h1:LkC tab 127 qR1)(h2:LkC tab 128 wS)(s:Rd)(hs:qG4 s)(k:Nat)(hk:k<=1000000000) :
  vT.1.wp tab gl (qD 0 [.ref 0 0 0,.t (.int .i64 k)]) (qD 0 [yS s]) (qZ [(4,none)] 1 (λr o=>r=.t (.sl ((qAj s k).1.map qA))/\o=[yS (qAj s k).2])):=by
 obtain⟨b,a,e⟩:=s;have ha:a<=b.length/\b.length<1000000000:=hs;by_cases he:e=0
 .subst he;by_cases hl:b.length<a+k
  .simp(disch:=omega)only[go_sem,vT,zK,h1,h2,zCv,qPa,qAj,ne_eq,hl]
  .have hc:(List.take k (List.drop a b)).length=k:=by simp only[length_take,length_drop];omega
   have ht:List.take k (List.take k (List.drop a b))=List.take k (List.drop a b):=take_of_length_le oM;simp(disch:=omega)only[go_sem,vT,zK,h1,h2,zCw,qAj,ne_eq,hl,ht]
 .simp(disch:=omega)only[go_sem,vT,zK,qAj,ne_eq,he]
theorem qZx (b:List UInt8)(a:Nat)(e:Int)(k:Nat)(ha:a<=b.length/\b.length<1000000000)(hk:k<=1000000000) :
  yB.1.wp tab gl (qD 0 [.ref 0 0 0,.t (.int .i64 k)]) (qD 0 [yS (b,a,e)]) (qZ [(4,none)] 1 (λr o=>r=.t (.bool (decide (e=0) && !decide (b.length<a+k)))/\o=[yS (b,a,if e=0/\b.length<a+k then 2 else e)])):=by
 by_cases he:e=0
 .subst he;by_cases hl:b.length<a+k
  .simp(disch:=omega)only[go_sem,yB,zK,hl];repeat refine And.intro rfl ?_
   trivial
  .simp(disch:=omega)only[go_sem,yB,zK,hl];repeat refine And.intro rfl ?_
   trivial
 .simp(disch:=omega)only[go_sem,yB,zK,he];repeat refine And.intro rfl ?_
  trivial
end Go.Eng
end
