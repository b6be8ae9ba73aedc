/- A part of an abstract machine, its walks, their tie. -/
import Derived.Test.YtkffggdjdmimgaaGreatDoorA21
import Derived.Test.YtkffggdjdmimgaaGreatDoorA16
import Derived.Test.YtkffggdjdmimgaaGreatDoorA9
import Derived.Test.YtkffggdjdmimgaaGreatDoorA18
set_option linter.all false
section
set_option maxHeartbeats 64000000
set_option maxRecDepth 20000
namespace Go.Eng
open List
variable (tab:Tab) (gl:Gl)
variable {vv:V} {oo:List Ob}
def RZ (bk:List zB):Prop := ∀ a,a<2 → ∀ x∈bk.getD a [],x.length=szA a
theorem zEa {b:zB}{i z:Nat}{y:List UInt8}(h : ∀ x∈b,x.length=z)(hy:y.length=z) : ∀ x∈b.set i y,x.length=z:=by
 intro x hx;rcases mem_or_eq_of_mem_set hx with h1 | rfl
 ·exact h x h1
 ·exact hy
theorem zV8 {y:List UInt8}{b:zB}{z:Nat}(hy:y.length=z)(h : ∀ x∈b,x.length=z) : ∀ k,∀ x∈stN y b k,x.length=z
 | 0=>h
 | k+1=>zEa (zV8 hy h k) hy
theorem RZ.two {b0 b1:zB}(h0 : ∀ x∈b0,x.length=20)(h1 : ∀ x∈b1,x.length=32):RZ [b0,b1]:=by
 intro a ha
 match a,ha with
 | 0,_=>exact h0
 | 1,_=>exact h1
theorem RZ.nil:RZ []:=by
 intro a ha x hx;simp at hx
theorem RZ.ext {bk:List zB}{i:Nat}{ds:List (List UInt8)}(hv:RV bk)(h:RZ bk):RZ (qKd bk i ds):=by
 rcases hv.1.cases with rfl | ⟨b0,b1,rfl,g0,g1⟩
 ·exact RZ.nil
 ·rw[zGn];refine RZ.two ?_ ?_
  ·unfold vX;split
   ·exact zEa (h 0 oM) (qJx (a:=0))
   ·exact h 0 oM
  ·unfold vX;split
   ·exact zEa (h 1 oM) (qJx (a:=1))
   ·exact h 1 oM
theorem RZ.rst {bk:List zB}{i:Nat}(hv:RV bk)(h:RZ bk):RZ (zKs bk i):=by
 rcases hv.1.cases with rfl | ⟨b0,b1,rfl,g0,g1⟩
 ·exact RZ.nil
 ·rw[zVa];refine RZ.two ?_ ?_
  ·unfold qYl;split
   ·exact zEa (h 0 oM) length_replicate
   ·exact h 0 oM
  ·unfold qYl;split
   ·exact zEa (h 1 oM) length_replicate
   ·exact h 1 oM
theorem RZ.res {bk:List zB}(hv:RV bk)(h:RZ bk):RZ (zD0 bk):=by
 rcases hv.1.cases with rfl | ⟨b0,b1,rfl,g0,g1⟩
 ·exact RZ.nil
 ·exact RZ.two (zV8 length_replicate (h 0 oM) 4) (zV8 length_replicate (h 1 oM) 4)
theorem zNu {a:Nat} : ∀ x∈qCf a,x.length=szA a:=by
 intro x hx;unfold qCf at hx;obtain⟨i,_,rfl⟩:=mem_map.1 hx;exact length_replicate
theorem RZ.new {s:Int}:RZ (yV s):=by
 unfold yV;split
 ·exact RZ.nil
 ·refine RZ.two ?_ ?_
  ·split
   ·exact zNu (a:=0)
   ·intro x hx;simp at hx
  ·split
   ·exact zNu (a:=1)
   ·intro x hx;simp at hx
def Shp (s:Int)(bk:List zB):Prop:=bk.length=(yV s).length∧jC0 bk=jC0 (yV s)∧RZ bk
theorem zV0 {s:Int}{bk:List zB}(hv:RV bk)(h:Shp s bk):(bk=[]∧yV (zBq bk)=[]) ∨ ∃ b0 b1 c0 c1:zB,bk=[b0,b1]∧yV (zBq bk)=[c0,c1]∧List.length c0=List.length b0∧List.length c1=List.length b1:=by
 obtain⟨hl,hb,_⟩:=h;rcases hv.1.cases with rfl | ⟨b0,b1,rfl,g0,g1⟩
 ·exact .inl ⟨rfl,rfl⟩
 ·refine .inr ?_;have hs : ¬ s%4=0:=by
   intro e;unfold yV at hl;rw[if_pos e] at hl;simp at hl
  rw[qEn hs] at hb;have e0:List.length b0=List.length (if s%2=1 then qCf 0 else []):=congrFun hb 0;have e1:List.length b1=List.length (if s/2%2=1 then qCf 1 else []):=congrFun hb 1;have n0:=qO (a:=0);have n1:=qO (a:=1);by_cases q0:s%2=1<;>by_cases q1:s/2%2=1
  ·rw[if_pos q0,n0] at e0;rw[if_pos q1,n1] at e1;have ea:zBq [b0,b1]=3:=by show zFs b0 b1=3;unfold zFs;rw[if_pos e0,if_pos e1];rfl
   exact⟨b0,b1,qCf 0,qCf 1,rfl,by rw[ea];rfl,by rw[n0,e0],by rw[n1,e1]⟩
  ·rw[if_pos q0,n0] at e0;rw[if_neg q1] at e1;have ea:zBq [b0,b1]=1:=by show zFs b0 b1=1;unfold zFs;rw[if_pos e0,if_neg (by rw[e1];decide)];rfl
   exact⟨b0,b1,qCf 0,[],rfl,by rw[ea];rfl,by rw[n0,e0],by rw[e1]⟩
  ·rw[if_neg q0] at e0;rw[if_pos q1,n1] at e1;have ea:zBq [b0,b1]=2:=by show zFs b0 b1=2;unfold zFs;rw[if_neg (by rw[e0];decide),if_pos e1];rfl
   exact⟨b0,b1,[],qCf 1,rfl,by rw[ea];rfl,by rw[e0],by rw[n1,e1]⟩
  ·exfalso;omega
theorem qW3 {α:Type}{b p q t:List α}{k:Nat}(hb:b=p++q++t)(hq:q.length=k):List.take k (List.drop p.length b)=q:=by
 subst hb;subst hq;rw[append_assoc,drop_left,take_left]
theorem qR6 {b p q t:List UInt8}{k:Nat}(hb:b=p++q++t)(hq:q.length=k)(hv:beV q<9223372036854775808):qQ (b,p.length,0) k=(((beV q:Nat):Int),(b,p.length+k,0)):=by
 have h1:=qW3 hb hq;have h2:b.length=p.length+k+t.length:=by rw[hb];simp only[length_append,hq]
 unfold qQ;simp only[h1];rw[if_neg sM,if_neg oM,if_neg oM]
theorem zDy {b p q t:List UInt8}{k:Nat}(hb:b=p++q++t)(hq:q.length=k):qDh (b,p.length,0) k=(q,(b,p.length+k,0)):=by
 have h1:=qW3 hb hq;have h2:b.length=p.length+k+t.length:=by rw[hb];simp only[length_append,hq]
 unfold qDh;simp only[h1];rw[if_neg sM,if_neg oM]
theorem zPd {b:List (List UInt8)}{i:Nat}(h:i<b.length):b.flatten=(b.take i).flatten++b.getD i []++(b.drop (i+1)).flatten:=by
 conv=>lhs;rw[←take_append_drop (i+1) b,qEe (d:=[]) h]
 simp
theorem qYg {b p t:List UInt8}{rows:List (List UInt8)}{z:Nat}(hb:b=p++rows.flatten++t)(hz : ∀ x∈rows,x.length=z) : ∀ i,i≤rows.length→jQ (b,p.length,0) z i=(rows.take i,(b,(p++(rows.take i).flatten).length,0))
 | 0,_=>by simp[jQ]
 | i+1,h=>by
  have ih:=qYg hb hz i oM;have hg:(rows.getD i []).length=z:=by
   have e:rows.getD i []=rows[i]:=by simp[List.getD,show i<rows.length by omega]
   rw[e];exact hz _ (getElem_mem _)
  have hb2:b=(p++(rows.take i).flatten)++rows.getD i []++((rows.drop (i+1)).flatten++t):=by
   rw[hb,zPd (i:=i) oM];simp only[append_assoc]
  have hr:=zDy hb2 hg;simp only[jQ,ih,hr];rw[qEe (d:=[]) oM];simp only[flatten_append,flatten_cons,flatten_nil,append_nil,length_append,hg,Nat.add_assoc]
theorem jF2 {l:List UInt8}{x:UInt8}:beV (l++[x])=256*beV l+x.toNat:=by simp[beV]
theorem zRu {size:Nat}{n:Int} : ∀ k,k≤size→beV (beI size n k)=m64 n/2^(8*(size-k))%256^k
 | 0,_=>by simp[beI,beV,Nat.mod_one]
 | k+1,h=>by
  have ih:=zRu (size:=size) (n:=n) k oM;rw[zCy,jF2,ih];have e1:8*(size-k)=8*(size-1-k)+8:=oM;have e2:size-(k+1)=size-1-k:=oM;rw[e1,e2,Nat.pow_add,←Nat.div_div_eq_div_mul];generalize m64 n/2^(8*(size-1-k))=q;have e3:(UInt8.ofNat q).toNat=q%256:=by rw[UInt8.toNat_ofNat']
  have e4:q/2^8=q/256:=rfl;have e5:256^(k+1)=256*256^k:=by rw[Nat.pow_succ,Nat.mul_comm]
  rw[e3,e4,e5,Nat.mod_mul,Nat.add_comm]
theorem qOh {size:Nat}{n:Int}:beV (beI size n size)=m64 n%256^size:=by
 rw[zRu size (Nat.le_refl _)];simp
theorem qR1 {n:Int}(h:0≤n∧n<18446744073709551616):((m64 n:Nat):Int)=n:=by unfold m64;omega
theorem jGg {s u:Int}{bk:List zB}(hv:RV bk)(hs:Shp s bk)(hu:0≤u∧u<9223372036854775808):dcR (qEb bk u) = .tup [.t (zY bk u),.t (.int .i64 0)]:=by
 have hact:=zRn hv.1;obtain⟨m,hm⟩:=Int.eq_ofNat_of_zero_le hact.1;have hm4:m<4:=oM;have hE:qEb bk u=[UInt8.ofNat m]++beI 8 u 8++bk.flatten.flatten:=by unfold qEb zRd;rw[hm];rfl
 have v1:beV [UInt8.ofNat m]=m:=by
  rcases (show m=0∨m=1∨m=2∨m=3 by omega) with rfl | rfl | rfl | rfl<;>rfl
 have v8:((beV (beI 8 u 8):Nat):Int)=u:=by
  rw[qOh];have:=qR1 (n:=u) oM;have e:(256:Nat)^8=18446744073709551616:=by decide
  rw[e];omega
 have h1:qQ (qEb bk u,0,0) 1=(((m:Nat):Int),(qEb bk u,1,0)):=by
  have:=qR6 (b:=qEb bk u) (p:=[]) (q:=[UInt8.ofNat m]) (t:=beI 8 u 8++bk.flatten.flatten) (k:=1) (by rw[hE];simp) rfl (by rw[v1];omega);rw[v1] at this;exact this
 have h2:qQ (qEb bk u,1,0) 8=(u,(qEb bk u,9,0)):=by
  have:=qR6 (b:=qEb bk u) (p:=[UInt8.ofNat m]) (q:=beI 8 u 8) (t:=bk.flatten.flatten) (k:=8) hE qTg oM;rw[v8] at this;exact this
 have hset:qTm (qEb bk u,0,0)=zBq bk:=by unfold qTm;rw[h1,hm]
 have hU:dcU (qEb bk u,0,0)=u:=by unfold dcU;rw[h1];simp only;rw[h2]
 have hbad : ¬ ((qQ (qEb bk u,0,0) 1).2.2.2=0∧4≤qTm (qEb bk u,0,0)):=by rw[hset];omega
 have hend : ∀ b:List UInt8,kF (b,b.length,0)=0:=fun b=>by unfold kF;rw[if_neg sM]
 rcases zV0 hv hs with⟨rfl,hn⟩ | ⟨b0,b1,c0,c1,rfl,hn,l0,l1⟩
 ·have hB:dcB (qEb [] u,0,0)=([],(qEb [] u,(qEb [] u).length,0)):=by
   unfold dcB;rw[hset,hn,h1];simp only;rw[h2];have e:(qEb [] u).length=9:=by unfold qEb;simp[qRr]
   rw[e];rfl
  rw[zM4 hbad hB hU,hend,if_neg sM]
 ·have hz:=hs.2.2;have z0 : ∀ x∈b0,x.length=20:=hz 0 oM;have z1 : ∀ x∈b1,x.length=32:=hz 1 oM;have hE2:qEb [b0,b1] u=zRd [b0,b1] u++b0.flatten++b1.flatten:=by unfold qEb;simp
  have r0:=qYg (b:=qEb [b0,b1] u) (p:=zRd [b0,b1] u) (t:=b1.flatten) hE2 z0 (List.length b0) (Nat.le_refl _);rw[take_length,qRr] at r0;have r1:=qYg (b:=qEb [b0,b1] u) (p:=zRd [b0,b1] u++b0.flatten) (t:=[]) (by rw[hE2];simp) z1 (List.length b1) (Nat.le_refl _);rw[take_length] at r1;have hB:dcB (qEb [b0,b1] u,0,0)=([b0,b1],(qEb [b0,b1] u,(qEb [b0,b1] u).length,0)):=by
   unfold dcB;rw[hset,hn,h1];simp only;rw[h2];have hLen:(qEb [b0,b1] u).length=(zRd [b0,b1] u++List.flatten b0++List.flatten b1).length:=by rw[←hE2]
   simp only[zM5,l0,l1,r0,r1,hLen]
  rw[zM4 hbad hB hU,hend,if_neg sM]
def zC5:Ct where
 α:=List zB×Int
 aS x:=[.t (zY x.1 x.2)]
 ins _:=[]
 pre x:=RV x.1
 r x:= .sl 0 0 (qEb x.1 x.2).length
 outs x:=[.live 1 (((qEb x.1 x.2).map qA).map V.t) true false]
 inj:=by
  rintro⟨a,u⟩ ⟨b,v⟩ h _;simp only[List.cons.injEq,V.t.injEq,and_true] at h;obtain⟨rfl,rfl⟩:=qA0 h;exact⟨rfl,rfl⟩
theorem jGo {bk:List zB}{u:Int}(h:RV bk):zC5.fs [.t (.agg [.sl (bk.map vS),.int .i64 u])] []=some (.sl 0 0 (qEb bk u).length,[.live 1 (((qEb bk u).map qA).map V.t) true false]):=zC5.eq (bk,u) h
def zC3:Ct where
 α:=List UInt8
 aS x:=[.t (.sl (x.map qA))]
 ins _:=[]
 pre x:=x.length<1000000000
 r x:=dcR x
 outs _:=[]
 inj:=by
  intro a b h _;simp only[List.cons.injEq,V.t.injEq,T.sl.injEq,and_true,zN] at h;subst h;exact⟨rfl,rfl⟩
theorem qYf {s:Rd}{z:Nat} : ∀ n,∀ x∈(jQ s z n).1,x.length≤z
 | 0=>by intro x hx;simp[jQ] at hx
 | n+1=>by
  intro x hx;simp only[jQ,mem_append,mem_singleton] at hx;rcases hx with hx | rfl
  ·exact qYf n x hx
  ·exact jAf
theorem qRp {b:List UInt8} : ∃ bk u e,dcR b = .tup [.t (.agg [.sl (bk.map vS),.int .i64 u]),.t (.int .i64 e)]∧RV bk:=by
 have hnil:RV []:=⟨.nil,sM⟩;unfold dcR;simp only;split
 ·exact⟨[],0,1,rfl,hnil⟩
 ·split
  ·exact⟨[],0,_,rfl,hnil⟩
  ·refine⟨_,_,0,rfl,?_⟩;unfold dcB zM5;split
   ·rename_i b0 b1 h;have hn:=zNv (s:=qTm (b,0,0));rw[h] at hn;rcases hn.cases with h | ⟨c0,c1,h,g0,g1,_,_⟩
    ·simp at h
    ·obtain⟨rfl,rfl⟩:b0=c0∧b1=c1:=by simpa using h
     refine RV.of2 (qGc g0 (yP _)) (qGc g1 (yP _)) ?_ ?_
     ·intro x hx;have:=qYf _ x hx;omega
     ·intro x hx;have:=qYf _ x hx;omega
   ·exact hnil
theorem zIy (x:kP.α)(hx:kP.pre x):yO.1.wp tab gl (qE 0 (kP.aS x)) (qE 0 (kP.ins x)) (qV [(6,none),(7,none)] (kP.ins x).length (fun r o=>r=kP.r x∧o=kP.outs x)):=by
 obtain⟨⟨b,a,e⟩,p,n⟩:=x;obtain⟨h1,h2,h3⟩:=hx;simp only[qEo] at h1 h2 h3;by_cases h:p+n≤b.length
 ·have hr:kP.r ((b,a,e),p,n) = .tup [.t (.sl (((b.drop p).take n).map qA)),.t (.int .i64 0)]:=if_pos h;rw[hr];exact zL3 tab gl (b,a,e) h1 p n h
 ·have hr:kP.r ((b,a,e),p,n) = .tup [.t (.sl []),.t (.int .i64 2)]:=if_neg h;rw[hr];show yO.1.wp tab gl (qE 0 [.ref 0 0 0,.t (.int .i64 p),.t (.int .i64 n)]) (qE 0 [vD (b,a,e)]) (qV [(6,none),(7,none)] 1 (fun r o=>r = .tup [.t (.sl []),.t (.int .i64 2)]∧o=[vD (b,a,e)]));simp(disch:=omega)only[go_sem,yO,vD,rdT]
theorem zIv (x:qAl.α)(hx:qAl.pre x):yL.1.wp tab gl (qE 0 (qAl.aS x)) (qE 0 (qAl.ins x)) (qV [(4,none)] (qAl.ins x).length (fun r o=>r=qAl.r x∧o=qAl.outs x)):=
 zBe tab gl x.1.1 x.1.2.1 x.1.2.2 x.2 hx.1 hx.2
abbrev Ev:=Int×Int×List (List UInt8)×List UInt8
def evM (e:Ev):Prop:=zT3 e.2.2.1∧e.2.2.2.length<1000000000
def yB1 (r k act:Int):Prop:=act<1∨3<act∨r<0∨11<r∨k<1∨5<k
instance {r k act:Int}:Decidable (yB1 r k act):=by unfold yB1;infer_instance
def okC (c:UInt8):Bool := !decide (c.toNat<32) && !decide (c.toNat>126)
def blL (b x:List UInt8):List UInt8:=b++beI 2 (x.length:Int) 2++x
theorem yB {b x:List UInt8}:(blL b x).length=b.length+2+x.length:=by unfold blL;rw[length_append,length_append,qU]
def qFo:Ct where
 α:=List UInt8×List UInt8
 aS x:=[.t (.sl (x.1.map qA)),.t (.sl (x.2.map qA))]
 ins _:=[]
 pre x:=x.1.length<100000000∧x.2.length≤65535
 r x:= .sl 0 0 (x.1.length+2+x.2.length)
 outs x:=[.live 1 (((blL x.1 x.2).map qA).map V.t) true false]
 inj:=by
  rintro⟨a,b⟩ ⟨c,d⟩ h _;simp only[List.cons.injEq,V.t.injEq,T.sl.injEq,and_true,zN] at h;obtain⟨rfl,rfl⟩:=h;exact⟨rfl,rfl⟩
theorem qAk {b x:List UInt8}(h:b.length<100000000∧x.length≤65535):qFo.fs [.t (.sl (b.map qA)),.t (.sl (x.map qA))] []=some (.sl 0 0 (b.length+2+x.length),[.live 1 (((blL b x).map qA).map V.t) true false]):=qFo.eq (b,x) h
theorem zL0 (h1:LkC tab 98 vB)(b x:List UInt8)(hb:b.length<100000000)(hx:x.length≤65535) :
  qK7.1.wp tab gl (qE 0 [.t (.sl (b.map qA)),.t (.sl (x.map qA))]) (qE 0 []) (kG [] [(4,none)] 0 (fun r o=>r = .sl 0 0 (b.length+2+x.length)∧o=[.live 1 (((blL b x).map qA).map V.t) true false])):=by
 have hu:=qM2 (b:=b) (n:=(x.length:Int)) oM;have hl:(b++beI 2 (x.length:Int) 2).length=b.length+2:=by rw[length_append,qU]
 have hbl:blL b x=b++beI 2 (x.length:Int) 2++x:=rfl;have hno : ¬ 65535<(x.length:Int):=oM;rw[hbl];generalize b++beI 2 (x.length:Int) 2=B at *;simp(disch:=omega)only[go_sem,qK7,h1,hu,hl,hno,take_length]
theorem zLu (h1:LkC tab 31 vB)(b x:List UInt8)(hb:b.length<100000000)(hx:x.length≤65535) :
  qKu.1.wp tab gl (qE 0 [.t (.sl (b.map qA)),.t (.sl (x.map qA))]) (qE 0 []) (kG [] [(4,none)] 0 (fun r o=>r = .sl 0 0 (b.length+2+x.length)∧o=[.live 1 (((blL b x).map qA).map V.t) true false])):=by
 have hu:=qM2 (b:=b) (n:=(x.length:Int)) oM;have hl:(b++beI 2 (x.length:Int) 2).length=b.length+2:=by rw[length_append,qU]
 have hbl:blL b x=b++beI 2 (x.length:Int) 2++x:=rfl;have hno : ¬ 65535<(x.length:Int):=oM;rw[hbl];generalize b++beI 2 (x.length:Int) 2=B at *;simp(disch:=omega)only[go_sem,qKu,h1,hu,hl,hno,take_length]
def jRe (r k:Int)(n m:Nat):Prop:=r<0∨11<r∨k<1∨5<k∨n≠2∨64<m
instance {r k:Int}{n m:Nat}:Decidable (jRe r k n m):=by unfold jRe;infer_instance
theorem jBt {a:Nat}{k':IntKind}(h:a<1000000):qNf .shl .i64 (a:Int) k' 8=some (.int .i64 ((256*a:Nat):Int)):=by
 change (if (8:Int)<0 then none else some (T.int .i64 (IntKind.i64.wrap ((a:Int)*2^min (8:Int).toNat 64))))=_;rw[if_neg oM,show (a:Int)*2^min (8:Int).toNat 64=((256*a:Nat):Int) by
  rw[show min (8:Int).toNat 64=8 from rfl];omega,qC5 oM]
theorem jHn {a:Nat}{x:UInt8}(h:a<1000000):qNf .or .i64 ((256*a:Nat):Int) .i64 (x.toNat:Int)=some (.int .i64 ((256*a+x.toNat:Nat):Int)):=by
 have hx:=x.toNat_lt;change some (T.int .i64 (IntKind.i64.wrap ((BitVec.ofInt 64 ((256*a:Nat):Int) ||| BitVec.ofInt 64 (x.toNat:Int)).toNat:Int)))=_;have e:(BitVec.ofInt 64 ((256*a:Nat):Int) ||| BitVec.ofInt 64 (x.toNat:Int)).toNat=256*a+x.toNat:=by
  rw[BitVec.toNat_or,BitVec.toNat_ofInt,BitVec.toNat_ofInt,Int.emod_eq_of_lt oM oM,Int.emod_eq_of_lt oM oM,Int.toNat_natCast,Int.toNat_natCast,or8 oM]
 rw[e,qC5 oM]
attribute [go_sem ↓] jBt jHn
def zF (s:Rd)(most:Nat):List UInt8×Rd:=
 if s.2.2≠0 then ([],s) else if s.1.length<s.2.1+2 then ([],(s.1,s.2.1,2))
 else if most<beV ((s.1.drop s.2.1).take 2) then ([],(s.1,s.2.1,4))
 else if s.1.length<s.2.1+2+beV ((s.1.drop s.2.1).take 2) then ([],(s.1,s.2.1,2))
 else ((s.1.drop (s.2.1+2)).take (beV ((s.1.drop s.2.1).take 2)),(s.1,s.2.1+2+beV ((s.1.drop s.2.1).take 2),0))
def qGd:Ct where
 α:=Rd×Nat
 aS x:=[.ref 0 0 0,.t (.int .i64 x.2)]
 ins x:=[vD x.1]
 pre x:=qEo x.1∧x.2≤65535
 r x:= .t (.sl ((zF x.1 x.2).1.map qA))
 outs x:=[vD (zF x.1 x.2).2]
 inj:=by
  rintro⟨s,a⟩ ⟨t,c⟩ h1 h2;simp only[List.cons.injEq,V.t.injEq,T.int.injEq,true_and,and_true,Int.natCast_inj] at h1;simp only[List.cons.injEq,and_true] at h2;subst h1;cases kC h2;exact⟨rfl,rfl⟩
theorem qGg {s:Rd}{k:Nat}(h:qEo s∧k≤65535):qGd.fs [.ref 0 0 0,.t (.int .i64 k)] [rdO s]=some (.t (.sl ((zF s k).1.map qA)),[rdO (zF s k).2]):=qGd.eq (s,k) h
theorem jPx {b:List UInt8}{a:Nat}(h:a+2≤b.length):List.take 2 (List.drop a b)=[b.getD a 0,b.getD (a+1) 0]:=by
 have e:List.drop a b=b[a]'(oM)::b[a+1]'(oM)::List.drop (a+2) b:=by
  rw[drop_eq_getElem_cons oM,drop_eq_getElem_cons oM]
 have g0:b.getD a 0=b[a]'(oM):=by simp[List.getD,show a<b.length by omega]
 have g1:b.getD (a+1) 0=b[a+1]'(oM):=by simp[List.getD,show a+1<b.length by omega]
 rw[e,g0,g1];rfl
theorem yB3 {x y:UInt8}:beV [x,y]=256*x.toNat+y.toNat:=by simp[beV]
theorem zUq {s:Rd}{k:Nat}:(zF s k).1.length≤k:=by
 unfold zF;split
 ·simp
 ·split
  ·simp
  ·split
   ·simp
   ·split
    ·simp
    ·simp only[length_take];omega
theorem zUr {s:Rd}{k:Nat}(h:qEo s):qEo (zF s k).2:=by
 unfold zF;unfold qEo at *;split
 ·exact h
 ·split
  ·exact h
  ·split
   ·exact h
   ·split
    ·exact h
    ·exact⟨by simp only;omega,h.2⟩
theorem qS5 (h1:LkC tab 161 kP)(h2:LkC tab 160 qTh)(s:Rd)(hs:qEo s)(k:Nat)(hk:k≤65535) :
  jU.1.wp tab gl (qE 0 [.ref 0 0 0,.t (.int .i64 k)]) (qE 0 [vD s]) (qV [(4,none)] 1 (fun r o=>r = .t (.sl ((zF s k).1.map qA))∧o=[vD (zF s k).2])):=by
 obtain⟨b,a,e⟩:=s;have ha:a≤b.length∧b.length<1000000000:=hs;by_cases he:e=0
 ·subst he;by_cases hl:b.length<a+2
  ·have hr:zF (b,a,0) k=([],(b,a,2)):=by unfold zF;simp[hl]
   rw[hr];have ht:=zEd (b:=b) (a:=a) (p:=a) (n:=2) (e:=0) ⟨ha.1,ha.2,ha.1,oM,oM⟩;have k2:((2:Nat):Int)=2:=rfl;rw[k2] at ht;simp(disch:=omega)only[go_sem,jU,zL,h1,h2,ht,qQg,map_nil]
  ·have t2:=jPx (b:=b) (a:=a) oM;have ht:=zEe (b:=b) (a:=a) (p:=a) (n:=2) (e:=0) ⟨ha.1,ha.2,oM⟩;have k2:((2:Nat):Int)=2:=rfl;rw[k2,t2] at ht;have hb:=yB3 (x:=b.getD a 0) (y:=b.getD (a+1) 0);have hx:=(b.getD a 0).toNat_lt;have hy:=(b.getD (a+1) 0).toNat_lt;have hr:zF (b,a,0) k=if k<256*(b.getD a 0).toNat+(b.getD (a+1) 0).toNat then ([],(b,a,4)) else if b.length<a+2+(256*(b.getD a 0).toNat+(b.getD (a+1) 0).toNat) then ([],(b,a,2)) else ((b.drop (a+2)).take (256*(b.getD a 0).toNat+(b.getD (a+1) 0).toNat),(b,a+2+(256*(b.getD a 0).toNat+(b.getD (a+1) 0).toNat),0)):=by
    unfold zF;simp only[t2,hb];rw[if_neg sM,if_neg hl]
   rw[hr];simp only[mcn] at ht;by_cases c1:k<256*(b.getD a 0).toNat+(b.getD (a+1) 0).toNat
   ·rw[if_pos c1];simp(disch:=omega)only[go_sem,jU,zL,h1,h2,ht,qQg,c1,map_nil];rfl
   ·rw[if_neg c1];have hn:((b.getD a 0).toNat<256)∧(b.getD (a+1) 0).toNat<256:=⟨hx,hy⟩;generalize hN:256*(b.getD a 0).toNat+(b.getD (a+1) 0).toNat=N at *;have hN2:N≤65535:=oM;by_cases c2:b.length<a+2+N
    ·rw[if_pos c2];have ht2:=zEd (b:=b) (a:=a) (p:=a+2) (n:=N) (e:=0) ⟨ha.1,ha.2,oM,oM,c2⟩;simp(disch:=omega)only[go_sem,jU,zL,h1,h2,ht,hN,ht2,qQg,c1,map_nil];rfl
    ·rw[if_neg c2];have ht2:=zEe (b:=b) (a:=a) (p:=a+2) (n:=N) (e:=0) ⟨ha.1,ha.2,oM⟩;have hc:(List.take N (List.drop (a+2) b)).length=N:=by simp only[length_take,length_drop];omega
     have tt:List.take N (List.take N (List.drop (a+2) b))=List.take N (List.drop (a+2) b):=take_of_length_le oM;simp(disch:=omega)only[go_sem,jU,zL,h1,h2,ht,hN,ht2,qQg,c1,hc,tt];exact⟨rfl,oM⟩
 ·have hr:zF (b,a,e) k=([],(b,a,e)):=by unfold zF;rw[if_pos he]
  rw[hr];simp(disch:=omega)only[go_sem,jU,zL,ne_eq,he,map_nil]
theorem qSw (h1:LkC tab 118 qAl)(s:Rd)(hs:qEo s)(k:Nat)(hk:k≤65535) :
  jT.1.wp tab gl (qE 0 [.ref 0 0 0,.t (.int .i64 k)]) (qE 0 [vD s]) (qV [(4,none)] 1 (fun r o=>r = .t (.sl ((zF s k).1.map qA))∧o=[vD (zF s k).2])):=by
 obtain⟨b,a,e⟩:=s;have ha:a≤b.length∧b.length<1000000000:=hs;by_cases he:e=0
 ·subst he;by_cases hl:b.length<a+2
  ·have hr:zF (b,a,0) k=([],(b,a,2)):=by unfold zF;simp[hl]
   rw[hr];have ht:=zKj (b:=b) (a:=a) (k:=2) ⟨ha.1,ha.2,oM,oM⟩;have k2:((2:Nat):Int)=2:=rfl;rw[k2] at ht;simp(disch:=omega)only[go_sem,jT,zL,h1,ht,map_nil]
  ·have t2:=jPx (b:=b) (a:=a) oM;have ht:=zKk (b:=b) (a:=a) (k:=2) ⟨ha.1,ha.2,oM⟩;have k2:((2:Nat):Int)=2:=rfl;rw[k2] at ht;have hb:=yB3 (x:=b.getD a 0) (y:=b.getD (a+1) 0);have hx:=(b.getD a 0).toNat_lt;have hy:=(b.getD (a+1) 0).toNat_lt;have hr:zF (b,a,0) k=if k<256*(b.getD a 0).toNat+(b.getD (a+1) 0).toNat then ([],(b,a,4)) else if b.length<a+2+(256*(b.getD a 0).toNat+(b.getD (a+1) 0).toNat) then ([],(b,a,2)) else ((b.drop (a+2)).take (256*(b.getD a 0).toNat+(b.getD (a+1) 0).toNat),(b,a+2+(256*(b.getD a 0).toNat+(b.getD (a+1) 0).toNat),0)):=by
    unfold zF;simp only[t2,hb];rw[if_neg sM,if_neg hl]
   rw[hr];have hn:((b.getD a 0).toNat<256)∧(b.getD (a+1) 0).toNat<256:=⟨hx,hy⟩;generalize hN:256*(b.getD a 0).toNat+(b.getD (a+1) 0).toNat=N at *;have hN2:N≤65535:=oM;by_cases c1:k<N
   ·rw[if_pos c1];simp(disch:=omega)only[go_sem,jT,zL,h1,ht,hN,c1,map_nil];rfl
   ·rw[if_neg c1];by_cases c2:b.length<a+2+N
    ·rw[if_pos c2];have ht2:=zKj (b:=b) (a:=a) (k:=2+N) ⟨ha.1,ha.2,oM,oM⟩;simp(disch:=omega)only[go_sem,jT,zL,h1,ht,hN,ht2,c1,map_nil];rfl
    ·rw[if_neg c2];have ht2:=zKk (b:=b) (a:=a) (k:=2+N) ⟨ha.1,ha.2,oM⟩;have hc:(List.take N (List.drop (a+2) b)).length=N:=by simp only[length_take,length_drop];omega
     have tt:List.take N (List.take N (List.drop (a+2) b))=List.take N (List.drop (a+2) b):=take_of_length_le oM;have e1:a+(2+N)-N=a+2:=oM;have e2:a+(2+N)-(a+2)=N:=oM;have e3:a+2+N=a+(2+N):=oM;rw[e3];simp(disch:=omega)only[go_sem,jT,zL,h1,ht,hN,ht2,c1,e1,e2,hc,tt];exact⟨rfl,rfl⟩
 ·have hr:zF (b,a,e) k=([],(b,a,e)):=by unfold zF;rw[if_pos he]
  rw[hr];simp(disch:=omega)only[go_sem,jT,zL,ne_eq,he,map_nil]
abbrev Cd:=List UInt8×Nat
def nx (c:Cd)(n:Nat):Nat×Cd:=if c.1.length≤c.2 then (0,c) else ((c.1.getD c.2 0).toNat%n,(c.1,c.2+1))
theorem qR5 {b p x t:List UInt8}{most:Nat}(hb:b=p++beI 2 (x.length:Int) 2++x++t)(hx:x.length≤most)(hm:most≤65535):zF (b,p.length,0) most=(x,(b,p.length+2+x.length,0)):=by
 have hlen:b.length=p.length+2+x.length+t.length:=by rw[hb];simp only[length_append,qU]
 have h1:List.take 2 (List.drop p.length b)=beI 2 (x.length:Int) 2:=qW3 (t:=x++t) (by rw[hb];simp only[append_assoc]) qU;have h2:beV (beI 2 (x.length:Int) 2)=x.length:=by
  rw[qOh];have e:(256:Nat)^2=65536:=by decide
  have:=qR1 (n:=(x.length:Int)) oM;rw[e];omega
 have h3:List.take x.length (List.drop (p.length+2) b)=x:=by
  have:=qW3 (b:=b) (p:=p++beI 2 (x.length:Int) 2) (q:=x) (t:=t) (k:=x.length) hb rfl;rw[length_append,qU] at this;exact this
 unfold zF;simp only[h1,h2];rw[if_neg sM,if_neg oM,if_neg oM,if_neg oM,h3]
theorem zF2 {a b:UInt8}:qKb .and (qA a) (qA b)=some (qA (a &&& b)):=by
 change some (T.int .u8 (IntKind.u8.wrap ((BitVec.ofInt 8 (a.toNat:Int) &&& BitVec.ofInt 8 (b.toNat:Int)).toNat:Int)))=_;have e : ∀ x:UInt8,BitVec.ofInt 8 (x.toNat:Int)=x.toBitVec:=fun x=>BitVec.eq_of_toNat_eq sM
 rw[e,e,←UInt8.toBitVec_and,qRf];have:=(a &&& b).toNat_lt;unfold qA;rw[UInt8.toNat_toBitVec];congr 2;omega
theorem zRx {a b:UInt8}(h:b.toNat≠0):qKb .rem (qA a) (qA b)=some (qA (a%b)):=by
 have h2:(b.toNat:Int)≠0:=oM;change (if IntKind.u8=IntKind.u8∧(b.toNat:Int)≠0 then some (T.int .u8 ((a.toNat:Int).tmod (b.toNat:Int))) else none)=_;rw[if_pos ⟨rfl,h2⟩];have e:(a.toNat:Int).tmod (b.toNat:Int)=((a%b).toNat:Int):=by rw[UInt8.toNat_mod];rfl
 rw[e];rfl
def rI (n:Int):Prop := -9223372036854775808≤n∧n<9223372036854775808
def evX (e:Ev):Prop:=e.2.2.1.length≤9223372036854775807∧(∀ x∈e.2.2.1,x.length≤9223372036854775807)∧e.2.2.2.length≤9223372036854775807
abbrev Im:=Int×List UInt8×Int×List UInt8
def imM (x:Im):Prop:=x.2.1.length≤9223372036854775807∧x.2.2.2.length<1000000000∧rI x.1∧rI x.2.2.1
def imX (x:Im):Prop:=rI x.1∧rI x.2.2.1∧x.2.1.length≤9223372036854775807∧x.2.2.2.length≤9223372036854775807
theorem imM.x {x:Im}(h:imM x):imX x:=⟨h.2.2.1,h.2.2.2,h.1,by have:=h.2.1;omega⟩
def okN (c:UInt8):Bool:=(!decide (c.toNat<97) && !decide (c.toNat>122))||((!decide (c.toNat<48) && !decide (c.toNat>57))||decide (c=45))
def jUa (s:List UInt8):Bool:=(!decide (s.length<1) && !decide (12<s.length))&&s.all okN
def lnS (out:List (List UInt8))(line:List UInt8):List UInt8→List (List UInt8)
 | []=>if 0<line.length then [] else out
 | c::r=>if c=10 then (if line.length=0∨4≤out.length then [] else lnS (out++[line]) [] r) else if okC c=true then lnS out (line++[c]) r else []
def lnL (p:List UInt8):List (List UInt8):=lnS [] [] p
def jSy (r v:Int):Prop:=r<1∨4<r∨v<0∨1000000<v
instance {r v:Int}:Decidable (jSy r v):=by unfold jSy;infer_instance
def jS9 (x:Im):Int:=if jSy x.1 x.2.2.1 then 1 else if jUa x.2.1=false then 43 else if 64<x.2.2.2.length then 4 else if x.1=4∧(lnL x.2.2.2).length=0 then 40 else 0
def chF (pre:List Im):List Im→Int
 | []=>if pre.any (fun y=>decide (y.1=1))&&pre.any (fun y=>decide (y.1=3)) then 0 else 40
 | x::r=>if jS9 x≠0 then jS9 x else if pre≠[]∧x.1<(pre.getLastD (0,[],0,[])).1 then 41 else if pre.any (fun y=>decide (y.1=x.1)&&decide (y.2.1=x.2.1)) then 42 else chF (pre++[x]) r
def chP (l:List Im):Prop := ∀ r,chF [] (l++r)=chF l r
structure ChO (r:Int) (l:List Im):Prop where
 p:chP l
 ok : ∀ x∈l,jS9 x=0
 le : ∀ x∈l,x.1≤r
theorem ChO.up {r q:Int}{l:List Im}(h:ChO r l)(hq:r≤q):ChO q l:=⟨h.p,h.ok,fun x hx=>by have:=h.le x hx;omega⟩
theorem evM.x {e:Ev}(h:evM e):evX e:=⟨by have:=h.1.1;omega,fun x hx=>by have:=h.1.2 x hx;omega,by have:=h.2;omega⟩
abbrev Rg:=List zB×Int
def rpS (x:Rg)(e:Ev):Rg:=if e.2.1=5 then x else jGr x 0 e.1 e.2.2.1
def rp0 (act:Int):Rg:=(yV act,0)
def ShA (act:Int)(bk:List zB):Prop := ∃ b0 b1:zB,bk=[b0,b1]∧List.length b0=(if act%2=1 then 16 else 0)∧List.length b1=(if act/2%2=1 then 16 else 0)∧(∀ x∈b0,x.length=20) ∧ ∀ x∈b1,x.length=32
theorem ShA.new {act:Int}(ha:1≤act∧act≤3):ShA act (yV act):=by
 have h:yV act=[if act%2=1 then qCf 0 else [],if act/2%2=1 then qCf 1 else []]:=qEn oM;refine⟨_,_,h,?_,?_,fun x hx=>?_,fun x hx=>?_⟩
 ·split
  ·exact qO
  ·rfl
 ·split
  ·exact qO
  ·rfl
 ·split at hx
  ·exact zNu (a:=0) x hx
  ·simp at hx
 ·split at hx
  ·exact zNu (a:=1) x hx
  ·simp at hx
theorem ShA.rv {act:Int}{bk:List zB}(h:ShA act bk):RV bk:=by
 obtain⟨b0,b1,rfl,h0,h1,z0,z1⟩:=h;refine⟨.two _ _ ?_ ?_,fun b hb x hx=>?_⟩
 ·split at h0
  ·exact .inr h0
  ·exact .inl h0
 ·split at h1
  ·exact .inr h1
  ·exact .inl h1
 ·simp only[mem_cons,not_mem_nil,or_false] at hb;rcases hb with rfl | rfl
  ·have:=z0 x hx;omega
  ·have:=z1 x hx;omega
theorem ShA.ext {act:Int}{bk:List zB}(h:ShA act bk)(i:Nat)(ds:List (List UInt8)):ShA act (qKd bk i ds):=by
 obtain⟨b0,b1,rfl,h0,h1,z0,z1⟩:=h;rw[zGn];refine⟨_,_,rfl,qK.trans h0,qK.trans h1,?_,?_⟩
 ·unfold vX;split
  ·exact zEa z0 (qJx (a:=0))
  ·exact z0
 ·unfold vX;split
  ·exact zEa z1 (qJx (a:=1))
  ·exact z1
def RQ (act:Int)(n:Nat)(x:Rg):Prop:=ShA act x.1∧0≤x.2∧x.2≤n
theorem RQ.zero {act:Int}(ha:1≤act∧act≤3):RQ act 0 (rp0 act):=⟨ShA.new ha,by simp[rp0],by simp[rp0]⟩
theorem RQ.up {act:Int}{n m:Nat}{x:Rg}(h:RQ act n x)(hm:n≤m):RQ act m x:=⟨h.1,h.2.1,by have:=h.2.2;omega⟩
theorem RQ.ext {act:Int}{n:Nat}{x:Rg}(h:RQ act n x)(l i:Int)(ds:List (List UInt8)):RQ act (n+1) (jGr x l i ds):=by
 unfold jGr;split
 ·exact⟨h.1.ext _ _,by have:=h.2.1;simp only;omega,by have:=h.2.2;simp only;omega⟩
 ·exact h.up oM
theorem RQ.step {act:Int}{n:Nat}{x:Rg}{e:Ev}(h:RQ act n x):RQ act (n+1) (rpS x e):=by
 unfold rpS;split
 ·exact h.up oM
 ·exact h.ext _ _ _
structure Pu where
 kd:Int
 ar:Int
 ht:Int
 po:List UInt8
 un:List UInt8
 deriving Inhabited
structure Sn where
 au:List UInt8
 sd:List UInt8
 da:List UInt8
 deriving Inhabited
structure Obj where
 p:Pu
 s:Sn
 h:Int
 deriving Inhabited
structure Ses where
 kd:Int
 no:List UInt8
 dg:List UInt8
 up:Int
 lo:Int
 cm:Int
 dl:Int
 av:Bool
 deriving Inhabited
structure Ix where
 n:Int
 kd:Int
 ar:Int
 sz:Int
 po:List UInt8
 au:List UInt8
 wr:Bool
 da:List UInt8
 deriving Inhabited
structure Lv where
 un:List UInt8
 us:Int
 deriving Inhabited
structure Lk where
 fa:Int
 mx:Int
 rc:Int
 si:Int
 cl:Int
 pe:Int
 deriving Inhabited
structure Sa where
 sd:List (List UInt8)
 au:List (List UInt8)
 en:List UInt8
 act:Int
 res:Int
 rst:Int
 clk:Int
 ord:Bool
 bk:List zB
 u:Int
 mc:Int
 ix:List Ix
 lk:Lk
 ks:List Lv
 deriving Inhabited
structure St where
 a:Sa
 on:Bool
 off:Bool
 bk:List zB
 u:Int
 clk:Int
 safe:Bool
 dr:Int
 ses:List Ses
 obs:List Obj
 rl:List Int
 wl:List Int
 deriving Inhabited
structure Az where
 s:Int
 no:List UInt8
 va:List UInt8
 deriving Inhabited
structure Rq where
 co:Int
 hs:List Int
 au:List Az
 ns:List Int
 bl:List (List UInt8)
 deriving Inhabited
structure Rs where
 e:Int
 ns:List Int
 bl:List (List UInt8)
 no:List (List UInt8)
 deriving Inhabited
structure Asr where
 kd:Int
 s0:Int
 s1:Int
 dg:List UInt8
 n:Int
 op:Int
 od:List UInt8
 nm:List UInt8
 rf:List UInt8
 br:List (List UInt8)
 deriving Inhabited
def iT (n:Int):T:= .int .i64 n
def puA (x:Pu):T:= .agg [.int .i64 x.kd,.int .i64 x.ar,.int .i64 x.ht,.sl (x.po.map qA),.sl (x.un.map qA)]
def snA (x:Sn):T:= .agg [.sl (x.au.map qA),.sl (x.sd.map qA),.sl (x.da.map qA)]
def qC9 (x:Obj):T:= .agg [.int .i64 x.p.kd,.int .i64 x.p.ar,.int .i64 x.p.ht,.sl (x.p.po.map qA),.sl (x.p.un.map qA),.sl (x.s.au.map qA),.sl (x.s.sd.map qA),.sl (x.s.da.map qA),.int .i64 x.h]
def yD (x:Ses):T:= .agg [.int .i64 x.kd,.sl (x.no.map qA),.sl (x.dg.map qA),.int .i64 x.up,.int .i64 x.lo,.int .i64 x.cm,.int .i64 x.dl,.bool x.av]
def ixA (x:Ix):T:= .agg [.int .i64 x.n,.int .i64 x.kd,.int .i64 x.ar,.int .i64 x.sz,.sl (x.po.map qA),.sl (x.au.map qA),.bool x.wr,.sl (x.da.map qA)]
def lvA (x:Lv):T:= .agg [.sl (x.un.map qA),.int .i64 x.us]
def lkA (x:Lk):T:= .agg [.int .i64 x.fa,.int .i64 x.mx,.int .i64 x.rc,.int .i64 x.si,.int .i64 x.cl,.int .i64 x.pe]
def saA (x:Sa):T:= .agg [.sl (x.sd.map bsT),.sl (x.au.map bsT),.sl (x.en.map qA),.int .i64 x.act,.int .i64 x.res,.int .i64 x.rst,.int .i64 x.clk,.bool x.ord,.sl (x.bk.map vS),.int .i64 x.u,.int .i64 x.mc,.sl (x.ix.map ixA),
 .int .i64 x.lk.fa,.int .i64 x.lk.mx,.int .i64 x.lk.rc,.int .i64 x.lk.si,.int .i64 x.lk.cl,.int .i64 x.lk.pe,.sl (x.ks.map lvA)]
def stA (x:St):T:= .agg [.sl (x.a.sd.map bsT),.sl (x.a.au.map bsT),.sl (x.a.en.map qA),.int .i64 x.a.act,.int .i64 x.a.res,.int .i64 x.a.rst,.int .i64 x.a.clk,.bool x.a.ord,.sl (x.a.bk.map vS),.int .i64 x.a.u,.int .i64 x.a.mc,.sl (x.a.ix.map ixA),
 .int .i64 x.a.lk.fa,.int .i64 x.a.lk.mx,.int .i64 x.a.lk.rc,.int .i64 x.a.lk.si,.int .i64 x.a.lk.cl,.int .i64 x.a.lk.pe,.sl (x.a.ks.map lvA),
 .bool x.on,.bool x.off,.sl (x.bk.map vS),.int .i64 x.u,.int .i64 x.clk,.bool x.safe,.int .i64 x.dr,.sl (x.ses.map yD),.sl (x.obs.map qC9),.sl (x.rl.map iT),.sl (x.wl.map iT)]
def azA (x:Az):T:= .agg [.int .i64 x.s,.sl (x.no.map qA),.sl (x.va.map qA)]
def rqA (x:Rq):T:= .agg [.int .i64 x.co,.sl (x.hs.map iT),.sl (x.au.map azA),.sl (x.ns.map iT),.sl (x.bl.map bsT)]
def rsA (x:Rs):T:= .agg [.int .i64 x.e,.sl (x.ns.map iT),.sl (x.bl.map bsT),.sl (x.no.map bsT)]
def jSv (x:Asr):T:= .agg [.int .i64 x.kd,.int .i64 x.s0,.int .i64 x.s1,.sl (x.dg.map qA),.int .i64 x.n,.int .i64 x.op,.sl (x.od.map qA),.sl (x.nm.map qA),.sl (x.rf.map qA),.sl (x.br.map bsT)]
theorem qBk:(∀ (a b:V) (l m:List V),(a::l=b::m)=(a=b∧l=m))∧(∀ (a b:T) (l m:List T),(a::l=b::m)=(a=b∧l=m))∧(∀ a b,(V.t a=V.t b)=(a=b))∧(∀ k (a b:Int),(T.int k a=T.int k b)=(a=b))∧(∀ a b,(T.bool a=T.bool b)=(a=b))∧
  (∀ a b,(T.sl a=T.sl b)=(a=b))∧(∀ a b,(T.agg a=T.agg b)=(a=b))∧(∀ p:Prop,(p∧True)=p)∧(∀ p:Prop,(True∧p)=p)∧(∀ l m:List UInt8,(l.map qA=m.map qA)=(l=m))∧(∀ l m:List (List UInt8),(l.map bsT=m.map bsT)=(l=m))∧(∀ a b:UInt8,(qA a=qA b)=(a=b))∧
  (∀ l m:List zB,(l.map vS=m.map vS)=(l=m))∧(∀ l m:List Int,(l.map iT=m.map iT)=(l=m)):=by
 refine⟨sM,sM,sM,sM,sM,sM,sM,sM,sM,fun _ _=>zN,fun _ _=>qDg,fun _ _=>qRi,fun l m=>propext ⟨qB8 (fun _ _=>qXk),fun h=>by rw[h]⟩,fun l m=>propext ⟨qB8 (fun a b h=>by simpa [iT] using h),fun h=>by rw[h]⟩⟩
abbrev EI {α:Type}(f:α→T):Prop:=(∀ a b,(f a=f b)=(a=b))∧(∀ l m:List α,(l.map f=m.map f)=(l=m))
theorem qAp {α:Type}{f:α→T}(h : ∀ a b,f a=f b→a=b):EI f:=⟨fun a b=>propext ⟨h a b,fun h=>by rw[h]⟩,fun l m=>propext ⟨qB8 h,fun h=>by rw[h]⟩⟩
theorem jUj:EI puA:=qAp (by rintro⟨⟩ ⟨⟩ h;simp only[puA,qBk] at h;obtain⟨rfl,rfl,rfl,rfl,rfl⟩:=h;rfl)
theorem jU7:EI snA:=qAp (by rintro⟨⟩ ⟨⟩ h;simp only[snA,qBk] at h;obtain⟨rfl,rfl,rfl⟩:=h;rfl)
theorem zUc:EI qC9:=qAp (by rintro⟨⟨⟩,⟨⟩,_⟩ ⟨⟨⟩,⟨⟩,_⟩ h;simp only[qC9,qBk] at h;obtain⟨rfl,rfl,rfl,rfl,rfl,rfl,rfl,rfl,rfl⟩:=h;rfl)
theorem zOn:EI yD:=qAp (by rintro⟨⟩ ⟨⟩ h;simp only[yD,qBk] at h;obtain⟨rfl,rfl,rfl,rfl,rfl,rfl,rfl,rfl⟩:=h;rfl)
theorem zTq:EI ixA:=qAp (by rintro⟨⟩ ⟨⟩ h;simp only[ixA,qBk] at h;obtain⟨rfl,rfl,rfl,rfl,rfl,rfl,rfl,rfl⟩:=h;rfl)
theorem jHb:EI lvA:=qAp (by rintro⟨⟩ ⟨⟩ h;simp only[lvA,qBk] at h;obtain⟨rfl,rfl⟩:=h;rfl)
theorem jT4:EI lkA:=qAp (by rintro⟨⟩ ⟨⟩ h;simp only[lkA,qBk] at h;obtain⟨rfl,rfl,rfl,rfl,rfl,rfl⟩:=h;rfl)
theorem jK3:EI azA:=qAp (by rintro⟨⟩ ⟨⟩ h;simp only[azA,qBk] at h;obtain⟨rfl,rfl,rfl⟩:=h;rfl)
theorem jK0:EI jSv:=qAp (by rintro⟨⟩ ⟨⟩ h;simp only[jSv,qBk] at h;obtain⟨rfl,rfl,rfl,rfl,rfl,rfl,rfl,rfl,rfl,rfl⟩:=h;rfl)
theorem jIl:EI rqA:=qAp (by rintro⟨⟩ ⟨⟩ h;simp only[rqA,qBk,jK3] at h;obtain⟨rfl,rfl,rfl,rfl,rfl⟩:=h;rfl)
theorem jUt:EI rsA:=qAp (by rintro⟨⟩ ⟨⟩ h;simp only[rsA,qBk] at h;obtain⟨rfl,rfl,rfl,rfl⟩:=h;rfl)
theorem jU2:EI saA:=qAp (by rintro⟨_,_,_,_,_,_,_,_,_,_,_,_,⟨⟩,_⟩ ⟨_,_,_,_,_,_,_,_,_,_,_,_,⟨⟩,_⟩ h;simp only[saA,qBk,zTq,jHb] at h;obtain⟨rfl,rfl,rfl,rfl,rfl,rfl,rfl,rfl,rfl,rfl,rfl,rfl,rfl,rfl,rfl,rfl,rfl,rfl,rfl⟩:=h;rfl)
theorem jJe:EI stA:=qAp (by rintro⟨⟨_,_,_,_,_,_,_,_,_,_,_,_,⟨⟩,_⟩,_,_,_,_,_,_,_,_,_,_,_⟩ ⟨⟨_,_,_,_,_,_,_,_,_,_,_,_,⟨⟩,_⟩,_,_,_,_,_,_,_,_,_,_,_⟩ h;simp only[stA,qBk,zTq,jHb,zOn,zUc] at h;obtain⟨rfl,rfl,rfl,rfl,rfl,rfl,rfl,rfl,rfl,rfl,rfl,rfl,rfl,rfl,rfl,rfl,rfl,rfl,rfl,rfl,rfl,rfl,rfl,rfl,rfl,rfl,rfl,rfl,rfl,rfl⟩:=h;rfl)
theorem qM7:EI puA∧EI snA∧EI qC9∧EI yD∧EI ixA∧EI lvA∧EI lkA∧EI azA∧EI jSv∧EI rqA∧EI rsA∧EI saA∧EI stA:=⟨jUj,jU7,zUc,zOn,zTq,jHb,jT4,jK3,jK0,jIl,jUt,jU2,jJe⟩
def Pu.Ok (p:Pu):Prop:=(0≤p.kd∧p.kd≤3)∧(0≤p.ar∧p.ar≤7)∧(0≤p.ht∧p.ht≤3)∧p.po.length≤32∧p.un.length≤32
def Sn.Ok (s:Sn):Prop:=s.au.length≤32∧s.sd.length≤32∧s.da.length≤128
def Obj.Ok (x:Obj):Prop:=x.p.Ok∧x.s.Ok∧(0≤x.h∧x.h≤2)
def Ses.Ok (x:Ses):Prop:=(0≤x.kd∧x.kd≤3)∧x.no.length≤32∧x.dg.length≤32∧(0≤x.lo∧x.lo≤31)∧(0≤x.dl∧x.dl≤1100000000000000)
def Ix.Ok (x:Ix):Prop:=(0≤x.n∧x.n≤255)∧(0≤x.kd∧x.kd≤4)∧(0≤x.ar∧x.ar≤127)∧(0≤x.sz∧x.sz≤128)∧x.po.length≤32∧x.au.length≤32∧x.da.length≤128∧(x.kd=3→x.da.length=8)
def Lv.Ok (x:Lv):Prop:=x.un.length≤32∧0≤x.us∧x.us≤8
def Lk.Ok (x:Lk):Prop:=(0≤x.fa∧x.fa≤100)∧(0≤x.mx∧x.mx≤100)∧(0≤x.rc∧x.rc≤1048576)∧(0≤x.si∧x.si≤1100000000000000)∧(0≤x.cl∧x.cl≤1100000000000000)∧(0≤x.pe∧x.pe≤1048576)
def BkS (act:Int)(bk:List zB):Prop:=bk=[]∨(1≤act∧act≤3)∧ShA act bk
theorem BkS.rv {act:Int}{bk:List zB}(h:BkS act bk):RV bk:=by
 rcases h with rfl | ⟨_,h⟩
 ·exact⟨.nil,sM⟩
 ·exact h.rv
structure Sa.Ok (s:Sa):Prop where
 sd:s.sd.length=3 ∧ ∀ x∈s.sd,x.length≤32
 au:s.au.length=4 ∧ ∀ x∈s.au,x.length≤32
 en:s.en.length=32
 act:0≤s.act∧s.act≤3
 res:0≤s.res
 rst:0≤s.rst
 clk:0≤s.clk∧s.clk≤1099511627776
 bk:BkS s.act s.bk
 u:0≤s.u
 mc:0≤s.mc∧s.mc≤1099511627776
 ix:s.ix.length≤6 ∧ ∀ x∈s.ix,x.Ok
 lk:s.lk.Ok
 ks:s.ks.length≤8 ∧ ∀ x∈s.ks,x.Ok
structure St.Ok (s:St):Prop where
 a:s.a.Ok
 bk:BkS s.a.act s.bk
 u:0≤s.u
 clk:0≤s.clk∧s.clk≤1099511627776
 dr:0≤s.dr
 ses:s.ses.length=3 ∧ ∀ x∈s.ses,x.Ok
 obs:s.obs.length=3 ∧ ∀ x∈s.obs,x.Ok
def St.cn (s:St)(m:Int):Prop:=s.a.res≤m∧s.a.rst≤m∧s.a.u≤m∧s.u≤m∧s.dr≤m∧(s.rl.length:Int)≤m∧(s.wl.length:Int)≤m
def St.up (k:Int)(s t:St):Prop := ∀ m,s.cn m→t.cn (m+k)
theorem St.up.trans {k l:Int}{s t v:St}(h:s.up k t)(g:t.up l v):s.up (k+l) v:=fun m hm=>by rw[←Int.add_assoc];exact g _ (h m hm)
theorem St.cn.le {s:St}{m n:Int}(h:s.cn m)(e:m≤n):s.cn n:=by unfold St.cn at *;omega
theorem St.up.le {k l:Int}{s t:St}(h:s.up k t)(e:k≤l):s.up l t:=fun m hm=>(h m hm).le oM
def zW2 (p u:List UInt8):List UInt8:=blL (blL [3,0,0] p) u
def zNt (p u:List UInt8):List UInt8:=vW 6 [zW2 p u]
abbrev L32 (p u:List UInt8):Prop:=p.length=32∧u.length=32
theorem qXv {p u:List UInt8}(h:L32 p u):(zW2 p u).length=71:=by
 simp[zW2,yB,h.1,h.2]
theorem zKi {p u:List UInt8}:(zNt p u).length=32:=qH
theorem yCm:qNf .and .i64 0 .i64 4=some (.int .i64 0):=rfl
theorem yCk:qNf .and .i64 0 .i64 1=some (.int .i64 0):=rfl
theorem zGq {t:Nat}{x:List UInt8}(h:x.length≤1000000):(qZ t [x]).length<1000000000:=by
 simp only[qZ,flatMap_cons,flatMap_nil,length_cons,length_append,length_nil,qAy];omega
theorem zXs {a b:UInt8}:qKb .or (qA a) (qA b)=some (qA (a ||| b)):=by
 change some (T.int .u8 (IntKind.u8.wrap ((BitVec.ofInt 8 (a.toNat:Int) ||| BitVec.ofInt 8 (b.toNat:Int)).toNat:Int)))=_;have e : ∀ x:UInt8,BitVec.ofInt 8 (x.toNat:Int)=x.toBitVec:=fun x=>BitVec.eq_of_toNat_eq sM
 rw[e,e,←UInt8.toBitVec_or,qRf];have:=(a ||| b).toNat_lt;unfold qA;rw[UInt8.toNat_toBitVec];congr 2;omega
def dfx (a b:List UInt8):Nat→UInt8
 | 0=>0
 | k+1=>dfx a b k ||| (a.getD k 0 ^^^ b.getD k 0)
theorem zZ4 {x y:UInt8}:x ||| y=0↔x=0∧y=0:=by
 constructor
 ·intro h;have h':x.toBitVec ||| y.toBitVec=0#8:=by
   have:=congrArg UInt8.toBitVec h;simpa using this
  have hx:x.toBitVec=0#8:=by
   apply BitVec.eq_of_getLsbD_eq;intro i hi;have:=congrArg (fun v=>v.getLsbD i) h';simp at this ⊢;exact this.1
  have hy:y.toBitVec=0#8:=by
   apply BitVec.eq_of_getLsbD_eq;intro i hi;have:=congrArg (fun v=>v.getLsbD i) h';simp at this ⊢;exact this.2
  exact⟨UInt8.toBitVec_inj.1 (by simpa using hx),UInt8.toBitVec_inj.1 (by simpa using hy)⟩
 ·rintro⟨rfl,rfl⟩;rfl
theorem zWq {x y:UInt8}:x ^^^ y=0↔x=y:=by
 constructor
 ·intro h;have:(x ^^^ y) ^^^ y=0 ^^^ y:=by rw[h]
  rwa [UInt8.xor_assoc,UInt8.xor_self,UInt8.xor_zero,UInt8.zero_xor] at this
 ·rintro rfl;exact UInt8.xor_self
theorem zM8 {a b:List UInt8} : ∀ {n:Nat},dfx a b n=0 ↔ ∀ k,k<n→a.getD k 0=b.getD k 0
 | 0=>by simp[dfx]
 | n+1=>by
  rw[dfx,zZ4,zWq,zM8 (n:=n)];constructor
  ·rintro⟨h1,h2⟩ k hk;rcases Nat.lt_or_ge k n with h | h
   ·exact h1 k h
   ·rw[show k=n by omega];exact h2
  ·intro h;exact⟨fun k hk=>h k oM,h n oM⟩
theorem jLz {a b:List UInt8}(hl:a.length=b.length):dfx a b a.length=0↔a=b:=by
 rw[zM8];constructor
 ·intro h;apply ext_getElem hl;intro k h1 h2;have:=h k h1;rwa [getD_eq_getElem?_getD,getD_eq_getElem?_getD,getElem?_eq_getElem h1,getElem?_eq_getElem h2] at this
 ·rintro rfl k _;rfl
theorem zLj (a b:List UInt8)(h:a.length<1000000000∧b.length<1000000000) :
  qF8.1.wp tab gl (qE 0 [.t (.sl (a.map qA)),.t (.sl (b.map qA))]) (qE 0 []) (qV [(4,none)] 0 (fun r o=>r = .t (.bool (decide (a=b)))∧o=[])):=by
 by_cases hl:a.length=b.length
 ·simp(disch:=omega)only[go_sem,qF8,hl];refine qB b.length (fun k=>[(0,.t (.sl (a.map qA))),(1,.t (.sl (b.map qA))),(5,.t (qA (dfx a b k))),(13,.t (.int .i64 b.length)),(14,.t (.int .i64 k))]) (fun _=>[]) ?_ (fun k hk=>?_)
  ·refine qJ.rd id ?_ ?_ rfl;all_goals simp(disch:=omega)only[go_sem,id]
   all_goals rfl
  ·by_cases hlt:k<b.length
   ·simp(disch:=omega)only[go_sem,hlt,hl,zXs];refine⟨rfl,qJ.rd id ?_ ?_ rfl⟩;all_goals simp(disch:=omega)only[go_sem,id]
    all_goals rfl
   ·have e:k=b.length:=oM;subst e;have hd:=jLz hl;rw[hl] at hd;simp(disch:=omega)only[go_sem];simp only[hd]
 ·have e:decide (a=b)=false:=decide_eq_false (fun h=>hl (by rw[h]));rw[e];simp(disch:=omega)only[go_sem,qF8,hl]
abbrev tmI (n:Int):Prop:=0≤n∧n≤1099511627776
def zJy:ECt where
 α:=Int×List UInt8×List UInt8
 β:=Bool
 aS:=fun (o,a,b)=>[.t (.int .i64 o),.t (.sl (a.map qA)),.t (.sl (b.map qA))]
 pre:=fun (o,a,b)=>a.length≤4096∧b.length≤4096
 r:=fun r=> .t (.bool r)
 R:=fun (o,a,b) r=>True
theorem yB5 {g:EF zJy}{o:Int}{a b:List UInt8}(hp:a.length≤4096∧b.length≤4096) : ∃ (r:Bool),(True)∧zJy.fs g [.t (.int .i64 o),.t (.sl (a.map qA)),.t (.sl (b.map qA))] []=some (.t (.bool r),[]):=zJy.eq g (o,a,b) hp
inductive As where
 | reg (s0 s1:Int) (d:List UInt8)
 | alt (bs:List (List UInt8))
def asT:As→T
 | .reg s0 s1 d=> .agg [.int .i64 1,.int .i64 s0,.int .i64 s1,.sl (d.map qA),.int .i64 0,.int .i64 0,.sl [],.sl [],.sl [],.sl []]
 | .alt bs=> .agg [.int .i64 8,.int .i64 0,.int .i64 0,.sl [],.int .i64 0,.int .i64 0,.sl [],.sl [],.sl [],.sl (bs.map bsT)]
def As.Ok:As→Prop
 | .reg s0 s1 d=>(0≤s0∧s0≤65535)∧(0≤s1∧s1≤65535)∧d.length=32
 | .alt bs=>(2≤bs.length∧bs.length≤8) ∧ ∀ b∈bs,b.length=32
theorem zJh {a b:As}(h:asT a=asT b):a=b:=by
 cases a<;>cases b<;>simp only[asT,T.agg.injEq,List.cons.injEq,T.int.injEq,T.sl.injEq,true_and,and_true,zN,qDg] at h
 ·obtain⟨rfl,rfl,rfl⟩:=h;rfl
 ·exact absurd h.1 (by decide)
 ·exact absurd h.1 (by decide)
 ·subst h;rfl
def zDk (d0:List UInt8):As→List (List UInt8)
 | .reg s0 s1 d=>[d0,qDf s0 s1,d]
 | .alt bs=>bs
def knd:As→UInt8
 | .reg .. => 1
 | .alt _=>8
def zB0 (d0:List UInt8)(a:As):List UInt8:=vW 8 ([knd a]::zDk d0 a)
theorem qJo {d0:List UInt8}{a:As}:(zB0 d0 a).length=32:=qH
def z32:List UInt8:=List.replicate 32 0
theorem qAd:z32.length=32:=rfl
def zDd:Ct where
 α:=Int×Int×Int
 aS x:=[.t (.int .i64 x.1),.t (.int .i64 x.2.1),.t (.int .i64 x.2.2)]
 ins _:=[]
 pre _:=True
 r x:= .t (.bool (decide (x.2.1≤x.1)&&decide (x.1≤x.2.2)))
 outs _:=[]
 inj:=by
  rintro⟨a,b,c⟩ ⟨d,e,f⟩ h _;simp only[List.cons.injEq,V.t.injEq,T.int.injEq,true_and,and_true] at h;obtain⟨rfl,rfl,rfl⟩:=h;exact⟨rfl,rfl⟩
theorem qT1 {n a b:Int}(h:a≤n∧n≤b):zDd.fs [.t (.int .i64 n),.t (.int .i64 a),.t (.int .i64 b)] []=some (.t (.bool true),[]):=by
 refine (zDd.eq (n,a,b) trivial).trans ?_;show some (V.t (T.bool (decide (a≤n)&&decide (n≤b))),[])=_;simp[h.1,h.2]
theorem qZu (n a b:Int) :
  qD0.1.wp tab gl (qE 0 [.t (.int .i64 n),.t (.int .i64 a),.t (.int .i64 b)]) (qE 0 []) (qV [(6,none)] 0 (fun r o=>r = .t (.bool (decide (a≤n)&&decide (n≤b)))∧o=[])):=by
 by_cases h:a≤n<;>by_cases k:n≤b;all_goals simp(disch:=omega)only[go_sem,qD0,h,k]
 all_goals simp[h,k]
def zC8:Ct where
 α:=Bool
 aS x:=[.t (.bool x)]
 ins _:=[]
 pre _:=True
 r x:= .t (.int .i64 (if x then 0 else 1))
 outs _:=[]
 inj:=by
  intro a b h _;simp only[List.cons.injEq,V.t.injEq,T.bool.injEq,and_true] at h;subst h;exact⟨rfl,rfl⟩
theorem qQp:zC8.fs [.t (.bool true)] []=some (.t (.int .i64 0),[]):=zC8.eq true trivial
theorem qUn (x:Bool) :
  qBv.1.wp tab gl (qE 0 [.t (.bool x)]) (qE 0 []) (qV [(2,none)] 0 (fun r o=>r = .t (.int .i64 (if x then 0 else 1))∧o=[])):=by
 cases x;all_goals simp(disch:=omega)only[go_sem,qBv]
 all_goals rfl
def qTk:Ct where
 α:=As
 aS x:=[.t (asT x)]
 ins _:=[]
 pre x:=x.Ok
 r _:= .t (.int .i64 0)
 outs _:=[]
 inj:=fun _ _ _ _=>⟨rfl,rfl⟩
theorem zZ8 {s0 s1:Int}{d:List UInt8}(h:(As.reg s0 s1 d).Ok):qTk.fs [.t (.agg [.int .i64 1,.int .i64 s0,.int .i64 s1,.sl (d.map qA),.int .i64 0,.int .i64 0,.sl [],.sl [],.sl [],.sl []])] []=some (.t (.int .i64 0),[]):=qTk.eq (.reg s0 s1 d) h
theorem zZ7 {bs:List (List UInt8)}(h:(As.alt bs).Ok):qTk.fs [.t (.agg [.int .i64 8,.int .i64 0,.int .i64 0,.sl [],.int .i64 0,.int .i64 0,.sl [],.sl [],.sl [],.sl (bs.map bsT)])] []=some (.t (.int .i64 0),[]):=qTk.eq (.alt bs) h
theorem zTi {bs:List (List UInt8)}(h : ∀ b∈bs,b.length=32){k:Nat}(hk:k<bs.length):(bs.getD k []).length=32:=by
 rw[getD_eq_getElem?_getD,getElem?_eq_getElem hk];exact h _ (getElem_mem hk)
theorem qTt : ∀ {fs:List (List UInt8)} {t n:Nat},(∀ x∈fs,x.length≤n)→(qZ t fs).length≤1+(4+n)*fs.length:=by
 intro fs
 induction fs with
 | nil=>intro t n _;simp[qZ]
 | cons x r ih=>
  intro t n h;have h1:=h x sM;have h2:=ih (t:=t) (fun y hy=>h y (by simp[hy]));simp only[qZ,length_cons,flatMap_cons,length_append,qAy] at h2 ⊢;rw[Nat.mul_add];omega
theorem jGw {d0:List UInt8}{a:As}(h0:d0.length=32)(ha:a.Ok):(qZ 8 ([knd a]::zDk d0 a)).length<1000000000:=by
 have h : ∀ x∈[knd a]::zDk d0 a,x.length≤32:=by
  intro x hx;rcases mem_cons.1 hx with rfl | hx
  ·exact Nat.le_of_ble_eq_true rfl
  ·cases a with
   | reg s0 s1 d=>
    simp only[zDk,mem_cons,not_mem_nil,or_false] at hx;rcases hx with rfl | rfl | rfl
    ·omega
    ·simp[qDf,qU]
    ·have:=ha.2.2;omega
   | alt bs=>have:=ha.2 x hx;omega
 have hl:([knd a]::zDk d0 a).length≤9:=by
  cases a with
  | reg s0 s1 d=>simp[zDk]
  | alt bs=>have:=ha.1.2;simp[zDk];omega
 have:=qTt (t:=8) h;omega
def zDa:Ct where
 α:=List UInt8×As
 aS x:=[.t (.sl (x.1.map qA)),.t (asT x.2)]
 ins _:=[]
 pre x:=x.1.length=32∧x.2.Ok
 r x:= .sl 0 0 32
 outs x:=[.live 1 (((zB0 x.1 x.2).map qA).map V.t) true false]
 inj:=by
  rintro⟨a,b⟩ ⟨c,d⟩ h _;simp only[List.cons.injEq,V.t.injEq,T.sl.injEq,and_true,zN] at h;obtain⟨rfl,h⟩:=h;rw[zJh h];exact⟨rfl,rfl⟩
theorem jHt {d0:List UInt8}{a:As}(h0:d0.length=32)(ha:a.Ok):zDa.fs [.t (.sl (d0.map qA)),.t (asT a)] []=some (.sl 0 0 32,[.live 1 (((zB0 d0 a).map qA).map V.t) true false]):=zDa.eq (d0,a) ⟨h0,ha⟩
theorem k1b:T.int .u8 (IntKind.u8.wrap 1)=qA 1:=rfl
theorem k8b:T.int .u8 (IntKind.u8.wrap 8)=qA 8:=rfl
def qU7:Ct where
 α:=Unit
 aS _:=[]
 ins _:=[]
 pre _:=True
 r _:= .sl 0 0 32
 outs _:=[.live 1 ((z32.map qA).map V.t) true false]
 inj:=fun _ _ _ _=>⟨rfl,rfl⟩
theorem zN2:qU7.fs [] []=some (.sl 0 0 32,[.live 1 ((z32.map qA).map V.t) true false]):=qU7.eq () trivial
theorem zBd:qE6.1.wp tab gl (qE 0 []) (qE 0 []) (kG [] [(0,none)] 0 (fun r o=>r = .sl 0 0 32∧o=[.live 1 ((z32.map qA).map V.t) true false])):=by
 simp(disch:=omega)only[go_sem,qE6,z32]
theorem zIu:qIw.1.wp tab gl (qE 0 []) (qE 0 []) (kG [] [(0,none)] 0 (fun r o=>r = .sl 0 0 32∧o=[.live 1 ((z32.map qA).map V.t) true false])):=by
 simp(disch:=omega)only[go_sem,qIw,z32]
def qHe:Ct where
 α:=As
 aS x:=[.t (.sl [asT x])]
 ins _:=[]
 pre x:=x.Ok
 r x:= .t (.sl ((zB0 z32 x).map qA))
 outs _:=[]
 inj:=by
  intro a b h _;simp only[List.cons.injEq,V.t.injEq,T.sl.injEq,and_true] at h;rw[zJh h];exact⟨rfl,rfl⟩
theorem zUk {a:As}(h:a.Ok):qHe.fs [.t (.sl [asT a])] []=some (.t (.sl ((zB0 z32 a).map qA)),[]):=qHe.eq a h
theorem zFk (h1:LkC tab 27 qU7)(h2:LkC tab 28 zDa)(a:As)(ha:a.Ok) :
  kY.1.wp tab gl (qE 0 [.t (.sl [asT a])]) (qE 0 []) (qV [(2,none)] 0 (fun r o=>r = .t (.sl ((zB0 z32 a).map qA))∧o=[])):=by
 have hE:=jHt qAd ha;have t1:List.take 32 z32=z32:=rfl;have t2:List.take 32 (zB0 z32 a)=zB0 z32 a:=take_of_length_le (by rw[qJo];exact Nat.le_refl _);have l1:=qJo (d0:=z32) (a:=a);have l2:=qAd;cases a;all_goals simp only[asT] at *
 all_goals simp(disch:=omega)only[go_sem,kY,h1,zN2]
 all_goals refine qG 2 ?_
 all_goals simp(disch:=omega)only[go_sem,qD,h2,t1,t2,l1,l2,hE]
def zDc:Ct where
 α:=Int×Int
 aS x:=[.t (.agg [.int .i64 x.1,.int .i64 x.2])]
 ins _:=[]
 pre x:=(0≤x.1∧x.1≤65535)∧(0≤x.2∧x.2≤65535)
 r _:= .t (.bool true)
 outs _:=[]
 inj:=fun _ _ _ _=>⟨rfl,rfl⟩
theorem jHv {s0 s1:Int}(h0:0≤s0∧s0≤65535)(h1:0≤s1∧s1≤65535):zDc.fs [.t (.agg [.int .i64 s0,.int .i64 s1])] []=some (.t (.bool true),[]):=zDc.eq (s0,s1) ⟨h0,h1⟩
theorem zBj (s0 s1:Int)(h0:0≤s0∧s0≤65535)(h1:0≤s1∧s1≤65535):qFe.1.wp tab gl (qE 0 [.t (.agg [.int .i64 s0,.int .i64 s1])]) (qE 0 []) (qV [(2,none)] 0 (fun r o=>r = .t (.bool true)∧o=[])):=by
 have a1:=h0.1;have a2:=h0.2;have a3:=h1.1;have a4:=h1.2;simp(disch:=omega)only[go_sem,qFe,a1,a2,a3,a4]
def zC9:Ct where
 α:=List (List UInt8)
 aS x:=[.t (.sl (x.map bsT))]
 ins _:=[]
 pre x:=(As.alt x).Ok
 r _:= .t (.bool true)
 outs _:=[]
 inj:=fun _ _ _ _=>⟨rfl,rfl⟩
theorem jHs {bs:List (List UInt8)}(h:(As.alt bs).Ok):zC9.fs [.t (.sl (bs.map bsT))] []=some (.t (.bool true),[]):=zC9.eq bs h
theorem zIs (h1:LkC tab 82 zDc)(h3:LkC tab 84 zC9)(a:As)(ha:a.Ok) :
  wM.1.wp tab gl (qE 0 [.t (asT a)]) (qE 0 []) (qV [(2,none)] 0 (fun r o=>r = .t (.int .i64 0)∧o=[])):=by
 cases a with
 | reg s0 s1 d=>
  have l:=ha.2.2;simp(disch:=omega)only[go_sem,wM,asT,h1,jHv ha.1 ha.2.1,l]
 | alt bs=>
  simp(disch:=omega)only[go_sem,wM,asT,h3,jHs ha]
def zDb:Ct where
 α:=List UInt8×As
 aS x:=[.t (.sl (x.1.map qA)),.t (asT x.2)]
 ins _:=[]
 pre x:=x.1.length=32∧x.2.Ok
 r x:= .sl 0 0 (qZ 8 ([knd x.2]::zDk x.1 x.2)).length
 outs x:=[.live 1 (((qZ 8 ([knd x.2]::zDk x.1 x.2)).map qA).map V.t) true false]
 inj:=by
  rintro⟨a,b⟩ ⟨c,d⟩ h _;simp only[List.cons.injEq,V.t.injEq,T.sl.injEq,and_true,zN] at h;obtain⟨rfl,h⟩:=h;rw[zJh h];exact⟨rfl,rfl⟩
theorem jHu {d0:List UInt8}{a:As}(h0:d0.length=32)(ha:a.Ok):zDb.fs [.t (.sl (d0.map qA)),.t (asT a)] []=some (.sl 0 0 (qZ 8 ([knd a]::zDk d0 a)).length,[.live 1 (((qZ 8 ([knd a]::zDk d0 a)).map qA).map V.t) true false]):=zDb.eq (d0,a) ⟨h0,ha⟩
theorem zIt (h1:LkC tab 31 vB)(h2:LkC tab 54 qEk)(d0:List UInt8)(a:As)(h0:d0.length=32)(ha:a.Ok) :
  wO.1.wp tab gl (qE 0 [.t (.sl (d0.map qA)),.t (asT a)]) (qE 0 []) (kG [] [(4,none)] 0 (fun r o=>r = .sl 0 0 (qZ 8 ([knd a]::zDk d0 a)).length∧o=[.live 1 (((qZ 8 ([knd a]::zDk d0 a)).map qA).map V.t) true false])):=by
 have hF:=qRu (t:=8) (fs:=[knd a]::zDk d0 a) ⟨oM,jGw h0 ha⟩;have hM:=jGw h0 ha;generalize qZ 8 ([knd a]::zDk d0 a)=f at *;have tf:List.take f.length f=f:=take_length;cases a with
 | reg s0 s1 d=>
  have hu:=qM2 (b:=[]) (n:=s0) (by decide);simp only[map_nil,length_nil,nil_append] at hu;have hv:=qM2 (b:=beI 2 s0 2) (n:=s1) (by rw[qU];omega);rw[qU] at hv;have t2:List.take 2 (beI 2 s0 2)=beI 2 s0 2:=take_of_length_le (by rw[qU];exact Nat.le_refl _);have t4:List.take 4 (beI 2 s0 2++beI 2 s1 2)=beI 2 s0 2++beI 2 s1 2:=take_of_length_le (by rw[length_append,qU,qU];exact Nat.le_refl _);simp only[zDk,qDf,knd,mcn,qI] at hF;rw[show ((8:Nat):Int)=8 from rfl] at hF;simp(disch:=omega)only[go_sem,wO,asT,h1,hu,hv,qU,t2,t4,k1b,h2,hF,tf];all_goals rfl
 | alt bs=>
  have l:=ha.1;have t1:List.take (1+bs.length) (T.sl [qA 8]::List.map bsT bs)=T.sl [qA 8]::List.map bsT bs:=take_of_length_le soM;simp only[zDk,knd,mcn] at hF;rw[show ((8:Nat):Int)=8 from rfl,qI] at hF;simp only[mcn] at hF;simp(disch:=omega)only[go_sem,wO,asT,k8b,t1,h2,hF,tf];all_goals rfl
theorem zFl (h1:LkC tab 51 qTk)(h2:LkC tab 53 zDb)(h3:tab.look 52=some (qNy 32 zT).fs)(d0:List UInt8)(a:As)(h0:d0.length=32)(ha:a.Ok) :
  wT.1.wp tab gl (qE 0 [.t (.sl (d0.map qA)),.t (asT a)]) (qE 0 []) (kG [] [(4,none)] 0 (fun r o=>r = .sl 0 0 32∧o=[.live 1 (((zB0 d0 a).map qA).map V.t) true false])):=by
 have hF:=jHu h0 ha;have hM:=jGw h0 ha;have hS:=zCe (n:=32) (f:=zT) hM;have hX:zT (qZ 8 ([knd a]::zDk d0 a))=zB0 d0 a:=rfl;rw[hX] at hS;generalize qZ 8 ([knd a]::zDk d0 a)=f at *;have t1:List.take f.length f=f:=take_length;cases a with
 | reg s0 s1 d=>
  have hC:=zZ8 ha;generalize zB0 d0 (.reg s0 s1 d)=x at *;simp only[asT] at *;simp(disch:=omega)only[go_sem,wT,h1,hC,h2,hF,t1,h3,hS]
 | alt bs=>
  have hC:=zZ7 ha;generalize zB0 d0 (.alt bs)=x at *;simp only[asT] at *;simp(disch:=omega)only[go_sem,wT,h1,hC,h2,hF,t1,h3,hS]
theorem zTr:((1024:Nat):Int)=1024:=rfl
def snT (a s d:List UInt8):T:= .agg [.sl (a.map qA),.sl (s.map qA),.sl (d.map qA)]
theorem jJb {a s d b t e:List UInt8}(h:snT a s d=snT b t e):a=b∧s=t∧d=e:=by
 simp only[snT,T.agg.injEq,List.cons.injEq,T.sl.injEq,true_and,and_true,zN] at h;exact h
def yB9:List UInt8:=[115,101,101,100]
def zEg (s d:List UInt8):List UInt8:=vW 13 [s,d]
theorem qJy {s d:List UInt8}:(zEg s d).length=32:=qH
theorem zTe {t:Nat}{x y:List UInt8}(hx:x.length≤1000000)(hy:y.length≤1000000):(qZ t [x,y]).length<1000000000:=by
 simp only[qZ,flatMap_cons,flatMap_nil,length_cons,length_append,length_nil,qAy];omega
theorem zYt {s d:List UInt8}(hs:s.length≤1000000)(hd:d.length≤1000000):jL.fs [.t (.int .i64 13),.t (.sl [.sl (s.map qA),.sl (d.map qA)])] []=some (.sl 0 0 32,[.live 1 (((zEg s d).map qA).map V.t) true false]):=jL.eq (13,[s,d]) ⟨by show 13<256;omega,zTe hs hd⟩
def zM1:Ct where
 α:=List UInt8×List UInt8×List UInt8
 aS x:=[.t (.int .i64 3),.t (.int .i64 0),.t (snT x.1 x.2.1 x.2.2)]
 ins _:=[]
 pre x:=x.2.1.length≤1000000∧x.2.2.length≤1000000
 r _:= .sl 0 0 32
 outs x:=[.live 1 (((zEg x.2.1 x.2.2).map qA).map V.t) true false]
 inj:=by
  rintro⟨a,b,c⟩ ⟨d,e,f⟩ h _;simp only[List.cons.injEq,V.t.injEq,true_and,and_true] at h;obtain⟨rfl,rfl,rfl⟩:=jJb h;exact⟨rfl,rfl⟩
theorem jP3 {a s d:List UInt8}(h:s.length≤1000000∧d.length≤1000000):zM1.fs [.t (.int .i64 3),.t (.int .i64 0),.t (.agg [.sl (a.map qA),.sl (s.map qA),.sl (d.map qA)])] []=some (.sl 0 0 32,[.live 1 (((zEg s d).map qA).map V.t) true false]):=zM1.eq (a,s,d) h
theorem zFn (h2:LkC tab 123 jL)(a s d:List UInt8)(h:s.length≤1000000∧d.length≤1000000) :
  qHc.1.wp tab gl (qE 0 [.t (.int .i64 3),.t (.int .i64 0),.t (snT a s d)]) (qE 0 []) (kG [] [(6,none)] 0 (fun r o=>r = .sl 0 0 32∧o=[.live 1 (((zEg s d).map qA).map V.t) true false])):=by
 simp(disch:=omega)only[go_sem,qHc,snT,h2,zYt h.1 h.2]
def jC9:Ct where
 α:=Int
 aS x:=[.t (.int .i64 x)]
 ins _:=[]
 pre _:=True
 r x:= .tup [.t (.agg [.int .i64 0,.int .i64 0,.int .i64 0,.sl [],.sl []]),.t (.agg [.sl [],.sl [],.sl []]),.t (.int .i64 x)]
 outs _:=[]
 inj:=by
  intro a b h _;simp only[List.cons.injEq,V.t.injEq,T.int.injEq,true_and,and_true] at h;subst h;exact⟨rfl,rfl⟩
theorem zFm (e:Int):qHb.1.wp tab gl (qE 0 [.t (.int .i64 e)]) (qE 0 []) (qV [(2,some (5,true)),(3,some (3,true)),(4,none)] 0 (fun r o=>r = .tup [.t (.agg [.int .i64 0,.int .i64 0,.int .i64 0,.sl [],.sl []]),.t (.agg [.sl [],.sl [],.sl []]),.t (.int .i64 e)]∧o=[])):=by
 simp(disch:=omega)only[go_sem,qHb]
def qVb (sec:List UInt8):List UInt8:=drv sec yB9 [] 32
theorem jGl {k:List UInt8}(h:k.length≤64):qH2.fs [.t (.sl (k.map qA)),.t (qKe [115,101,101,100]),.t (.sl []),.t (.int .i64 32)] []=some (.t (.sl ((qVb k).map qA)),[]):=qXt (l:=yB9) (c:=[]) (n:=32) ⟨h,by decide,by decide,oM,oM⟩
def u8I (n:Int):UInt8:=UInt8.ofNat (n%256).toNat
theorem u8w {n:Int}:T.int .u8 (IntKind.u8.wrap n)=qA (u8I n):=by
 unfold qA u8I;rw[qRf];congr 1;have h0:=Int.emod_nonneg n (b:=256) (by decide);have h1:=Int.emod_lt_of_pos n (b:=256) (by decide);rw[UInt8.toNat_ofNat'];omega
theorem jTl {k l c:List UInt8}{n:Nat}(h:k.length≤64∧l.length<100000000∧c.length<100000000∧1≤n∧n≤1024) : ∃ y:List UInt8,y.length=n∧qH2.fs [.t (.sl (k.map qA)),.t (qKe l),.t (.sl (c.map qA)),.t (.int .i64 n)] []=some (.t (.sl (y.map qA)),[]):=
 ⟨_,wG,qXt h⟩
def qCz (s:Sa):St:=⟨s,false,false,[],0,0,false,0,[default,default,default],[default,default,default],[],[]⟩
def qLe:ECt where
 α:=Sa
 β:=St
 aS:=fun s=>[.t (saA s)]
 pre:=fun s=>True
 r:=fun r'=> .t (stA r')
 R:=fun s r'=>r'=qCz s
theorem zR2 {g:EF qLe}{s:Sa}:qLe.fs g [.t (saA s)] []=some (.t (stA (qCz s)),[]):=fnQ qLe s trivial
theorem jS2 {s:Sa}(hV:vv = .t (stA (qCz s)))(hO:oo=[]):qLe.K s vv oo:=⟨_,rfl,hV,hO⟩
def qZ1 (s:St):St := { s with a := { s.a with res:=s.a.res+1,rst:=0,ord:=false,bk:=[],u:=0 },on:=true,bk:=yV s.a.act,u:=0,clk:=s.a.clk,safe:=s.a.ord }
def jSn (s:St):St := { s with a := { s.a with rst:=s.a.rst+1,ord:=false,bk:=[],u:=0 },on:=true,bk:=zD0 s.a.bk,u:=s.a.u,clk:=s.a.clk,safe:=s.a.ord }
def zI9 (s:St)(m:Int):St×Int:=
 if s.on=true∨s.off=true then (default,28) else if m≠0∧m≠1 then (default,1) else if m=1∧s.a.bk.length=0 then (default,16)
 else if m=0 then (qZ1 s,0) else (jSn s,0)
theorem zKm {act:Int}(ha:1≤act∧act≤3) : ∃ b0 b1:zB,yV act=[b0,b1]∧kH.fs [.t (.int .i64 act)] []=some (.agg [.sl 0 0 2,.t (.int .i64 0)],[.live 1 [.sl 1 0 b0.length,.sl 2 0 b1.length] true false,.live 1 ((b0.map bsT).map V.t) true false,.live 1 ((b1.map bsT).map V.t) true false]):=by
 obtain⟨b0,b1,e,_⟩:=ShA.new ha;refine⟨b0,b1,e,?_⟩;have h:kH.fs [.t (.int .i64 act)] []=some (twR (yV act) 0,twO (yV act)):=kH.eq act trivial;rw[e] at h;exact h
theorem zZr:kH.fs [.t (.int .i64 0)] []=some (.agg [.nil,.t (.int .i64 0)],[]):=kH.eq (0:Int) trivial
def qPu:ECt where
 α:=St×Int
 β:=St×Int
 aS:=fun (s,m)=>[.t (stA s),.t (.int .i64 m)]
 pre:=fun (s,m)=>s.a.Ok∧s.cn 1000000
 r:=fun (y,e)=> .tup [.t (stA y),.t (.int .i64 e)]
 R:=fun (s,m) (y,e)=>y=(zI9 s m).1∧e=(zI9 s m).2
theorem jPl {g:EF qPu}{s:St}{m:Int}(hp:s.a.Ok∧s.cn 1000000) : ∃ (y:St) (e:Int),(y=(zI9 s m).1∧e=(zI9 s m).2)∧qPu.fs g [.t (stA s),.t (.int .i64 m)] []=some (.tup [.t (stA y),.t (.int .i64 e)],[]):=by
 obtain⟨y,h1,h2⟩:=qPu.eq g (s,m) hp;exact⟨y.1,y.2,h1,h2⟩
theorem zK7 {s:St}{m:Int}(y:St)(e:Int)(hR:y=(zI9 s m).1∧e=(zI9 s m).2)(hV:vv = .tup [.t (stA y),.t (.int .i64 e)])(hO:oo=[]):qPu.K (s,m) vv oo:=⟨(y,e),hR,hV,hO⟩
def jOr (s:St):List UInt8:=beI 8 s.a.res 8++beI 8 s.a.rst 8++beI 8 s.dr 8
def qVc (s:St)(n:Int):List UInt8:=drv s.a.en [114,97,110,100,111,109] (jOr s) n.toNat
def qL1:ECt where
 α:=St×Int
 β:=St×List UInt8
 aS:=fun (s,n)=>[.t (stA s),.t (.int .i64 n)]
 pre:=fun (s,n)=>s.a.en.length=32∧(0≤s.dr∧s.dr≤1000000000)∧1≤n∧n≤1024
 r:=fun (y,b)=> .tup [.t (stA y),.t (.sl (b.map qA))]
 R:=fun (s,n) (y,b)=>y = { s with dr:=s.dr+1 }∧b=qVc s n
theorem jOs {g:EF qL1}{s:St}{n:Int}(hp:s.a.en.length=32∧(0≤s.dr∧s.dr≤1000000000)∧1≤n∧n≤1024) : ∃ (y:St) (b:List UInt8),(y = { s with dr:=s.dr+1 }∧b=qVc s n)∧qL1.fs g [.t (stA s),.t (.int .i64 n)] []=some (.tup [.t (stA y),.t (.sl (b.map qA))],[]):=by
 obtain⟨y,h1,h2⟩:=qL1.eq g (s,n) hp;exact⟨y.1,y.2,h1,h2⟩
theorem jUq {s:St}{n:Int}(y:St)(b:List UInt8)(hR:y = { s with dr:=s.dr+1 }∧b=qVc s n)(hV:vv = .tup [.t (stA y),.t (.sl (b.map qA))])(hO:oo=[]):qL1.K (s,n) vv oo:=⟨(y,b),hR,hV,hO⟩
def ixP:List Ix→Int→Nat→Int
 | [],_,_ => -1
 | x::r,h,k=>if h=256+x.n then (k:Int) else ixP r h (k+1)
theorem qX {α:Type}{l:List α}{k:Nat}(h:k<l.length) : ∃ x,l[k]?=some x∧x∈l∧l.drop k=x::l.drop (k+1):=⟨l[k],getElem?_eq_getElem h,getElem_mem h,drop_eq_getElem_cons h⟩
end Go.Eng
end
