/- A part of an abstract machine, its walks, their tie. -/
import Derived.Test.YtekghmfbgbhobaaGreatDoorD21
import Derived.Test.YtekghmfbgbhobaaGreatDoorD16
import Derived.Test.YtekghmfbgbhobaaGreatDoorD20
import Derived.Test.YtekghmfbgbhobaaGreatDoorD9
import Derived.Test.YtekghmfbgbhobaaGreatDoorD18
set_option linter.all false
section
set_option maxHeartbeats 64000000
set_option maxRecDepth 20000
namespace Go.Eng
variable (tab:Tab) (gl:Gl)
def RZ (bk:List zB):Prop := ∀ a,a<2 → ∀ x∈bk.getD a [],x.length=szA a
theorem zBp {b:zB}{i z:Nat}{y:List UInt8}(h : ∀ x∈b,x.length=z)(hy:y.length=z) : ∀ x∈b.set i y,x.length=z:=by
 intro x hx;rcases List.mem_or_eq_of_mem_set hx with h1 | rfl
 ·exact h x h1
 ·exact hy
theorem zS8 {y:List UInt8}{b:zB}{z:Nat}(hy:y.length=z)(h : ∀ x∈b,x.length=z) : ∀ k,∀ x∈stN y b k,x.length=z
 | 0=>h
 | k+1=>zBp (zS8 hy h k) hy
theorem RZ.two {b0 b1:zB}(h0 : ∀ x∈b0,x.length=20)(h1 : ∀ x∈b1,x.length=32):RZ [b0,b1]:=by
 intro a ha
 match a,ha with
 | 0,_=>exact h0
 | 1,_=>exact h1
theorem RZ.nil:RZ []:=by
 intro a ha x hx;simp at hx
theorem RZ.ext {bk:List zB}{i:Nat}{ds:List (List UInt8)}(hv:RV bk)(h:RZ bk):RZ (qSf bk i ds):=by
 rcases hv.1.cases with rfl | ⟨b0,b1,rfl,g0,g1⟩
 ·exact RZ.nil
 ·rw[zDy];refine RZ.two ?_ ?_
  ·unfold qDc;split
   ·exact zBp (h 0 oM) (qJh (a:=0))
   ·exact h 0 oM
  ·unfold qDc;split
   ·exact zBp (h 1 oM) (qJh (a:=1))
   ·exact h 1 oM
theorem RZ.rst {bk:List zB}{i:Nat}(hv:RV bk)(h:RZ bk):RZ (zIa bk i):=by
 rcases hv.1.cases with rfl | ⟨b0,b1,rfl,g0,g1⟩
 ·exact RZ.nil
 ·rw[zR4];refine RZ.two ?_ ?_
  ·unfold qWo;split
   ·exact zBp (h 0 oM) List.length_replicate
   ·exact h 0 oM
  ·unfold qWo;split
   ·exact zBp (h 1 oM) List.length_replicate
   ·exact h 1 oM
theorem RZ.res {bk:List zB}(hv:RV bk)(h:RZ bk):RZ (qXz bk):=by
 rcases hv.1.cases with rfl | ⟨b0,b1,rfl,g0,g1⟩
 ·exact RZ.nil
 ·exact RZ.two (zS8 List.length_replicate (h 0 oM) 4) (zS8 List.length_replicate (h 1 oM) 4)
theorem zK1 {a:Nat} : ∀ x∈qCf a,x.length=szA a:=by
 intro x hx;unfold qCf at hx;obtain⟨i,_,rfl⟩:=List.mem_map.1 hx;exact List.length_replicate
theorem RZ.new {s:Int}:RZ (kF s):=by
 unfold kF;split
 ·exact RZ.nil
 ·refine RZ.two ?_ ?_
  ·split
   ·exact zK1 (a:=0)
   ·intro x hx;simp at hx
  ·split
   ·exact zK1 (a:=1)
   ·intro x hx;simp at hx
def Shp (s:Int)(bk:List zB):Prop:=bk.length=(kF s).length∧zY2 bk=zY2 (kF s)∧RZ bk
theorem zSw {s:Int}{bk:List zB}(hv:RV bk)(h:Shp s bk):(bk=[]∧kF (zG2 bk)=[]) ∨ ∃ b0 b1 c0 c1:zB,bk=[b0,b1]∧kF (zG2 bk)=[c0,c1]∧List.length c0=List.length b0∧List.length c1=List.length b1:=by
 obtain⟨hl,hb,_⟩:=h;rcases hv.1.cases with rfl | ⟨b0,b1,rfl,g0,g1⟩
 ·exact .inl ⟨rfl,rfl⟩
 ·refine .inr ?_;have hs : ¬ s%4=0:=by
   intro e;unfold kF at hl;rw[if_pos e] at hl;simp at hl
  rw[qD9 hs] at hb;have e0:List.length b0=List.length (if s%2=1 then qCf 0 else []):=congrFun hb 0;have e1:List.length b1=List.length (if s/2%2=1 then qCf 1 else []):=congrFun hb 1;have n0:=qK (a:=0);have n1:=qK (a:=1);by_cases q0:s%2=1<;>by_cases q1:s/2%2=1
  ·rw[if_pos q0,n0] at e0;rw[if_pos q1,n1] at e1;have ea:zG2 [b0,b1]=3:=by show zAd b0 b1=3;unfold zAd;rw[if_pos e0,if_pos e1];rfl
   exact⟨b0,b1,qCf 0,qCf 1,rfl,by rw[ea];rfl,by rw[n0,e0],by rw[n1,e1]⟩
  ·rw[if_pos q0,n0] at e0;rw[if_neg q1] at e1;have ea:zG2 [b0,b1]=1:=by show zAd b0 b1=1;unfold zAd;rw[if_pos e0,if_neg (by rw[e1];decide)];rfl
   exact⟨b0,b1,qCf 0,[],rfl,by rw[ea];rfl,by rw[n0,e0],by rw[e1]⟩
  ·rw[if_neg q0] at e0;rw[if_pos q1,n1] at e1;have ea:zG2 [b0,b1]=2:=by show zAd b0 b1=2;unfold zAd;rw[if_neg (by rw[e0];decide),if_pos e1];rfl
   exact⟨b0,b1,[],qCf 1,rfl,by rw[ea];rfl,by rw[e0],by rw[n1,e1]⟩
  ·exfalso;omega
theorem qU6 {α:Type}{b p q t:List α}{k:Nat}(hb:b=p++q++t)(hq:q.length=k):List.take k (List.drop p.length b)=q:=by
 subst hb;subst hq;rw[List.append_assoc,List.drop_left,List.take_left]
theorem qWm {b p q t:List UInt8}{k:Nat}(hb:b=p++q++t)(hq:q.length=k)(hv:beV q<9223372036854775808):qL (b,p.length,0) k=(((beV q:Nat):Int),(b,p.length+k,0)):=by
 have h1:=qU6 hb hq;have h2:b.length=p.length+k+t.length:=by rw[hb];simp only[List.length_append,hq]
 unfold qL;simp only[h1];rw[if_neg sM,if_neg oM,if_neg oM]
theorem zWn {b p q t:List UInt8}{k:Nat}(hb:b=p++q++t)(hq:q.length=k):qBb (b,p.length,0) k=(q,(b,p.length+k,0)):=by
 have h1:=qU6 hb hq;have h2:b.length=p.length+k+t.length:=by rw[hb];simp only[List.length_append,hq]
 unfold qBb;simp only[h1];rw[if_neg sM,if_neg oM]
theorem zMm {b:List (List UInt8)}{i:Nat}(h:i<b.length):b.flatten=(b.take i).flatten++b.getD i []++(b.drop (i+1)).flatten:=by
 conv=>lhs;rw[←List.take_append_drop (i+1) b,qCh (d:=[]) h]
 simp
theorem qWk {b p t:List UInt8}{rows:List (List UInt8)}{z:Nat}(hb:b=p++rows.flatten++t)(hz : ∀ x∈rows,x.length=z) : ∀ i,i≤rows.length→zI (b,p.length,0) z i=(rows.take i,(b,(p++(rows.take i).flatten).length,0))
 | 0,_=>by simp[zI]
 | i+1,h=>by
  have ih:=qWk hb hz i oM;have hg:(rows.getD i []).length=z:=by
   have e:rows.getD i []=rows[i]:=by simp[List.getD,show i<rows.length by omega]
   rw[e];exact hz _ (List.getElem_mem _)
  have hb2:b=(p++(rows.take i).flatten)++rows.getD i []++((rows.drop (i+1)).flatten++t):=by
   rw[hb,zMm (i:=i) oM];simp only[List.append_assoc]
  have hr:=zWn hb2 hg;simp only[zI,ih,hr];rw[qCh (d:=[]) oM];simp only[List.flatten_append,List.flatten_cons,List.flatten_nil,List.append_nil,List.length_append,hg,Nat.add_assoc]
theorem jBi {l:List UInt8}{x:UInt8}:beV (l++[x])=256*beV l+x.toNat:=by simp[beV]
theorem zOs {size:Nat}{n:Int} : ∀ k,k≤size→beV (beI size n k)=m64 n/2^(8*(size-k))%256^k
 | 0,_=>by simp[beI,beV,Nat.mod_one]
 | k+1,h=>by
  have ih:=zOs (size:=size) (n:=n) k oM;rw[zAn,jBi,ih];have e1:8*(size-k)=8*(size-1-k)+8:=oM;have e2:size-(k+1)=size-1-k:=oM;rw[e1,e2,Nat.pow_add,←Nat.div_div_eq_div_mul];generalize m64 n/2^(8*(size-1-k))=q;have e3:(UInt8.ofNat q).toNat=q%256:=by rw[UInt8.toNat_ofNat']
  have e4:q/2^8=q/256:=rfl;have e5:256^(k+1)=256*256^k:=by rw[Nat.pow_succ,Nat.mul_comm]
  rw[e3,e4,e5,Nat.mod_mul,Nat.add_comm]
theorem zG8 {size:Nat}{n:Int}:beV (beI size n size)=m64 n%256^size:=by
 rw[zOs size (Nat.le_refl _)];simp
theorem zEh {n:Int}(h:0≤n∧n<18446744073709551616):((m64 n:Nat):Int)=n:=by unfold m64;omega
theorem jBz {s u:Int}{bk:List zB}(hv:RV bk)(hs:Shp s bk)(hu:0≤u∧u<9223372036854775808):dcR (qBk bk u) = .tup [.t (jN bk u),.t (.int .i64 0)]:=by
 have hact:=zG3 hv.1;obtain⟨m,hm⟩:=Int.eq_ofNat_of_zero_le hact.1;have hm4:m<4:=oM;have hE:qBk bk u=[UInt8.ofNat m]++beI 8 u 8++bk.flatten.flatten:=by unfold qBk zAz;rw[hm];rfl
 have v1:beV [UInt8.ofNat m]=m:=by
  rcases (show m=0∨m=1∨m=2∨m=3 by omega) with rfl | rfl | rfl | rfl<;>rfl
 have v8:((beV (beI 8 u 8):Nat):Int)=u:=by
  rw[zG8];have:=zEh (n:=u) oM;have e:(256:Nat)^8=18446744073709551616:=by decide
  rw[e];omega
 have h1:qL (qBk bk u,0,0) 1=(((m:Nat):Int),(qBk bk u,1,0)):=by
  have:=qWm (b:=qBk bk u) (p:=[]) (q:=[UInt8.ofNat m]) (t:=beI 8 u 8++bk.flatten.flatten) (k:=1) (by rw[hE];simp) rfl (by rw[v1];omega);rw[v1] at this;exact this
 have h2:qL (qBk bk u,1,0) 8=(u,(qBk bk u,9,0)):=by
  have:=qWm (b:=qBk bk u) (p:=[UInt8.ofNat m]) (q:=beI 8 u 8) (t:=bk.flatten.flatten) (k:=8) hE qR3 oM;rw[v8] at this;exact this
 have hset:qKp (qBk bk u,0,0)=zG2 bk:=by unfold qKp;rw[h1,hm]
 have hU:dcU (qBk bk u,0,0)=u:=by unfold dcU;rw[h1];simp only;rw[h2]
 have hbad : ¬ ((qL (qBk bk u,0,0) 1).2.2.2=0∧4≤qKp (qBk bk u,0,0)):=by rw[hset];omega
 have hend : ∀ b:List UInt8,vS (b,b.length,0)=0:=fun b=>by unfold vS;rw[if_neg sM]
 rcases zSw hv hs with⟨rfl,hn⟩ | ⟨b0,b1,c0,c1,rfl,hn,l0,l1⟩
 ·have hB:dcB (qBk [] u,0,0)=([],(qBk [] u,(qBk [] u).length,0)):=by
   unfold dcB;rw[hset,hn,h1];simp only;rw[h2];have e:(qBk [] u).length=9:=by unfold qBk;simp[qI5]
   rw[e];rfl
  rw[zDw hbad hB hU,hend,if_neg sM]
 ·have hz:=hs.2.2;have z0 : ∀ x∈b0,x.length=20:=hz 0 oM;have z1 : ∀ x∈b1,x.length=32:=hz 1 oM;have hE2:qBk [b0,b1] u=zAz [b0,b1] u++b0.flatten++b1.flatten:=by unfold qBk;simp
  have r0:=qWk (b:=qBk [b0,b1] u) (p:=zAz [b0,b1] u) (t:=b1.flatten) hE2 z0 (List.length b0) (Nat.le_refl _);rw[List.take_length,qI5] at r0;have r1:=qWk (b:=qBk [b0,b1] u) (p:=zAz [b0,b1] u++b0.flatten) (t:=[]) (by rw[hE2];simp) z1 (List.length b1) (Nat.le_refl _);rw[List.take_length] at r1;have hB:dcB (qBk [b0,b1] u,0,0)=([b0,b1],(qBk [b0,b1] u,(qBk [b0,b1] u).length,0)):=by
   unfold dcB;rw[hset,hn,h1];simp only;rw[h2];have hLen:(qBk [b0,b1] u).length=(zAz [b0,b1] u++List.flatten b0++List.flatten b1).length:=by rw[←hE2]
   simp only[qVu,l0,l1,r0,r1,hLen]
  rw[zDw hbad hB hU,hend,if_neg sM]
def qR5:Ct where
 α:=List zB×Int
 aS x:=[.t (jN x.1 x.2)]
 ins _:=[]
 pre x:=RV x.1
 r x:= .sl 0 0 (qBk x.1 x.2).length
 outs x:=[.live 1 (((qBk x.1 x.2).map qA).map V.t) true false]
 inj:=by
  rintro⟨a,u⟩ ⟨b,v⟩ h _;simp only[List.cons.injEq,V.t.injEq,and_true] at h;obtain⟨rfl,rfl⟩:=qCb h;exact⟨rfl,rfl⟩
theorem zPu {bk:List zB}{u:Int}(h:RV bk):qR5.fs [.t (.agg [.sl (bk.map yS),.int .i64 u])] []=some (.sl 0 0 (qBk bk u).length,[.live 1 (((qBk bk u).map qA).map V.t) true false]):=qR5.eq (bk,u) h
def qR4:Ct where
 α:=List UInt8
 aS x:=[.t (.sl (x.map qA))]
 ins _:=[]
 pre x:=x.length<1000000000
 r x:=dcR x
 outs _:=[]
 inj:=by
  intro a b h _;simp only[List.cons.injEq,V.t.injEq,T.sl.injEq,and_true,yD] at h;subst h;exact⟨rfl,rfl⟩
theorem qWj {s:Rd}{z:Nat} : ∀ n,∀ x∈(zI s z n).1,x.length≤z
 | 0=>by intro x hx;simp[zI] at hx
 | n+1=>by
  intro x hx;simp only[zI,List.mem_append,List.mem_singleton] at hx;rcases hx with hx | rfl
  ·exact qWj n x hx
  ·exact zLd
theorem qQd {b:List UInt8} : ∃ bk u e,dcR b = .tup [.t (.agg [.sl (bk.map yS),.int .i64 u]),.t (.int .i64 e)]∧RV bk:=by
 have hnil:RV []:=⟨.nil,sM⟩;unfold dcR;simp only;split
 ·exact⟨[],0,1,rfl,hnil⟩
 ·split
  ·exact⟨[],0,_,rfl,hnil⟩
  ·refine⟨_,_,0,rfl,?_⟩;unfold dcB qVu;split
   ·rename_i b0 b1 h;have hn:=zK2 (s:=qKp (b,0,0));rw[h] at hn;rcases hn.cases with h | ⟨c0,c1,h,g0,g1,_,_⟩
    ·simp at h
    ·obtain⟨rfl,rfl⟩:b0=c0∧b1=c1:=by simpa using h
     refine RV.of2 (qF0 g0 (zQ _)) (qF0 g1 (zQ _)) ?_ ?_
     ·intro x hx;have:=qWj _ x hx;omega
     ·intro x hx;have:=qWj _ x hx;omega
   ·exact hnil
theorem zGs (x:kC.α)(hx:kC.pre x):yR.1.wp tab gl (qE 0 (kC.aS x)) (qE 0 (kC.ins x)) (qX [(6,none),(7,none)] (kC.ins x).length (fun r o=>r=kC.r x∧o=kC.outs x)):=by
 obtain⟨⟨b,a,e⟩,p,n⟩:=x;obtain⟨h1,h2,h3⟩:=hx;simp only[yH] at h1 h2 h3;by_cases h:p+n≤b.length
 ·have hr:kC.r ((b,a,e),p,n) = .tup [.t (.sl (((b.drop p).take n).map qA)),.t (.int .i64 0)]:=if_pos h;rw[hr];exact zJ0 tab gl (b,a,e) h1 p n h
 ·have hr:kC.r ((b,a,e),p,n) = .tup [.t (.sl []),.t (.int .i64 2)]:=if_neg h;rw[hr];show yR.1.wp tab gl (qE 0 [.ref 0 0 0,.t (.int .i64 p),.t (.int .i64 n)]) (qE 0 [yU (b,a,e)]) (qX [(6,none),(7,none)] 1 (fun r o=>r = .tup [.t (.sl []),.t (.int .i64 2)]∧o=[yU (b,a,e)]));simp(disch:=omega)only[go_sem,yR,yU,rdT]
theorem zGp (x:xM.α)(hx:xM.pre x):yO.1.wp tab gl (qE 0 (xM.aS x)) (qE 0 (xM.ins x)) (qX [(4,none)] (xM.ins x).length (fun r o=>r=xM.r x∧o=xM.outs x)):=
 qY8 tab gl x.1.1 x.1.2.1 x.1.2.2 x.2 hx.1 hx.2
abbrev Ev:=Int×Int×List (List UInt8)×List UInt8
def evM (e:Ev):Prop:=zEk e.2.2.1∧e.2.2.2.length<1000000000
def jVq (r k act:Int):Prop:=act<1∨3<act∨r<0∨11<r∨k<1∨5<k
instance {r k act:Int}:Decidable (jVq r k act):=by unfold jVq;infer_instance
def okC (c:UInt8):Bool := !decide (c.toNat<32) && !decide (c.toNat>126)
def blL (b x:List UInt8):List UInt8:=b++beI 2 (x.length:Int) 2++x
theorem vO {b x:List UInt8}:(blL b x).length=b.length+2+x.length:=by unfold blL;rw[List.length_append,List.length_append,qA5]
def qDj:Ct where
 α:=List UInt8×List UInt8
 aS x:=[.t (.sl (x.1.map qA)),.t (.sl (x.2.map qA))]
 ins _:=[]
 pre x:=x.1.length<100000000∧x.2.length≤65535
 r x:= .sl 0 0 (x.1.length+2+x.2.length)
 outs x:=[.live 1 (((blL x.1 x.2).map qA).map V.t) true false]
 inj:=by
  rintro⟨a,b⟩ ⟨c,d⟩ h _;simp only[List.cons.injEq,V.t.injEq,T.sl.injEq,and_true,yD] at h;obtain⟨rfl,rfl⟩:=h;exact⟨rfl,rfl⟩
theorem xK {b x:List UInt8}(h:b.length<100000000∧x.length≤65535):qDj.fs [.t (.sl (b.map qA)),.t (.sl (x.map qA))] []=some (.sl 0 0 (b.length+2+x.length),[.live 1 (((blL b x).map qA).map V.t) true false]):=qDj.eq (b,x) h
theorem zJx (h1:LkC tab 40 yT)(b x:List UInt8)(hb:b.length<100000000)(hx:x.length≤65535) :
  qKj.1.wp tab gl (qE 0 [.t (.sl (b.map qA)),.t (.sl (x.map qA))]) (qE 0 []) (xU [] [(4,none)] 0 (fun r o=>r = .sl 0 0 (b.length+2+x.length)∧o=[.live 1 (((blL b x).map qA).map V.t) true false])):=by
 have hu:=zNr (b:=b) (n:=(x.length:Int)) oM;have hl:(b++beI 2 (x.length:Int) 2).length=b.length+2:=by rw[List.length_append,qA5]
 have hbl:blL b x=b++beI 2 (x.length:Int) 2++x:=rfl;have hno : ¬ 65535<(x.length:Int):=oM;rw[hbl];generalize b++beI 2 (x.length:Int) 2=B at *;simp(disch:=omega)only[go_sem,qKj,h1,hu,hl,hno,List.take_length]
theorem zJq (h1:LkC tab 42 yT)(b x:List UInt8)(hb:b.length<100000000)(hx:x.length≤65535) :
  qKc.1.wp tab gl (qE 0 [.t (.sl (b.map qA)),.t (.sl (x.map qA))]) (qE 0 []) (xU [] [(4,none)] 0 (fun r o=>r = .sl 0 0 (b.length+2+x.length)∧o=[.live 1 (((blL b x).map qA).map V.t) true false])):=by
 have hu:=zNr (b:=b) (n:=(x.length:Int)) oM;have hl:(b++beI 2 (x.length:Int) 2).length=b.length+2:=by rw[List.length_append,qA5]
 have hbl:blL b x=b++beI 2 (x.length:Int) 2++x:=rfl;have hno : ¬ 65535<(x.length:Int):=oM;rw[hbl];generalize b++beI 2 (x.length:Int) 2=B at *;simp(disch:=omega)only[go_sem,qKc,h1,hu,hl,hno,List.take_length]
def jM7 (r k:Int)(n m:Nat):Prop:=r<0∨11<r∨k<1∨5<k∨n≠2∨64<m
instance {r k:Int}{n m:Nat}:Decidable (jM7 r k n m):=by unfold jM7;infer_instance
theorem zXw {a:Nat}{k':IntKind}(h:a<1000000):zAo .shl .i64 (a:Int) k' 8=some (.int .i64 ((256*a:Nat):Int)):=by
 change (if (8:Int)<0 then none else some (T.int .i64 (IntKind.i64.wrap ((a:Int)*2^min (8:Int).toNat 64))))=_;rw[if_neg oM,show (a:Int)*2^min (8:Int).toNat 64=((256*a:Nat):Int) by
  rw[show min (8:Int).toNat 64=8 from rfl];omega,qBd oM]
theorem jDl {a:Nat}{x:UInt8}(h:a<1000000):zAo .or .i64 ((256*a:Nat):Int) .i64 (x.toNat:Int)=some (.int .i64 ((256*a+x.toNat:Nat):Int)):=by
 have hx:=x.toNat_lt;change some (T.int .i64 (IntKind.i64.wrap ((BitVec.ofInt 64 ((256*a:Nat):Int) ||| BitVec.ofInt 64 (x.toNat:Int)).toNat:Int)))=_;have e:(BitVec.ofInt 64 ((256*a:Nat):Int) ||| BitVec.ofInt 64 (x.toNat:Int)).toNat=256*a+x.toNat:=by
  rw[BitVec.toNat_or,BitVec.toNat_ofInt,BitVec.toNat_ofInt,Int.emod_eq_of_lt oM oM,Int.emod_eq_of_lt oM oM,Int.toNat_natCast,Int.toNat_natCast,or8 oM]
 rw[e,qBd oM]
attribute [go_sem ↓] zXw jDl
def zA (s:Rd)(most:Nat):List UInt8×Rd:=
 if s.2.2≠0 then ([],s) else if s.1.length<s.2.1+2 then ([],(s.1,s.2.1,2))
 else if most<beV ((s.1.drop s.2.1).take 2) then ([],(s.1,s.2.1,4))
 else if s.1.length<s.2.1+2+beV ((s.1.drop s.2.1).take 2) then ([],(s.1,s.2.1,2))
 else ((s.1.drop (s.2.1+2)).take (beV ((s.1.drop s.2.1).take 2)),(s.1,s.2.1+2+beV ((s.1.drop s.2.1).take 2),0))
def qAx:Ct where
 α:=Rd×Nat
 aS x:=[.ref 0 0 0,.t (.int .i64 x.2)]
 ins x:=[yU x.1]
 pre x:=yH x.1∧x.2≤65535
 r x:= .t (.sl ((zA x.1 x.2).1.map qA))
 outs x:=[yU (zA x.1 x.2).2]
 inj:=by
  rintro⟨s,a⟩ ⟨t,c⟩ h1 h2;simp only[List.cons.injEq,V.t.injEq,T.int.injEq,true_and,and_true,Int.natCast_inj] at h1;simp only[List.cons.injEq,and_true] at h2;subst h1;cases yV h2;exact⟨rfl,rfl⟩
theorem qC2 {s:Rd}{k:Nat}(h:yH s∧k≤65535):qAx.fs [.ref 0 0 0,.t (.int .i64 k)] [rdO s]=some (.t (.sl ((zA s k).1.map qA)),[rdO (zA s k).2]):=qAx.eq (s,k) h
theorem jLs {b:List UInt8}{a:Nat}(h:a+2≤b.length):List.take 2 (List.drop a b)=[b.getD a 0,b.getD (a+1) 0]:=by
 have e:List.drop a b=b[a]'(oM)::b[a+1]'(oM)::List.drop (a+2) b:=by
  rw[List.drop_eq_getElem_cons oM,List.drop_eq_getElem_cons oM]
 have g0:b.getD a 0=b[a]'(oM):=by simp[List.getD,show a<b.length by omega]
 have g1:b.getD (a+1) 0=b[a+1]'(oM):=by simp[List.getD,show a+1<b.length by omega]
 rw[e,g0,g1];rfl
theorem jVr {x y:UInt8}:beV [x,y]=256*x.toNat+y.toNat:=by simp[beV]
theorem qFp {s:Rd}{k:Nat}:(zA s k).1.length≤k:=by
 unfold zA;split
 ·simp
 ·split
  ·simp
  ·split
   ·simp
   ·split
    ·simp
    ·simp only[List.length_take];omega
theorem kK {s:Rd}{k:Nat}(h:yH s):yH (zA s k).2:=by
 unfold zA;unfold yH at *;split
 ·exact h
 ·split
  ·exact h
  ·split
   ·exact h
   ·split
    ·exact h
    ·exact⟨by simp only;omega,h.2⟩
theorem qRv (h1:LkC tab 104 kC)(h2:LkC tab 103 qR6)(s:Rd)(hs:yH s)(k:Nat)(hk:k≤65535) :
  jX.1.wp tab gl (qE 0 [.ref 0 0 0,.t (.int .i64 k)]) (qE 0 [yU s]) (qX [(4,none)] 1 (fun r o=>r = .t (.sl ((zA s k).1.map qA))∧o=[yU (zA s k).2])):=by
 obtain⟨b,a,e⟩:=s;have ha:a≤b.length∧b.length<1000000000:=hs;by_cases he:e=0
 ·subst he;by_cases hl:b.length<a+2
  ·have hr:zA (b,a,0) k=([],(b,a,2)):=by unfold zA;simp[hl]
   rw[hr];have ht:=zBs (b:=b) (a:=a) (p:=a) (n:=2) (e:=0) ⟨ha.1,ha.2,ha.1,oM,oM⟩;have k2:((2:Nat):Int)=2:=rfl;rw[k2] at ht;simp(disch:=omega)only[go_sem,jX,qV,h1,h2,ht,qPi,List.map_nil]
  ·have t2:=jLs (b:=b) (a:=a) oM;have ht:=zBt (b:=b) (a:=a) (p:=a) (n:=2) (e:=0) ⟨ha.1,ha.2,oM⟩;have k2:((2:Nat):Int)=2:=rfl;rw[k2,t2] at ht;have hb:=jVr (x:=b.getD a 0) (y:=b.getD (a+1) 0);have hx:=(b.getD a 0).toNat_lt;have hy:=(b.getD (a+1) 0).toNat_lt;have hr:zA (b,a,0) k=if k<256*(b.getD a 0).toNat+(b.getD (a+1) 0).toNat then ([],(b,a,4)) else if b.length<a+2+(256*(b.getD a 0).toNat+(b.getD (a+1) 0).toNat) then ([],(b,a,2)) else ((b.drop (a+2)).take (256*(b.getD a 0).toNat+(b.getD (a+1) 0).toNat),(b,a+2+(256*(b.getD a 0).toNat+(b.getD (a+1) 0).toNat),0)):=by
    unfold zA;simp only[t2,hb];rw[if_neg sM,if_neg hl]
   rw[hr];simp only[mcn] at ht;by_cases c1:k<256*(b.getD a 0).toNat+(b.getD (a+1) 0).toNat
   ·rw[if_pos c1];simp(disch:=omega)only[go_sem,jX,qV,h1,h2,ht,qPi,c1,List.map_nil];rfl
   ·rw[if_neg c1];have hn:((b.getD a 0).toNat<256)∧(b.getD (a+1) 0).toNat<256:=⟨hx,hy⟩;generalize hN:256*(b.getD a 0).toNat+(b.getD (a+1) 0).toNat=N at *;have hN2:N≤65535:=oM;by_cases c2:b.length<a+2+N
    ·rw[if_pos c2];have ht2:=zBs (b:=b) (a:=a) (p:=a+2) (n:=N) (e:=0) ⟨ha.1,ha.2,oM,oM,c2⟩;simp(disch:=omega)only[go_sem,jX,qV,h1,h2,ht,hN,ht2,qPi,c1,List.map_nil];rfl
    ·rw[if_neg c2];have ht2:=zBt (b:=b) (a:=a) (p:=a+2) (n:=N) (e:=0) ⟨ha.1,ha.2,oM⟩;have hc:(List.take N (List.drop (a+2) b)).length=N:=by simp only[List.length_take,List.length_drop];omega
     have tt:List.take N (List.take N (List.drop (a+2) b))=List.take N (List.drop (a+2) b):=List.take_of_length_le oM;simp(disch:=omega)only[go_sem,jX,qV,h1,h2,ht,hN,ht2,qPi,c1,hc,tt];exact⟨rfl,oM⟩
 ·have hr:zA (b,a,e) k=([],(b,a,e)):=by unfold zA;rw[if_pos he]
  rw[hr];simp(disch:=omega)only[go_sem,jX,qV,ne_eq,he,List.map_nil]
theorem qRq (h1:LkC tab 89 xM)(s:Rd)(hs:yH s)(k:Nat)(hk:k≤65535) :
  jW.1.wp tab gl (qE 0 [.ref 0 0 0,.t (.int .i64 k)]) (qE 0 [yU s]) (qX [(4,none)] 1 (fun r o=>r = .t (.sl ((zA s k).1.map qA))∧o=[yU (zA s k).2])):=by
 obtain⟨b,a,e⟩:=s;have ha:a≤b.length∧b.length<1000000000:=hs;by_cases he:e=0
 ·subst he;by_cases hl:b.length<a+2
  ·have hr:zA (b,a,0) k=([],(b,a,2)):=by unfold zA;simp[hl]
   rw[hr];have ht:=zA5 (b:=b) (a:=a) (k:=2) ⟨ha.1,ha.2,oM,oM⟩;have k2:((2:Nat):Int)=2:=rfl;rw[k2] at ht;simp(disch:=omega)only[go_sem,jW,qV,h1,ht,List.map_nil]
  ·have t2:=jLs (b:=b) (a:=a) oM;have ht:=zA6 (b:=b) (a:=a) (k:=2) ⟨ha.1,ha.2,oM⟩;have k2:((2:Nat):Int)=2:=rfl;rw[k2] at ht;have hb:=jVr (x:=b.getD a 0) (y:=b.getD (a+1) 0);have hx:=(b.getD a 0).toNat_lt;have hy:=(b.getD (a+1) 0).toNat_lt;have hr:zA (b,a,0) k=if k<256*(b.getD a 0).toNat+(b.getD (a+1) 0).toNat then ([],(b,a,4)) else if b.length<a+2+(256*(b.getD a 0).toNat+(b.getD (a+1) 0).toNat) then ([],(b,a,2)) else ((b.drop (a+2)).take (256*(b.getD a 0).toNat+(b.getD (a+1) 0).toNat),(b,a+2+(256*(b.getD a 0).toNat+(b.getD (a+1) 0).toNat),0)):=by
    unfold zA;simp only[t2,hb];rw[if_neg sM,if_neg hl]
   rw[hr];have hn:((b.getD a 0).toNat<256)∧(b.getD (a+1) 0).toNat<256:=⟨hx,hy⟩;generalize hN:256*(b.getD a 0).toNat+(b.getD (a+1) 0).toNat=N at *;have hN2:N≤65535:=oM;by_cases c1:k<N
   ·rw[if_pos c1];simp(disch:=omega)only[go_sem,jW,qV,h1,ht,hN,c1,List.map_nil];rfl
   ·rw[if_neg c1];by_cases c2:b.length<a+2+N
    ·rw[if_pos c2];have ht2:=zA5 (b:=b) (a:=a) (k:=2+N) ⟨ha.1,ha.2,oM,oM⟩;simp(disch:=omega)only[go_sem,jW,qV,h1,ht,hN,ht2,c1,List.map_nil];rfl
    ·rw[if_neg c2];have ht2:=zA6 (b:=b) (a:=a) (k:=2+N) ⟨ha.1,ha.2,oM⟩;have hc:(List.take N (List.drop (a+2) b)).length=N:=by simp only[List.length_take,List.length_drop];omega
     have tt:List.take N (List.take N (List.drop (a+2) b))=List.take N (List.drop (a+2) b):=List.take_of_length_le oM;have e1:a+(2+N)-N=a+2:=oM;have e2:a+(2+N)-(a+2)=N:=oM;have e3:a+2+N=a+(2+N):=oM;rw[e3];simp(disch:=omega)only[go_sem,jW,qV,h1,ht,hN,ht2,c1,e1,e2,hc,tt];exact⟨rfl,rfl⟩
 ·have hr:zA (b,a,e) k=([],(b,a,e)):=by unfold zA;rw[if_pos he]
  rw[hr];simp(disch:=omega)only[go_sem,jW,qV,ne_eq,he,List.map_nil]
def vT:Ct where
 α:=List UInt8×Nat
 aS x:=[.t (.sl (x.1.map qA)),.t (.int .i64 x.2)]
 ins _:=[]
 pre x:=x.1.length≤9223372036854775807∧x.2≤1000000
 r x:= .t (.sl ((x.1.take x.2).map qA))
 outs _:=[]
 inj:=by
  rintro⟨a,b⟩ ⟨c,d⟩ h _;simp only[List.cons.injEq,V.t.injEq,T.sl.injEq,T.int.injEq,true_and,and_true,yD,Int.natCast_inj] at h;obtain⟨rfl,rfl⟩:=h;exact⟨rfl,rfl⟩
theorem qCe {b:List UInt8}{n:Nat}(h:b.length≤9223372036854775807∧n≤1000000):vT.fs [.t (.sl (b.map qA)),.t (.int .i64 n)] []=some (.t (.sl ((b.take n).map qA)),[]):=vT.eq (b,n) h
theorem zN2 (b:List UInt8)(n:Nat)(h1:b.length≤9223372036854775807)(h2:n≤1000000) :
  qHt.1.wp tab gl (qE 0 [.t (.sl (b.map qA)),.t (.int .i64 n)]) (qE 0 []) (qX [(4,none)] 0 (fun r o=>r = .t (.sl ((b.take n).map qA))∧o=[])):=by
 by_cases h:n<b.length
 ·simp(disch:=omega)only[go_sem,qHt,h]
 ·have e:b.take n=b:=List.take_of_length_le oM;simp(disch:=omega)only[go_sem,qHt,h,e]
theorem zRp {b p x t:List UInt8}{most:Nat}(hb:b=p++beI 2 (x.length:Int) 2++x++t)(hx:x.length≤most)(hm:most≤65535):zA (b,p.length,0) most=(x,(b,p.length+2+x.length,0)):=by
 have hlen:b.length=p.length+2+x.length+t.length:=by rw[hb];simp only[List.length_append,qA5]
 have h1:List.take 2 (List.drop p.length b)=beI 2 (x.length:Int) 2:=qU6 (t:=x++t) (by rw[hb];simp only[List.append_assoc]) qA5;have h2:beV (beI 2 (x.length:Int) 2)=x.length:=by
  rw[zG8];have e:(256:Nat)^2=65536:=by decide
  have:=zEh (n:=(x.length:Int)) oM;rw[e];omega
 have h3:List.take x.length (List.drop (p.length+2) b)=x:=by
  have:=qU6 (b:=b) (p:=p++beI 2 (x.length:Int) 2) (q:=x) (t:=t) (k:=x.length) hb rfl;rw[List.length_append,qA5] at this;exact this
 unfold zA;simp only[h1,h2];rw[if_neg sM,if_neg oM,if_neg oM,if_neg oM,h3]
theorem zOv {a b:UInt8}:qGy .and (qA a) (qA b)=some (qA (a &&& b)):=by
 change some (T.int .u8 (IntKind.u8.wrap ((BitVec.ofInt 8 (a.toNat:Int) &&& BitVec.ofInt 8 (b.toNat:Int)).toNat:Int)))=_;have e : ∀ x:UInt8,BitVec.ofInt 8 (x.toNat:Int)=x.toBitVec:=fun x=>BitVec.eq_of_toNat_eq sM
 rw[e,e,←UInt8.toBitVec_and,qL2];have:=(a &&& b).toNat_lt;unfold qA;rw[UInt8.toNat_toBitVec];congr 2;omega
def qQa:Ct where
 α:=Int×Int
 aS x:=[.t (.int .i64 x.1),.t (.int .i64 x.2)]
 ins _:=[]
 pre x:=(-9223372036854775808≤x.1∧x.1<9223372036854775808)∧(-9223372036854775808≤x.2∧x.2<9223372036854775808)
 r x:= .t (.int .i64 (qI8 x.1 x.2))
 outs _:=[]
 inj:=by
  rintro⟨a,b⟩ ⟨c,d⟩ h _;simp only[List.cons.injEq,V.t.injEq,T.int.injEq,true_and,and_true] at h;obtain⟨rfl,rfl⟩:=h;exact⟨rfl,rfl⟩
theorem qF2 {a b:Int}(h:(-9223372036854775808≤a∧a<9223372036854775808)∧(-9223372036854775808≤b∧b<9223372036854775808)):qQa.fs [.t (.int .i64 a),.t (.int .i64 b)] []=some (.t (.int .i64 (qI8 a b)),[]):=qQa.eq (a,b) h
theorem qCv {a m:Int}(h:1≤m):0≤qI8 a m∧qI8 a m<m:=by
 unfold qI8;rw[if_neg oM];exact⟨Int.emod_nonneg _ oM,Int.emod_lt_of_pos _ oM⟩
def rI (n:Int):Prop := -9223372036854775808≤n∧n<9223372036854775808
def evX (e:Ev):Prop:=e.2.2.1.length≤9223372036854775807∧(∀ x∈e.2.2.1,x.length≤9223372036854775807)∧e.2.2.2.length≤9223372036854775807
abbrev Im:=Int×List UInt8×Int×List UInt8
def imM (x:Im):Prop:=x.2.1.length≤9223372036854775807∧x.2.2.2.length<1000000000∧rI x.1∧rI x.2.2.1
def imX (x:Im):Prop:=rI x.1∧rI x.2.2.1∧x.2.1.length≤9223372036854775807∧x.2.2.2.length≤9223372036854775807
theorem imM.x {x:Im}(h:imM x):imX x:=⟨h.2.2.1,h.2.2.2,h.1,by have:=h.2.1;omega⟩
def okN (c:UInt8):Bool:=(!decide (c.toNat<97) && !decide (c.toNat>122))||((!decide (c.toNat<48) && !decide (c.toNat>57))||decide (c=45))
def jO4 (s:List UInt8):Bool:=(!decide (s.length<1) && !decide (12<s.length))&&s.all okN
def lnS (out:List (List UInt8))(line:List UInt8):List UInt8→List (List UInt8)
 | []=>if 0<line.length then [] else out
 | c::r=>if c=10 then (if line.length=0∨4≤out.length then [] else lnS (out++[line]) [] r) else if okC c=true then lnS out (line++[c]) r else []
def lnL (p:List UInt8):List (List UInt8):=lnS [] [] p
def jNt (r v:Int):Prop:=r<1∨4<r∨v<0∨1000000<v
instance {r v:Int}:Decidable (jNt r v):=by unfold jNt;infer_instance
def jN0 (x:Im):Int:=if jNt x.1 x.2.2.1 then 1 else if jO4 x.2.1=false then 43 else if 64<x.2.2.2.length then 4 else if x.1=4∧(lnL x.2.2.2).length=0 then 40 else 0
def chF (pre:List Im):List Im→Int
 | []=>if pre.any (fun y=>decide (y.1=1))&&pre.any (fun y=>decide (y.1=3)) then 0 else 40
 | x::r=>if jN0 x≠0 then jN0 x else if pre≠[]∧x.1<(pre.getLastD (0,[],0,[])).1 then 41 else if pre.any (fun y=>decide (y.1=x.1)&&decide (y.2.1=x.2.1)) then 42 else chF (pre++[x]) r
def chP (l:List Im):Prop := ∀ r,chF [] (l++r)=chF l r
structure ChO (r:Int) (l:List Im):Prop where
 p:chP l
 ok : ∀ x∈l,jN0 x=0
 le : ∀ x∈l,x.1≤r
theorem ChO.up {r q:Int}{l:List Im}(h:ChO r l)(hq:r≤q):ChO q l:=⟨h.p,h.ok,fun x hx=>by have:=h.le x hx;omega⟩
theorem evM.x {e:Ev}(h:evM e):evX e:=⟨by have:=h.1.1;omega,fun x hx=>by have:=h.1.2 x hx;omega,by have:=h.2;omega⟩
abbrev Rg:=List zB×Int
def rpS (x:Rg)(e:Ev):Rg:=if e.2.1=5 then x else jCa x 0 e.1 e.2.2.1
def rp0 (act:Int):Rg:=(kF act,0)
def ShA (act:Int)(bk:List zB):Prop := ∃ b0 b1:zB,bk=[b0,b1]∧List.length b0=(if act%2=1 then 16 else 0)∧List.length b1=(if act/2%2=1 then 16 else 0)∧(∀ x∈b0,x.length=20) ∧ ∀ x∈b1,x.length=32
theorem ShA.new {act:Int}(ha:1≤act∧act≤3):ShA act (kF act):=by
 have h:kF act=[if act%2=1 then qCf 0 else [],if act/2%2=1 then qCf 1 else []]:=qD9 oM;refine⟨_,_,h,?_,?_,fun x hx=>?_,fun x hx=>?_⟩
 ·split
  ·exact qK
  ·rfl
 ·split
  ·exact qK
  ·rfl
 ·split at hx
  ·exact zK1 (a:=0) x hx
  ·simp at hx
 ·split at hx
  ·exact zK1 (a:=1) x hx
  ·simp at hx
theorem ShA.rv {act:Int}{bk:List zB}(h:ShA act bk):RV bk:=by
 obtain⟨b0,b1,rfl,h0,h1,z0,z1⟩:=h;refine⟨.two _ _ ?_ ?_,fun b hb x hx=>?_⟩
 ·split at h0
  ·exact .inr h0
  ·exact .inl h0
 ·split at h1
  ·exact .inr h1
  ·exact .inl h1
 ·simp only[List.mem_cons,List.not_mem_nil,or_false] at hb;rcases hb with rfl | rfl
  ·have:=z0 x hx;omega
  ·have:=z1 x hx;omega
theorem ShA.ext {act:Int}{bk:List zB}(h:ShA act bk)(i:Nat)(ds:List (List UInt8)):ShA act (qSf bk i ds):=by
 obtain⟨b0,b1,rfl,h0,h1,z0,z1⟩:=h;rw[zDy];refine⟨_,_,rfl,zC.trans h0,zC.trans h1,?_,?_⟩
 ·unfold qDc;split
  ·exact zBp z0 (qJh (a:=0))
  ·exact z0
 ·unfold qDc;split
  ·exact zBp z1 (qJh (a:=1))
  ·exact z1
def RQ (act:Int)(n:Nat)(x:Rg):Prop:=ShA act x.1∧0≤x.2∧x.2≤n
theorem RQ.zero {act:Int}(ha:1≤act∧act≤3):RQ act 0 (rp0 act):=⟨ShA.new ha,by simp[rp0],by simp[rp0]⟩
theorem RQ.up {act:Int}{n m:Nat}{x:Rg}(h:RQ act n x)(hm:n≤m):RQ act m x:=⟨h.1,h.2.1,by have:=h.2.2;omega⟩
theorem RQ.ext {act:Int}{n:Nat}{x:Rg}(h:RQ act n x)(l i:Int)(ds:List (List UInt8)):RQ act (n+1) (jCa x l i ds):=by
 unfold jCa;split
 ·exact⟨h.1.ext _ _,by have:=h.2.1;simp only;omega,by have:=h.2.2;simp only;omega⟩
 ·exact h.up oM
theorem RQ.step {act:Int}{n:Nat}{x:Rg}{e:Ev}(h:RQ act n x):RQ act (n+1) (rpS x e):=by
 unfold rpS;split
 ·exact h.up oM
 ·exact h.ext _ _ _
structure Pu where
 kd:Int
 ar:Int
 ht:Int
 po:List UInt8
 un:List UInt8
 deriving Inhabited
structure Sn where
 au:List UInt8
 sd:List UInt8
 da:List UInt8
 deriving Inhabited
structure Obj where
 p:Pu
 s:Sn
 h:Int
 deriving Inhabited
structure Ses where
 kd:Int
 no:List UInt8
 dg:List UInt8
 up:Int
 lo:Int
 cm:Int
 dl:Int
 av:Bool
 deriving Inhabited
structure Ix where
 n:Int
 kd:Int
 ar:Int
 sz:Int
 po:List UInt8
 au:List UInt8
 wr:Bool
 da:List UInt8
 deriving Inhabited
structure Lv where
 un:List UInt8
 us:Int
 deriving Inhabited
structure Lk where
 fa:Int
 mx:Int
 rc:Int
 si:Int
 cl:Int
 pe:Int
 deriving Inhabited
structure Sa where
 sd:List (List UInt8)
 au:List (List UInt8)
 en:List UInt8
 act:Int
 res:Int
 rst:Int
 clk:Int
 ord:Bool
 bk:List zB
 u:Int
 mc:Int
 ix:List Ix
 lk:Lk
 ks:List Lv
 deriving Inhabited
structure St where
 a:Sa
 on:Bool
 off:Bool
 bk:List zB
 u:Int
 clk:Int
 safe:Bool
 dr:Int
 ses:List Ses
 obs:List Obj
 rl:List Int
 wl:List Int
 deriving Inhabited
structure Az where
 s:Int
 no:List UInt8
 va:List UInt8
 deriving Inhabited
structure Rq where
 co:Int
 hs:List Int
 au:List Az
 ns:List Int
 bl:List (List UInt8)
 deriving Inhabited
structure Rs where
 e:Int
 ns:List Int
 bl:List (List UInt8)
 no:List (List UInt8)
 deriving Inhabited
structure Asr where
 kd:Int
 s0:Int
 s1:Int
 dg:List UInt8
 n:Int
 op:Int
 od:List UInt8
 nm:List UInt8
 rf:List UInt8
 br:List (List UInt8)
 deriving Inhabited
def iT (n:Int):T:= .int .i64 n
def puA (x:Pu):T:= .agg [.int .i64 x.kd,.int .i64 x.ar,.int .i64 x.ht,.sl (x.po.map qA),.sl (x.un.map qA)]
def snA (x:Sn):T:= .agg [.sl (x.au.map qA),.sl (x.sd.map qA),.sl (x.da.map qA)]
def wI (x:Obj):T:= .agg [.int .i64 x.p.kd,.int .i64 x.p.ar,.int .i64 x.p.ht,.sl (x.p.po.map qA),.sl (x.p.un.map qA),.sl (x.s.au.map qA),.sl (x.s.sd.map qA),.sl (x.s.da.map qA),.int .i64 x.h]
def jL (x:Ses):T:= .agg [.int .i64 x.kd,.sl (x.no.map qA),.sl (x.dg.map qA),.int .i64 x.up,.int .i64 x.lo,.int .i64 x.cm,.int .i64 x.dl,.bool x.av]
def ixA (x:Ix):T:= .agg [.int .i64 x.n,.int .i64 x.kd,.int .i64 x.ar,.int .i64 x.sz,.sl (x.po.map qA),.sl (x.au.map qA),.bool x.wr,.sl (x.da.map qA)]
def lvA (x:Lv):T:= .agg [.sl (x.un.map qA),.int .i64 x.us]
def lkA (x:Lk):T:= .agg [.int .i64 x.fa,.int .i64 x.mx,.int .i64 x.rc,.int .i64 x.si,.int .i64 x.cl,.int .i64 x.pe]
def saA (x:Sa):T:= .agg [.sl (x.sd.map bsT),.sl (x.au.map bsT),.sl (x.en.map qA),.int .i64 x.act,.int .i64 x.res,.int .i64 x.rst,.int .i64 x.clk,.bool x.ord,.sl (x.bk.map yS),.int .i64 x.u,.int .i64 x.mc,.sl (x.ix.map ixA),
 .int .i64 x.lk.fa,.int .i64 x.lk.mx,.int .i64 x.lk.rc,.int .i64 x.lk.si,.int .i64 x.lk.cl,.int .i64 x.lk.pe,.sl (x.ks.map lvA)]
def stA (x:St):T:= .agg [.sl (x.a.sd.map bsT),.sl (x.a.au.map bsT),.sl (x.a.en.map qA),.int .i64 x.a.act,.int .i64 x.a.res,.int .i64 x.a.rst,.int .i64 x.a.clk,.bool x.a.ord,.sl (x.a.bk.map yS),.int .i64 x.a.u,.int .i64 x.a.mc,.sl (x.a.ix.map ixA),
 .int .i64 x.a.lk.fa,.int .i64 x.a.lk.mx,.int .i64 x.a.lk.rc,.int .i64 x.a.lk.si,.int .i64 x.a.lk.cl,.int .i64 x.a.lk.pe,.sl (x.a.ks.map lvA),
 .bool x.on,.bool x.off,.sl (x.bk.map yS),.int .i64 x.u,.int .i64 x.clk,.bool x.safe,.int .i64 x.dr,.sl (x.ses.map jL),.sl (x.obs.map wI),.sl (x.rl.map iT),.sl (x.wl.map iT)]
def azA (x:Az):T:= .agg [.int .i64 x.s,.sl (x.no.map qA),.sl (x.va.map qA)]
def rqA (x:Rq):T:= .agg [.int .i64 x.co,.sl (x.hs.map iT),.sl (x.au.map azA),.sl (x.ns.map iT),.sl (x.bl.map bsT)]
def rsA (x:Rs):T:= .agg [.int .i64 x.e,.sl (x.ns.map iT),.sl (x.bl.map bsT),.sl (x.no.map bsT)]
def vN (x:Asr):T:= .agg [.int .i64 x.kd,.int .i64 x.s0,.int .i64 x.s1,.sl (x.dg.map qA),.int .i64 x.n,.int .i64 x.op,.sl (x.od.map qA),.sl (x.nm.map qA),.sl (x.rf.map qA),.sl (x.br.map bsT)]
theorem zAy:(∀ (a b:V) (l m:List V),(a::l=b::m)=(a=b∧l=m))∧(∀ (a b:T) (l m:List T),(a::l=b::m)=(a=b∧l=m))∧(∀ a b,(V.t a=V.t b)=(a=b))∧(∀ k (a b:Int),(T.int k a=T.int k b)=(a=b))∧(∀ a b,(T.bool a=T.bool b)=(a=b))∧
  (∀ a b,(T.sl a=T.sl b)=(a=b))∧(∀ a b,(T.agg a=T.agg b)=(a=b))∧(∀ p:Prop,(p∧True)=p)∧(∀ p:Prop,(True∧p)=p)∧(∀ l m:List UInt8,(l.map qA=m.map qA)=(l=m))∧(∀ l m:List (List UInt8),(l.map bsT=m.map bsT)=(l=m))∧(∀ a b:UInt8,(qA a=qA b)=(a=b))∧
  (∀ l m:List zB,(l.map yS=m.map yS)=(l=m))∧(∀ l m:List Int,(l.map iT=m.map iT)=(l=m)):=by
 refine⟨sM,sM,sM,sM,sM,sM,sM,sM,sM,fun _ _=>yD,fun _ _=>qHj,fun _ _=>qP6,fun l m=>propext ⟨qB9 (fun _ _=>qVl),fun h=>by rw[h]⟩,fun l m=>propext ⟨qB9 (fun a b h=>by simpa [iT] using h),fun h=>by rw[h]⟩⟩
abbrev EI {α:Type}(f:α→T):Prop:=(∀ a b,(f a=f b)=(a=b))∧(∀ l m:List α,(l.map f=m.map f)=(l=m))
theorem qDt {α:Type}{f:α→T}(h : ∀ a b,f a=f b→a=b):EI f:=⟨fun a b=>propext ⟨h a b,fun h=>by rw[h]⟩,fun l m=>propext ⟨qB9 h,fun h=>by rw[h]⟩⟩
theorem jPh:EI puA:=qDt (by rintro⟨⟩ ⟨⟩ h;simp only[puA,zAy] at h;obtain⟨rfl,rfl,rfl,rfl,rfl⟩:=h;rfl)
theorem jQb:EI snA:=qDt (by rintro⟨⟩ ⟨⟩ h;simp only[snA,zAy] at h;obtain⟨rfl,rfl,rfl⟩:=h;rfl)
theorem zZ6:EI wI:=qDt (by rintro⟨⟨⟩,⟨⟩,_⟩ ⟨⟨⟩,⟨⟩,_⟩ h;simp only[wI,zAy] at h;obtain⟨rfl,rfl,rfl,rfl,rfl,rfl,rfl,rfl,rfl⟩:=h;rfl)
theorem jAq:EI jL:=qDt (by rintro⟨⟩ ⟨⟩ h;simp only[jL,zAy] at h;obtain⟨rfl,rfl,rfl,rfl,rfl,rfl,rfl,rfl⟩:=h;rfl)
theorem jCt:EI ixA:=qDt (by rintro⟨⟩ ⟨⟩ h;simp only[ixA,zAy] at h;obtain⟨rfl,rfl,rfl,rfl,rfl,rfl,rfl,rfl⟩:=h;rfl)
theorem jC7:EI lvA:=qDt (by rintro⟨⟩ ⟨⟩ h;simp only[lvA,zAy] at h;obtain⟨rfl,rfl⟩:=h;rfl)
theorem jOt:EI lkA:=qDt (by rintro⟨⟩ ⟨⟩ h;simp only[lkA,zAy] at h;obtain⟨rfl,rfl,rfl,rfl,rfl,rfl⟩:=h;rfl)
theorem jG4:EI azA:=qDt (by rintro⟨⟩ ⟨⟩ h;simp only[azA,zAy] at h;obtain⟨rfl,rfl,rfl⟩:=h;rfl)
theorem jGz:EI vN:=qDt (by rintro⟨⟩ ⟨⟩ h;simp only[vN,zAy] at h;obtain⟨rfl,rfl,rfl,rfl,rfl,rfl,rfl,rfl,rfl,rfl⟩:=h;rfl)
theorem jPs:EI rqA:=qDt (by rintro⟨⟩ ⟨⟩ h;simp only[rqA,zAy,jG4] at h;obtain⟨rfl,rfl,rfl,rfl,rfl⟩:=h;rfl)
theorem jPu:EI rsA:=qDt (by rintro⟨⟩ ⟨⟩ h;simp only[rsA,zAy] at h;obtain⟨rfl,rfl,rfl,rfl⟩:=h;rfl)
theorem jP2:EI saA:=qDt (by rintro⟨_,_,_,_,_,_,_,_,_,_,_,_,⟨⟩,_⟩ ⟨_,_,_,_,_,_,_,_,_,_,_,_,⟨⟩,_⟩ h;simp only[saA,zAy,jCt,jC7] at h;obtain⟨rfl,rfl,rfl,rfl,rfl,rfl,rfl,rfl,rfl,rfl,rfl,rfl,rfl,rfl,rfl,rfl,rfl,rfl,rfl⟩:=h;rfl)
theorem jQc:EI stA:=qDt (by rintro⟨⟨_,_,_,_,_,_,_,_,_,_,_,_,⟨⟩,_⟩,_,_,_,_,_,_,_,_,_,_,_⟩ ⟨⟨_,_,_,_,_,_,_,_,_,_,_,_,⟨⟩,_⟩,_,_,_,_,_,_,_,_,_,_,_⟩ h;simp only[stA,zAy,jCt,jC7,jAq,zZ6] at h;obtain⟨rfl,rfl,rfl,rfl,rfl,rfl,rfl,rfl,rfl,rfl,rfl,rfl,rfl,rfl,rfl,rfl,rfl,rfl,rfl,rfl,rfl,rfl,rfl,rfl,rfl,rfl,rfl,rfl,rfl,rfl⟩:=h;rfl)
theorem jOb:EI puA∧EI snA∧EI wI∧EI jL∧EI ixA∧EI lvA∧EI lkA∧EI azA∧EI vN∧EI rqA∧EI rsA∧EI saA∧EI stA:=⟨jPh,jQb,zZ6,jAq,jCt,jC7,jOt,jG4,jGz,jPs,jPu,jP2,jQc⟩
def Pu.Ok (p:Pu):Prop:=(0≤p.kd∧p.kd≤3)∧(0≤p.ar∧p.ar≤7)∧(0≤p.ht∧p.ht≤3)∧p.po.length≤32∧p.un.length≤32
def Sn.Ok (s:Sn):Prop:=s.au.length≤32∧s.sd.length≤32∧s.da.length≤128
def Obj.Ok (x:Obj):Prop:=x.p.Ok∧x.s.Ok∧(0≤x.h∧x.h≤2)
def Ses.Ok (x:Ses):Prop:=(0≤x.kd∧x.kd≤3)∧x.no.length≤32∧x.dg.length≤32∧(0≤x.lo∧x.lo≤31)∧(0≤x.dl∧x.dl≤1100000000000000)
def Ix.Ok (x:Ix):Prop:=(0≤x.n∧x.n≤255)∧(0≤x.kd∧x.kd≤4)∧(0≤x.ar∧x.ar≤127)∧(0≤x.sz∧x.sz≤128)∧x.po.length≤32∧x.au.length≤32∧x.da.length≤128∧(x.kd=3→x.da.length=8)
def Lv.Ok (x:Lv):Prop:=x.un.length≤32∧0≤x.us∧x.us≤8
def Lk.Ok (x:Lk):Prop:=(0≤x.fa∧x.fa≤100)∧(0≤x.mx∧x.mx≤100)∧(0≤x.rc∧x.rc≤1048576)∧(0≤x.si∧x.si≤1100000000000000)∧(0≤x.cl∧x.cl≤1100000000000000)∧(0≤x.pe∧x.pe≤1048576)
def BkS (act:Int)(bk:List zB):Prop:=bk=[]∨(1≤act∧act≤3)∧ShA act bk
theorem BkS.rv {act:Int}{bk:List zB}(h:BkS act bk):RV bk:=by
 rcases h with rfl | ⟨_,h⟩
 ·exact⟨.nil,sM⟩
 ·exact h.rv
structure Sa.Ok (s:Sa):Prop where
 sd:s.sd.length=3 ∧ ∀ x∈s.sd,x.length≤32
 au:s.au.length=4 ∧ ∀ x∈s.au,x.length≤32
 en:s.en.length=32
 act:0≤s.act∧s.act≤3
 res:0≤s.res
 rst:0≤s.rst
 clk:0≤s.clk∧s.clk≤1099511627776
 bk:BkS s.act s.bk
 u:0≤s.u
 mc:0≤s.mc∧s.mc≤1099511627776
 ix:s.ix.length≤6 ∧ ∀ x∈s.ix,x.Ok
 lk:s.lk.Ok
 ks:s.ks.length≤8 ∧ ∀ x∈s.ks,x.Ok
structure St.Ok (s:St):Prop where
 a:s.a.Ok
 bk:BkS s.a.act s.bk
 u:0≤s.u
 clk:0≤s.clk∧s.clk≤1099511627776
 dr:0≤s.dr
 ses:s.ses.length=3 ∧ ∀ x∈s.ses,x.Ok
 obs:s.obs.length=3 ∧ ∀ x∈s.obs,x.Ok
def St.cn (s:St)(m:Int):Prop:=s.a.res≤m∧s.a.rst≤m∧s.a.u≤m∧s.u≤m∧s.dr≤m∧(s.rl.length:Int)≤m∧(s.wl.length:Int)≤m
def St.up (k:Int)(s t:St):Prop := ∀ m,s.cn m→t.cn (m+k)
theorem St.up.trans {k l:Int}{s t v:St}(h:s.up k t)(g:t.up l v):s.up (k+l) v:=fun m hm=>by rw[←Int.add_assoc];exact g _ (h m hm)
theorem St.cn.le {s:St}{m n:Int}(h:s.cn m)(e:m≤n):s.cn n:=by unfold St.cn at *;omega
theorem St.up.le {k l:Int}{s t:St}(h:s.up k t)(e:k≤l):s.up l t:=fun m hm=>(h m hm).le oM
theorem St.up.rfl' {s:St}{k:Int}(h:0≤k):s.up k s:=fun m hm=>hm.le oM
theorem zUm {a b:UInt8}:qGy .or (qA a) (qA b)=some (qA (a ||| b)):=by
 change some (T.int .u8 (IntKind.u8.wrap ((BitVec.ofInt 8 (a.toNat:Int) ||| BitVec.ofInt 8 (b.toNat:Int)).toNat:Int)))=_;have e : ∀ x:UInt8,BitVec.ofInt 8 (x.toNat:Int)=x.toBitVec:=fun x=>BitVec.eq_of_toNat_eq sM
 rw[e,e,←UInt8.toBitVec_or,qL2];have:=(a ||| b).toNat_lt;unfold qA;rw[UInt8.toNat_toBitVec];congr 2;omega
abbrev tmI (n:Int):Prop:=0≤n∧n≤1099511627776
def ixP:List Ix→Int→Nat→Int
 | [],_,_ => -1
 | x::r,h,k=>if h=256+x.n then (k:Int) else ixP r h (k+1)
def slP:List Obj→Int→Nat→Int
 | [],_,_ => -1
 | x::r,h,k=>if h=512+(k:Int)∧x.p.kd≠0 then (k:Int) else slP r h (k+1)
end Go.Eng
end
