/- A part of an abstract machine, its walks, their tie. -/
import Derived.Test.YtekghmfbgbhobaaGreatDoorD20
set_option linter.all false
section
set_option maxHeartbeats 64000000
set_option maxRecDepth 20000
namespace Go.Eng
variable (tab:Tab) (gl:Gl)
def evB (bk:List zB)(n:Nat)(data:List UInt8):List zB:=qSa bk n (qVq bk data)
theorem RK.cases {bk:List zB}(h:RK bk):bk=[] ∨ ∃ b0 b1,bk=[b0,b1]∧qTo b0∧qTo b1:=by
 cases h with
 | nil=>exact .inl rfl
 | two b0 b1 h0 h1=>exact .inr ⟨b0,b1,rfl,h0,h1⟩
theorem zDt {b0 b1:zB}{i:Nat}{ds:List (List UInt8)}:qSa [b0,b1] i ds=[qC9 0 b0 i (ds.getD 0 []),qC9 1 b1 i (ds.getD 1 [])]:=rfl
theorem RV.ev {bk:List zB}(h:RV bk)(n:Nat)(d:List UInt8):RV (evB bk n d):=h.ext _ _
def yT:Ct where
 α:=List UInt8×Nat×Int
 aS x:=[.t (.sl (x.1.map qA)),.t (.int .i64 x.2.1),.t (.int .i64 x.2.2)]
 ins _:=[]
 pre x:=x.1.length<1000000000∧1≤x.2.1∧x.2.1≤8
 r x:= .sl 0 0 (x.1.length+x.2.1)
 outs x:=[.live 1 (((x.1++beI x.2.1 x.2.2 x.2.1).map qA).map V.t) true false]
 inj:=by
  rintro⟨a,s,n⟩ ⟨c,t,m⟩ h _;simp only[List.cons.injEq,V.t.injEq,T.sl.injEq,T.int.injEq,true_and,and_true,yD,Int.natCast_inj] at h;obtain⟨rfl,rfl,rfl⟩:=h;exact⟨rfl,rfl⟩
theorem zNm {b:List UInt8}{n:Int}(hb:b.length<1000000000):yT.fs [.t (.sl (b.map qA)),.t (.int .i64 2),.t (.int .i64 n)] []=some (.sl 0 0 (b.length+2),[.live 1 (((b++beI 2 n 2).map qA).map V.t) true false]):=yT.eq (b,2,n) ⟨hb,by show 1≤2;omega,by show 2≤8;omega⟩
theorem qA2 {s k:Nat}{n:Int}:(beI s n k).length=k:=by simp[beI]
def qMm (bk:List zB)(a:Nat)(s:Int):Nat→List UInt8
 | 0=>[]
 | i+1=>if s/2^i%2=1 then qMm bk a s i++zNs bk a i else qMm bk a s i
theorem zAh {n:Nat}:(zYv n).length=4:=rfl
theorem zLi {bk:List zB}{a:Nat}{s:Int}:qMm bk a s 0=[]:=rfl
theorem zLh {bk:List zB}{a i:Nat}{s:Int}(h:s/2^i%2=1):qMm bk a s (i+1)=qMm bk a s i++zNs bk a i:=if_pos h
theorem qUv {bk:List zB}{a i:Nat}{s:Int}(h : ¬ s/2^i%2=1):qMm bk a s (i+1)=qMm bk a s i:=if_neg h
def PD (A B:Prop)(k:Nat):Prop:=(1≤k→A)∧(2≤k→B)
def zUa (s:Int):Prop:=s<0∨65535<s
instance {s:Int}:Decidable (zUa s):=inferInstanceAs (Decidable (_∨_))
def zHu (s0 s1:Int):List UInt8:=beI 2 s0 2++beI 2 s1 2
def jAy (bk:List zB)(s0 s1:Int):List UInt8:=qMm bk 0 s0 16++qMm bk 1 s1 16
def zKl (bk:List zB)(s0 s1:Int):Int:=if zUa s0∨zUa s1 then 1 else if (s0≠0∧onB bk 0=false)∨(s1≠0∧onB bk 1=false) then 27 else 0
def zTu (bk:List zB)(s0 s1:Int):V:=if zKl bk s0 s1=0 then .tup [.sl 0 0 32,.t (.int .i64 0)] else .tup [.nil,.t (.int .i64 (zKl bk s0 s1))]
def zTt (bk:List zB)(s0 s1:Int):List Ob:=if zKl bk s0 s1=0 then [.live 1 (((zHt 5 [zHu s0 s1,jAy bk s0 s1]).map qA).map V.t) true false] else []
theorem qFp {bk:List zB}(h:RV bk)(a:Nat)(s:Int) : ∀ i,(qMm bk a s i).length≤64*i
 | 0=>by simp[qMm]
 | i+1=>by
  have ih:=qFp h a s i;have hv:(zNs bk a i).length≤64:=by
   unfold zNs;rcases h.cases with rfl | ⟨b0,b1,rfl,_,_,m0,m1⟩
   ·simp
   ·match a with
    | 0=>exact qI1 m0
    | 1=>exact qI1 m1
    | a+2=>simp
  unfold qMm;split
  ·rw[List.length_append];omega
  ·omega
def qA5:Ct where
 α:=Nat×List (List UInt8)
 aS x:=[.t (.int .i64 x.1),.t (.sl (x.2.map bsT))]
 ins _:=[]
 pre x:=x.1<256∧(yB x.1 x.2).length<1000000000
 r _:= .sl 0 0 32
 outs x:=[.live 1 (((zHt x.1 x.2).map qA).map V.t) true false]
 inj:=by
  rintro⟨a,b⟩ ⟨c,d⟩ h _;simp[qHe,Int.natCast_inj] at h;obtain⟨rfl,rfl⟩:=h;exact⟨rfl,rfl⟩
theorem zU8 {x y:List UInt8}(h:(yB 5 [x,y]).length<1000000000):qA5.fs [.t (.int .i64 5),.t (.sl [.sl (x.map qA),.sl (y.map qA)])] []=some (.sl 0 0 32,[.live 1 (((zHt 5 [x,y]).map qA).map V.t) true false]):=qA5.eq (5,[x,y]) ⟨by show 5<256;omega,h⟩
def jXs:AC:=
 (.seq
 (.seq
 (rG 53248 [mv 33 7,oO 34 (.faddr 0) [.tmp 1],oO 35 (.load 1 false) [.tmp 34],mv 36 6,oO 37 (.iaddr 1) [.tmp 35,.tmp 36],oO 38 (.load 1 false) [.tmp 37],oO 39 .len [.tmp 38],bT 40 .lss 33 39])
 (.cond (.tmp 40)
 .skip
 (.exit 4)))
 (.seq
 (.block 5
 (rG 61440 [mv 43 5,oO 44 (.faddr 0) [.tmp 1],oO 45 (.load 1 false) [.tmp 44],mv 46 6,oO 47 (.iaddr 1) [.tmp 45,.tmp 46],oO 48 (.load 1 false) [.tmp 47],mv 49 7,oO 50 (.iaddr 1) [.tmp 48,.tmp 49],oO 51 (.load 1 false) [.tmp 50],oO 52 (.append 1 1) [.tmp 43,.tmp 51],mv 5 52]))
 (rG 57344 [mv 41 7,bN 42 .add 41 1,mv 7 42])))
def jXo:AC:=
 (.seq
 (.seq
 (rG 40960 [mv 26 6,oO 27 (.faddr 0) [.tmp 1],oO 28 (.load 1 false) [.tmp 27],oO 29 .len [.tmp 28],bT 30 .lss 26 29])
 (.cond (.tmp 30)
 .skip
 (.exit 2)))
 (.seq
 (.block 3
 (.seq
 (rG 49152 [mC 7 (.t (.int .i64 0))])
 (.block 4
 (.loop jXs))))
 (rG 45056 [mv 31 6,bN 32 .add 31 1,mv 6 32])))
def zAu (bk:List zB)(u:Int):List UInt8:=UInt8.ofNat (zGx bk).toNat::beI 8 u 8
theorem qI0 {bk:List zB}{u:Int}:(zAu bk u).length=9:=by simp[zAu,beI]
def qBh (bk:List zB)(u:Int):List UInt8:=zAu bk u++bk.flatten.flatten
theorem qFe {b:zB}(h : ∀ x∈b,x.length≤64) : ∀ i,(List.take i b).flatten.length≤64*i
 | 0=>sM
 | i+1=>by
  have ih:=qFe h i;by_cases hi:i<List.length b
  ·rw[qCe (d:=[]) hi,List.flatten_append,List.length_append];have:=qI1 (n:=i) h;simp only[List.flatten_cons,List.flatten_nil,List.append_nil];omega
  ·rw[List.take_of_length_le oM,←List.take_of_length_le (l:=b) (i:=i) oM];omega
theorem qRa {b:zB}{i:Nat}(h:i<List.length b):(List.take (i+1) b).flatten=(List.take i b).flatten++b.getD i []:=by
 rw[qCe (d:=[]) h,List.flatten_append];simp
theorem qSn {b:List UInt8}{n:Int}(hb:b.length<1000000000):yT.fs [.t (.sl (b.map qA)),.t (.int .i64 8),.t (.int .i64 n)] []=some (.sl 0 0 (b.length+8),[.live 1 (((b++beI 8 n 8).map qA).map V.t) true false]):=yT.eq (b,8,n) ⟨hb,by show 1≤8;omega,by show 8≤8;omega⟩
theorem zGy {bk:List zB}(hk:RK bk):0≤zGx bk∧zGx bk<4:=by
 rcases hk.cases with rfl | ⟨b0,b1,rfl,h0,h1⟩
 ·exact⟨by decide,by decide⟩
 ·show 0≤qZ8 b0 b1∧qZ8 b0 b1<4;unfold qZ8;split<;>split<;>decide
theorem qRp (h1:LkC tab 92 xJ)(h2:LkC tab 40 yT)(bk:List zB)(u:Int)(hv:RV bk) :
  wY.1.wp tab gl (qE 0 [.t (jN bk u)]) (qE 0 []) (xS [] [(2,none)] 0 (fun r o=>r = .sl 0 0 (qBh bk u).length∧o=[.live 1 (((qBh bk u).map qA).map V.t) true false])):=by
 have ha:=zOh (u:=u) hv.1;have hact:=zGy hv.1;obtain⟨m,hm⟩:=Int.eq_ofNat_of_zero_le hact.1;have hu:=qSn (b:=[UInt8.ofNat m]) (n:=u) sM;simp only[mcn] at hu;rw[hm] at ha;have hbk:UInt8.ofNat m::beI 8 u 8=zAu bk u:=by unfold zAu;rw[hm];rfl
 rcases hv.cases with rfl | ⟨b0,b1,rfl,g0,g1,m0,m1⟩
 ·rw[List.map_nil] at ha;simp(disch:=omega)only[go_sem,wY,h1,h2,ha,hu,List.map_nil];repeat refine And.intro rfl ?_
  refine qM 1 ?_;simp(disch:=omega)only[go_sem,qG];have e1:qBh [] u=zAu [] u:=by simp[qBh]
  rw[e1];refine⟨qI0.symm,?_⟩;rw[←hbk];rfl
 ·simp only[mcn,qVf] at ha;have q0:List.length b0≤16:=by rcases g0 with h | h<;>omega
  have q1:List.length b1≤16:=by rcases g1 with h | h<;>omega
  have f0:b0.flatten.length≤1024:=by have:=qFe m0 16;rw[List.take_of_length_le q0] at this;omega
  have f1:b1.flatten.length≤1024:=by have:=qFe m1 16;rw[List.take_of_length_le q1] at this;omega
  have hl9:=qI0 (bk:=[b0,b1]) (u:=u);generalize hH:zAu [b0,b1] u=H at *;simp(disch:=omega)only[go_sem,wY,h1,h2,ha,hu,mcn];repeat refine And.intro rfl ?_
  refine qD 2 (fun k=>match k with | 0=>[(1,.ref 4096 0 0),(3,.sl 9100 0 (List.length (H))),(16,.t (.int .i64 2)),(17,.t (.int .i64 0))] | 1=>[(1,.ref 4096 0 0),(3,.sl 9100 0 (List.length (H++b0.flatten))),(16,.t (.int .i64 2)),(17,.t (.int .i64 1))] | _=>[(1,.ref 4096 0 0),(3,.sl 9100 0 (List.length (H++b0.flatten++b1.flatten))),(16,.t (.int .i64 2)),(17,.t (.int .i64 2))]) (fun k=>match k with | 0=>[(9100,.live 1 (((H).map qA).map V.t) true false),(4096,.live 2 [.t (jN [b0,b1] u)] true true)] | 1=>[(9100,.live 1 (((H++b0.flatten).map qA).map V.t) true false),(4096,.live 2 [.t (jN [b0,b1] u)] true true)] | _=>[(9100,.live 1 (((H++b0.flatten++b1.flatten).map qA).map V.t) true false),(4096,.live 2 [.t (jN [b0,b1] u)] true true)]) ?_ (fun k hk=>?_)
  ·refine qI.rd (fun j=>if j=9100 then 8288 else j) ?_ ?_ rfl;all_goals simp(disch:=omega)only[go_sem,mcn]
   ·exact hl9.symm
   ·rw[←hbk];rfl
  ·rcases (show k=0∨k=1∨k=2 by omega) with rfl | rfl | rfl
   ·simp(disch:=omega)only[go_sem,mcn];refine qD (List.length b0) (fun i=>[(1,.ref 4096 0 0),(3,.sl 9100 0 (List.length (H++(List.take i b0).flatten))),(16,.t (.int .i64 2)),(17,.t (.int .i64 0)),(24,.t (.sl (b0.map bsT))),(25,.t (.int .i64 (List.length b0))),(26,.t (.int .i64 (i:Nat)))]) (fun i=>[(9100,.live 1 (((H++(List.take i b0).flatten).map qA).map V.t) true false),(4096,.live 2 [.t (jN [b0,b1] u)] true true)]) ?_ (fun i hi=>?_)
    ·refine qI.rd id ?_ ?_ rfl;all_goals simp(disch:=omega)only[go_sem,id,List.take_zero,List.flatten_nil,List.append_nil,mcn]
    ·have hfl:=qFe m0 i;by_cases hlt:i<List.length b0
     ·have hg:=qI1 (n:=i) m0;have hts:=qRa (b:=b0) hlt;simp(disch:=omega)only[go_sem,mcn];refine⟨hlt,qI.rd (fun j=>if j=9100 then 36896 else j) ?_ ?_ rfl⟩;all_goals simp(disch:=omega)only[go_sem,hts,List.append_assoc]
      all_goals try omega
     ·have e:i=List.length b0:=oM;subst e;simp(disch:=omega)only[go_sem,mcn,List.take_length];refine qI.rd id ?_ ?_ rfl;all_goals simp(disch:=omega)only[go_sem,id,List.take_length]
   ·simp(disch:=omega)only[go_sem,mcn];refine qD (List.length b1) (fun i=>[(1,.ref 4096 0 0),(3,.sl 9100 0 (List.length (H++b0.flatten++(List.take i b1).flatten))),(16,.t (.int .i64 2)),(17,.t (.int .i64 1)),(24,.t (.sl (b1.map bsT))),(25,.t (.int .i64 (List.length b1))),(26,.t (.int .i64 (i:Nat)))]) (fun i=>[(9100,.live 1 (((H++b0.flatten++(List.take i b1).flatten).map qA).map V.t) true false),(4096,.live 2 [.t (jN [b0,b1] u)] true true)]) ?_ (fun i hi=>?_)
    ·refine qI.rd id ?_ ?_ rfl;all_goals simp(disch:=omega)only[go_sem,id,List.take_zero,List.flatten_nil,List.append_nil,mcn]
    ·have hfl:=qFe m1 i;by_cases hlt:i<List.length b1
     ·have hg:=qI1 (n:=i) m1;have hts:=qRa (b:=b1) hlt;simp(disch:=omega)only[go_sem,mcn];refine⟨hlt,qI.rd (fun j=>if j=9100 then 36896 else j) ?_ ?_ rfl⟩;all_goals simp(disch:=omega)only[go_sem,hts,List.append_assoc]
      all_goals try omega
     ·have e:i=List.length b1:=oM;subst e;simp(disch:=omega)only[go_sem,mcn,List.take_length];refine qI.rd id ?_ ?_ rfl;all_goals simp(disch:=omega)only[go_sem,id,List.take_length]
   ·simp(disch:=omega)only[go_sem,mcn];have e1:qBh [b0,b1] u=H++List.flatten b0++List.flatten b1:=by rw[qBh,hH];simp
    rw[e1,List.length_append,List.length_append];exact⟨rfl,rfl⟩
theorem zC3 (h1:LkC tab 74 yE)(h2:LkC tab 42 yT)(bk:List zB)(u:Int)(hv:RV bk) :
  qGr.1.wp tab gl (qE 0 [.t (jN bk u)]) (qE 0 []) (xS [] [(2,none)] 0 (fun r o=>r = .sl 0 0 (qBh bk u).length∧o=[.live 1 (((qBh bk u).map qA).map V.t) true false])):=by
 have c0:=qEx (u:=u) (a:=0) hv.1 oM;have c1:=qEx (u:=u) (a:=1) hv.1 oM;rw[show ((0:Nat):Int)=0 from rfl] at c0;rw[show ((1:Nat):Int)=1 from rfl] at c1;have hact:=zGy hv.1;have hu : ∀ m:Nat,yT.fs [.t (.sl [qA (UInt8.ofNat m)]),.t (.int .i64 8),.t (.int .i64 u)] []=some (.sl 0 0 9,[.live 1 (((UInt8.ofNat m::beI 8 u 8).map qA).map V.t) true false]):=fun m=>qSn (b:=[UInt8.ofNat m]) (n:=u) sM
 have hu0:=hu 0;have hu1:=hu 1;have hu2:=hu 2;have hu3:=hu 3;simp(disch:=omega)only[go_sem,↓reduceIte,Nat.reduceAdd,qGr];refine qM 3 ?_;rcases hv.cases with rfl | ⟨b0,b1,rfl,g0,g1,m0,m1⟩
 ·rw[List.map_nil] at c0 c1;have d0:onB [] 0=false:=rfl;have d1:onB [] 1=false:=rfl;rw[d0] at c0;rw[d1] at c1;have hw0:T.int .u8 (IntKind.u8.wrap 0)=qA (UInt8.ofNat 0):=rfl;simp(disch:=omega)only[go_sem,↓reduceIte,Nat.reduceAdd,Nat.reduceEqDiff,Nat.reduceLT,Nat.reduceLeDiff,Int.reduceLT,Int.reduceAdd,reduceCtorEq,qG,h1,h2,c0,c1,hw0,hu0,List.map_nil];repeat refine And.intro rfl ?_
  refine qM 1 ?_;simp(disch:=omega)only[go_sem,↓reduceIte,Nat.reduceAdd,Nat.reduceEqDiff,Nat.reduceLeDiff,Int.reduceLT,qG,jXo];have e1:qBh [] u=zAu [] u:=by simp[qBh]
  rw[e1];exact⟨qI0.symm,rfl⟩
 ·have q0:List.length b0≤16:=by rcases g0 with h | h<;>omega
  have q1:List.length b1≤16:=by rcases g1 with h | h<;>omega
  have f0:b0.flatten.length≤1024:=by have:=qFe m0 16;rw[List.take_of_length_le q0] at this;omega
  have f1:b1.flatten.length≤1024:=by have:=qFe m1 16;rw[List.take_of_length_le q1] at this;omega
  have hl9:=qI0 (bk:=[b0,b1]) (u:=u);simp only[mcn,qVf] at c0 c1;have fin : ∀ (m:Nat) (fs:Fs) (hs:Hs),UInt8.ofNat m::beI 8 u 8=zAu [b0,b1] u→qI fs hs [(1,.ref 4096 0 0),(5,.sl 32848 0 9),(6,.t (.int .i64 0))] [(32848,.live 1 (((UInt8.ofNat m::beI 8 u 8).map qA).map V.t) true false),(4096,.live 2 [.t (jN [b0,b1] u)] true true)]→
    qQn tab gl jXo fs hs (qS7 2 (jAk tab gl ((AC.reg 65536 none [⟨some 53,(.op .mov),[.tmp 5],none⟩,⟨some 2,(.op .mov),[.tmp 53],none⟩]).seq AC.ret) (xS [] [(2,none)] 0 (fun r o=>r = .sl 0 0 (qBh [b0,b1] u).length∧o=[.live 1 (((qBh [b0,b1] u).map qA).map V.t) true false])))):=by
   intro m fs hs hbk hw;refine qBi hw ?_;generalize hH:zAu [b0,b1] u=H at *;refine qD 2 (fun k=>match k with | 0=>[(1,.ref 4096 0 0),(5,.sl 9100 0 (List.length (H))),(6,.t (.int .i64 0))] | 1=>[(1,.ref 4096 0 0),(5,.sl 9100 0 (List.length (H++b0.flatten))),(6,.t (.int .i64 1))] | _=>[(1,.ref 4096 0 0),(5,.sl 9100 0 (List.length (H++b0.flatten++b1.flatten))),(6,.t (.int .i64 2))]) (fun k=>match k with | 0=>[(9100,.live 1 (((H).map qA).map V.t) true false),(4096,.live 2 [.t (jN [b0,b1] u)] true true)] | 1=>[(9100,.live 1 (((H++b0.flatten).map qA).map V.t) true false),(4096,.live 2 [.t (jN [b0,b1] u)] true true)] | _=>[(9100,.live 1 (((H++b0.flatten++b1.flatten).map qA).map V.t) true false),(4096,.live 2 [.t (jN [b0,b1] u)] true true)]) ?_ (fun k hk=>?_)
   ·refine qI.rd (fun j=>if j=9100 then 32848 else j) ?_ ?_ rfl;all_goals simp(disch:=omega)only[go_sem,↓reduceIte,Nat.reduceAdd,Nat.reduceEqDiff,Nat.reduceBEq,mcn]
    ·exact hl9.symm
    ·rw[←hbk];rfl
   ·rcases (show k=0∨k=1∨k=2 by omega) with rfl | rfl | rfl
    ·simp(disch:=omega)only[go_sem,↓reduceIte,Nat.reduceAdd,Nat.reduceEqDiff,Nat.reduceLeDiff,Int.reduceLT,jXo,mcn];refine qD (List.length b0) (fun i=>[(1,.ref 4096 0 0),(5,.sl 9100 0 (List.length (H++(List.take i b0).flatten))),(6,.t (.int .i64 0)),(7,.t (.int .i64 (i:Nat)))]) (fun i=>[(9100,.live 1 (((H++(List.take i b0).flatten).map qA).map V.t) true false),(4096,.live 2 [.t (jN [b0,b1] u)] true true)]) ?_ (fun i hi=>?_)
     ·refine qI.rd id ?_ ?_ rfl;all_goals simp(disch:=omega)only[go_sem,↓reduceIte,Nat.reduceAdd,Nat.reduceEqDiff,Nat.reduceBEq,id,List.take_zero,List.flatten_nil,List.append_nil,mcn]
     ·have hfl:=qFe m0 i;by_cases hlt:i<List.length b0
      ·have hg:=qI1 (n:=i) m0;have hts:=qRa (b:=b0) hlt;simp(disch:=omega)only[go_sem,↓reduceIte,Nat.reduceAdd,Nat.reduceEqDiff,Nat.reduceLeDiff,Int.reduceLE,jXs,mcn];refine⟨hlt,qI.rd (fun j=>if j=9100 then 61584 else j) ?_ ?_ rfl⟩;all_goals simp(disch:=omega)only[go_sem,↓reduceIte,Nat.reduceAdd,Nat.reduceEqDiff,Nat.reduceBEq,hts,List.append_assoc]
       all_goals try omega
      ·have e:i=List.length b0:=oM;subst e;simp(disch:=omega)only[go_sem,↓reduceIte,Nat.reduceAdd,Nat.reduceEqDiff,Nat.reduceLT,Nat.reduceLeDiff,Int.reduceLE,Int.reduceAdd,jXs,mcn,List.take_length];refine qI.rd id ?_ ?_ rfl;all_goals simp(disch:=omega)only[go_sem,↓reduceIte,Nat.reduceAdd,Nat.reduceEqDiff,Nat.reduceBEq,id,List.take_length]
    ·simp(disch:=omega)only[go_sem,↓reduceIte,Nat.reduceAdd,Nat.reduceEqDiff,Nat.reduceLeDiff,Int.reduceLT,jXo,mcn];refine qD (List.length b1) (fun i=>[(1,.ref 4096 0 0),(5,.sl 9100 0 (List.length (H++b0.flatten++(List.take i b1).flatten))),(6,.t (.int .i64 1)),(7,.t (.int .i64 (i:Nat)))]) (fun i=>[(9100,.live 1 (((H++b0.flatten++(List.take i b1).flatten).map qA).map V.t) true false),(4096,.live 2 [.t (jN [b0,b1] u)] true true)]) ?_ (fun i hi=>?_)
     ·refine qI.rd id ?_ ?_ rfl;all_goals simp(disch:=omega)only[go_sem,↓reduceIte,Nat.reduceAdd,Nat.reduceEqDiff,Nat.reduceBEq,id,List.take_zero,List.flatten_nil,List.append_nil,mcn]
     ·have hfl:=qFe m1 i;by_cases hlt:i<List.length b1
      ·have hg:=qI1 (n:=i) m1;have hts:=qRa (b:=b1) hlt;simp(disch:=omega)only[go_sem,↓reduceIte,Nat.reduceAdd,Nat.reduceEqDiff,Nat.reduceLeDiff,Int.reduceLE,jXs,mcn];refine⟨hlt,qI.rd (fun j=>if j=9100 then 61584 else j) ?_ ?_ rfl⟩;all_goals simp(disch:=omega)only[go_sem,↓reduceIte,Nat.reduceAdd,Nat.reduceEqDiff,Nat.reduceBEq,hts,List.append_assoc]
       all_goals try omega
      ·have e:i=List.length b1:=oM;subst e;simp(disch:=omega)only[go_sem,↓reduceIte,Nat.reduceAdd,Nat.reduceEqDiff,Nat.reduceLT,Nat.reduceLeDiff,Int.reduceLE,Int.reduceAdd,jXs,mcn,List.take_length];refine qI.rd id ?_ ?_ rfl;all_goals simp(disch:=omega)only[go_sem,↓reduceIte,Nat.reduceAdd,Nat.reduceEqDiff,Nat.reduceBEq,id,List.take_length]
    ·simp(disch:=omega)only[go_sem,↓reduceIte,Nat.reduceAdd,Nat.reduceEqDiff,Nat.reduceLeDiff,Int.reduceLT,jXo,mcn];have e1:qBh [b0,b1] u=H++List.flatten b0++List.flatten b1:=by rw[qBh,hH];simp
     rw[e1,List.length_append,List.length_append];exact⟨rfl,rfl⟩
  have hw0:T.int .u8 (IntKind.u8.wrap 0)=qA (UInt8.ofNat 0):=rfl;have hw1:T.int .u8 (IntKind.u8.wrap 1)=qA (UInt8.ofNat 1):=rfl;have hw2:T.int .u8 (IntKind.u8.wrap 2)=qA (UInt8.ofNat 2):=rfl;have hw3:T.int .u8 (IntKind.u8.wrap 3)=qA (UInt8.ofNat 3):=rfl;rcases g0 with z0 | z0<;>rcases g1 with z1 | z1
  ·have d0:onB [b0,b1] 0=false:=by simp[onB,z0]
   have d1:onB [b0,b1] 1=false:=by simp[onB,z1]
   rw[d0] at c0;rw[d1] at c1;simp(disch:=omega)only[go_sem,↓reduceIte,Nat.reduceAdd,Nat.reduceEqDiff,Nat.reduceLT,Nat.reduceLeDiff,Int.reduceLT,Int.reduceAdd,reduceCtorEq,qG,h1,h2,c0,c1,hw0,hw1,hw2,hw3,hu0,mcn,BitVec.reduceOfInt,BitVec.reduceOr,BitVec.reduceToNat];repeat refine And.intro rfl ?_
   refine fin 0 _ _ (by unfold zAu;simp[zGx,qZ8,z0,z1]) ?_;refine qI.rd id ?_ ?_ rfl;all_goals simp(disch:=omega)only[go_sem,↓reduceIte,Nat.reduceAdd,Nat.reduceEqDiff,Nat.reduceBEq,id,mcn]
  ·have d0:onB [b0,b1] 0=false:=by simp[onB,z0]
   have d1:onB [b0,b1] 1=true:=by simp[onB,z1]
   rw[d0] at c0;rw[d1] at c1;simp(disch:=omega)only[go_sem,↓reduceIte,Nat.reduceAdd,Nat.reduceEqDiff,Nat.reduceLT,Nat.reduceLeDiff,Int.reduceLT,Int.reduceAdd,Int.reduceMul,reduceCtorEq,Int.reducePow,qG,h1,h2,c0,c1,hw0,hw1,hw2,hw3,hu2,mcn,BitVec.reduceOfInt,BitVec.reduceOr,BitVec.reduceToNat];repeat refine And.intro rfl ?_
   refine fin 2 _ _ (by unfold zAu;simp[zGx,qZ8,z0,z1]) ?_;refine qI.rd id ?_ ?_ rfl;all_goals simp(disch:=omega)only[go_sem,↓reduceIte,Nat.reduceAdd,Nat.reduceEqDiff,Nat.reduceBEq,id,mcn]
  ·have d0:onB [b0,b1] 0=true:=by simp[onB,z0]
   have d1:onB [b0,b1] 1=false:=by simp[onB,z1]
   rw[d0] at c0;rw[d1] at c1;simp(disch:=omega)only[go_sem,↓reduceIte,Nat.reduceAdd,Nat.reduceEqDiff,Nat.reduceLT,Nat.reduceLeDiff,Int.reduceLT,Int.reduceAdd,Int.reduceMul,reduceCtorEq,Int.reducePow,qG,h1,h2,c0,c1,hw0,hw1,hw2,hw3,hu1,mcn,BitVec.reduceOfInt,BitVec.reduceOr,BitVec.reduceToNat];repeat refine And.intro rfl ?_
   refine fin 1 _ _ (by unfold zAu;simp[zGx,qZ8,z0,z1]) ?_;refine qI.rd id ?_ ?_ rfl;all_goals simp(disch:=omega)only[go_sem,↓reduceIte,Nat.reduceAdd,Nat.reduceEqDiff,Nat.reduceBEq,id,mcn]
  ·have d0:onB [b0,b1] 0=true:=by simp[onB,z0]
   have d1:onB [b0,b1] 1=true:=by simp[onB,z1]
   rw[d0] at c0;rw[d1] at c1;simp(disch:=omega)only[go_sem,↓reduceIte,Nat.reduceAdd,Nat.reduceEqDiff,Nat.reduceLT,Nat.reduceLeDiff,Int.reduceLT,Int.reduceAdd,Int.reduceMul,reduceCtorEq,Int.reducePow,qG,h1,h2,c0,c1,hw0,hw1,hw2,hw3,hu3,mcn,BitVec.reduceOfInt,BitVec.reduceOr,BitVec.reduceToNat];repeat refine And.intro rfl ?_
   refine fin 3 _ _ (by unfold zAu;simp[zGx,qZ8,z0,z1]) ?_;refine qI.rd id ?_ ?_ rfl;all_goals simp(disch:=omega)only[go_sem,↓reduceIte,Nat.reduceAdd,Nat.reduceEqDiff,Nat.reduceBEq,id,mcn]
abbrev rdO (s:Rd):Ob:= .live 3 [.t (.agg [.sl (s.1.map qA),.int .i64 (s.2.1:Int),.int .i64 s.2.2])] true true
def qDi:Ct where
 α:=List UInt8
 aS x:=[.t (.sl (x.map qA))]
 ins _:=[]
 pre x:=x.length<1000000000
 r _:= .ref 0 0 0
 outs x:=[yU (x,0,0)]
 inj:=by
  intro a b h _;simp only[List.cons.injEq,V.t.injEq,T.sl.injEq,and_true,yD] at h;subst h;exact⟨rfl,rfl⟩
theorem qLr {b:List UInt8}(h:b.length<1000000000):qDi.fs [.t (.sl (b.map qA))] []=some (.ref 0 0 0,[rdO (b,0,0)]):=qDi.eq b h
def qCn:Ct where
 α:=Rd×Nat
 aS x:=[.ref 0 0 0,.t (.int .i64 x.2)]
 ins x:=[yU x.1]
 pre x:=yH x.1∧1≤x.2∧x.2≤8
 r x:= .t (.int .i64 (qL x.1 x.2).1)
 outs x:=[yU (qL x.1 x.2).2]
 inj:=by
  rintro⟨s,a⟩ ⟨t,c⟩ h1 h2;simp only[List.cons.injEq,V.t.injEq,T.int.injEq,true_and,and_true,Int.natCast_inj] at h1;simp only[List.cons.injEq,and_true] at h2;subst h1;cases yV h2;exact⟨rfl,rfl⟩
theorem vB {s:Rd}{k:Nat}(h:yH s∧1≤k∧k≤8):qCn.fs [.ref 0 0 0,.t (.int .i64 k)] [rdO s]=some (.t (.int .i64 (qL s k).1),[rdO (qL s k).2]):=qCn.eq (s,k) h
def qKj:Ct where
 α:=Rd×Nat
 aS x:=[.ref 0 0 0,.t (.int .i64 x.2)]
 ins x:=[yU x.1]
 pre x:=yH x.1∧x.2≤1000000000
 r x:= .t (.sl ((qA8 x.1 x.2).1.map qA))
 outs x:=[yU (qA8 x.1 x.2).2]
 inj:=by
  rintro⟨s,a⟩ ⟨t,c⟩ h1 h2;simp only[List.cons.injEq,V.t.injEq,T.int.injEq,true_and,and_true,Int.natCast_inj] at h1;simp only[List.cons.injEq,and_true] at h2;subst h1;cases yV h2;exact⟨rfl,rfl⟩
theorem qI9 {s:Rd}{k:Nat}(h:yH s∧k≤1000000000):qKj.fs [.ref 0 0 0,.t (.int .i64 k)] [rdO s]=some (.t (.sl ((qA8 s k).1.map qA)),[rdO (qA8 s k).2]):=qKj.eq (s,k) h
def qR4:Ct where
 α:=Rd
 aS _:=[.ref 0 0 0]
 ins x:=[yU x]
 pre x:=yH x
 r x:= .t (.int .i64 x.2.2)
 outs x:=[yU x]
 inj:=by
  intro s t _ h2;simp only[List.cons.injEq,and_true] at h2;cases yV h2;exact⟨rfl,rfl⟩
theorem zH3 {s:Rd}(h:yH s):qR4.fs [.ref 0 0 0] [rdO s]=some (.t (.int .i64 s.2.2),[rdO s]):=qR4.eq s h
def qDh:Ct where
 α:=Rd
 aS _:=[.ref 0 0 0]
 ins x:=[yU x]
 pre x:=yH x
 r x:= .t (.int .i64 (vS x))
 outs x:=[yU x]
 inj:=by
  intro s t _ h2;simp only[List.cons.injEq,and_true] at h2;cases yV h2;exact⟨rfl,rfl⟩
theorem qPk {s:Rd}(h:yH s):qDh.fs [.ref 0 0 0] [rdO s]=some (.t (.int .i64 (vS s)),[rdO s]):=qDh.eq s h
theorem zR {s:Rd}{k:Nat}(h:yH s):yH (qL s k).2:=by
 unfold qL yH at *;split
 ·exact h
 ·split
  ·exact h
  ·split
   ·exact h
   ·exact⟨by simp only;omega,h.2⟩
theorem zK9 {s:Rd}{k:Nat}(h:yH s):yH (qA8 s k).2:=by
 unfold qA8 yH at *;split
 ·exact h
 ·split
  ·exact h
  ·exact⟨by simp only;omega,h.2⟩
theorem zK8 {s:Rd}{k:Nat}:(qA8 s k).1.length≤k:=by
 unfold qA8;split
 ·simp
 ·split
  ·simp
  ·simp only[List.length_take];omega
def zI (s:Rd)(z:Nat):Nat→List (List UInt8)×Rd
 | 0=>([],s)
 | n+1=>((zI s z n).1++[(qA8 (zI s z n).2 z).1],(qA8 (zI s z n).2 z).2)
theorem vR {s:Rd}{z:Nat}(h:yH s) : ∀ n,yH (zI s z n).2
 | 0=>h
 | n+1=>zK9 (vR h n)
theorem zQ {s:Rd}{z:Nat} : ∀ n,(zI s z n).1.length=n
 | 0=>rfl
 | n+1=>by simp[zI,zQ n]
theorem qZo (s:Int):(kD s=[]∧wQ.fs [.t (.int .i64 s)] []=some (.agg [.nil,.t (.int .i64 0)],[])) ∨ ∃ b0 b1:zB,kD s=[b0,b1]∧qTo b0∧qTo b1∧wQ.fs [.t (.int .i64 s)] []=some (.agg [.sl 0 0 2,.t (.int .i64 0)],[.live 1 [.sl 1 0 b0.length,.sl 2 0 b1.length] true false,.live 1 ((b0.map bsT).map V.t) true false,.live 1 ((b1.map bsT).map V.t) true false]):=by
 have h:=wQ.eq s trivial;rcases (zKx (s:=s)).cases with e | ⟨b0,b1,e,h0,h1,_,_⟩
 ·refine .inl ⟨e,h.trans ?_⟩;show some (twR (kD s) 0,twO (kD s))=_;rw[e];rfl
 ·refine .inr ⟨b0,b1,e,h0,h1,h.trans ?_⟩;show some (twR (kD s) 0,twO (kD s))=_;rw[e];rfl
def qVp (bk:List zB)(s:Rd):List zB×Rd:=match bk with
 | [b0,b1]=>([(zI s 20 (List.length b0)).1,(zI (zI s 20 (List.length b0)).2 32 (List.length b1)).1],(zI (zI s 20 (List.length b0)).2 32 (List.length b1)).2)
 | _=>([],s)
def qKk (s:Rd):Int:=(qL s 1).1
def dcU (s:Rd):Int:=(qL (qL s 1).2 8).1
def dcB (s:Rd):List zB×Rd:=qVp (kD (qKk s)) (qL (qL s 1).2 8).2
def dcR (b:List UInt8):V:=
 let s:Rd:=(b,0,0)
 if (qL s 1).2.2.2=0∧4≤qKk s then .tup [.t (jN [] 0),.t (.int .i64 1)]
 else if vS (dcB s).2≠0 then .tup [.t (jN [] 0),.t (.int .i64 (vS (dcB s).2))]
 else .tup [.t (jN (dcB s).1 (dcU s)),.t (.int .i64 0)]
theorem qF2 {s:Rd}{z i:Nat}{c:List (List UInt8)}(h:i<List.length c):((zI s z i).1++List.drop i c).set i (qA8 (zI s z i).2 z).1=(zI s z (i+1)).1++List.drop (i+1) c:=by
 rw[List.set_append_right _ _ (by rw[zQ];exact Nat.le_refl _),zQ,Nat.sub_self];have e:List.drop i c=c[i]::List.drop (i+1) c:=List.drop_eq_getElem_cons h;rw[e,List.set_cons_zero];simp[zI]
theorem zDr {b:List UInt8}{bk:List zB}{s:Rd}{u:Int}(h : ¬ ((qL (b,0,0) 1).2.2.2=0∧4≤qKk (b,0,0)))(hB:dcB (b,0,0)=(bk,s))(hU:dcU (b,0,0)=u):dcR b=if vS s≠0 then .tup [.t (jN [] 0),.t (.int .i64 (vS s))] else .tup [.t (jN bk u),.t (.int .i64 0)]:=by
 unfold dcR;simp only[hB,hU];rw[if_neg h]
theorem qRo (h1:LkC tab 47 qDi)(h2:LkC tab 84 qCn)(h3:LkC tab 85 qR4)(h4:LkC tab 36 wQ)(h5:LkC tab 76 xN)(h6:LkC tab 105 qKj)(h7:LkC tab 55 qDh)(b:List UInt8)(hb:b.length<1000000000) :
  zZ.1.wp tab gl (qE 0 [.t (.sl (b.map qA))]) (qE 0 []) (qX [(2,some (2,true)),(3,none)] 0 (fun r o=>r=dcR b∧o=[])):=by
 have ok0:yH (b,0,0):=⟨Nat.zero_le _,hb⟩;have hN:=qLr hb;obtain⟨⟨set,b1,a1,e1⟩,hU1⟩ : ∃ x,qL (b,0,0) 1=x:=⟨_,rfl⟩;have hI1:=vB (k:=1) ⟨ok0,oM,oM⟩;have ok1:yH (b1,a1,e1):=by have:=zR (k:=1) ok0;rw[hU1] at this;exact this
 rw[hU1] at hI1;have hE1:=zH3 ok1;simp only[rdO,Int.natCast_zero,Int.natCast_one] at hN hI1 hE1;by_cases hbad:e1=0∧4≤set
 ·have hr:dcR b = .tup [.t (jN [] 0),.t (.int .i64 1)]:=by
   unfold dcR qKk;simp only[hU1];rw[if_pos hbad]
  rw[hr];obtain⟨rfl,hset⟩:=hbad;simp(disch:=omega)only[go_sem,zZ,h1,h2,h3,hN,hI1,hE1,hset,List.map_nil]
 ·have hbad' : ¬ ((qL (b,0,0) 1).2.2.2=0∧4≤qKk (b,0,0)):=by unfold qKk;simp only[hU1];exact hbad
  have hgo:(e1==0)=false∨((e1==0)=true∧set<4):=by
   by_cases h:e1=0
   ·exact .inr ⟨by simpa using h,oM⟩
   ·exact .inl (by simpa using h)
  obtain⟨⟨u,b2,a2,e2⟩,hU2⟩ : ∃ x,qL (b1,a1,e1) 8=x:=⟨_,rfl⟩;have hI2:=vB (k:=8) ⟨ok1,oM,oM⟩;have ok2:yH (b2,a2,e2):=by have:=zR (k:=8) ok1;rw[hU2] at this;exact this
  rw[hU2] at hI2;have k8:((8:Nat):Int)=8:=rfl;simp only[rdO,k8] at hI2;rcases qZo set with⟨en,hn⟩ | ⟨c0,c1,en,g0,g1,hn⟩
  ·have hB:dcB (b,0,0)=([],(b2,a2,e2)):=by
    unfold dcB qKk;simp only[hU1,hU2,en];rfl
   have hU:dcU (b,0,0)=u:=by unfold dcU;simp only[hU1,hU2]
   have hr:=zDr (b:=b) hbad' hB hU;have hend:=qPk ok2;simp only[rdO] at hend;rw[hr];by_cases hz:vS (b2,a2,e2)=0
   ·rw[if_neg (by simp[hz])];rw[hz] at hend;rcases hgo with hgo | ⟨hgo,hlt⟩
    ·simp(disch:=omega)only[go_sem,zZ,h1,h2,h3,h4,hN,hI1,hE1,hgo,hn,hI2,List.map_nil];refine qM 1 ?_;simp(disch:=omega)only[go_sem,qG,h7,hend,List.map_nil]
    ·simp(disch:=omega)only[go_sem,zZ,h1,h2,h3,h4,hN,hI1,hE1,hgo,hlt,hn,hI2,List.map_nil];refine qM 1 ?_;simp(disch:=omega)only[go_sem,qG,h7,hend,List.map_nil]
   ·rw[if_pos hz];have hz2:(vS (b2,a2,e2)==0)=false:=by simpa using hz
    rcases hgo with hgo | ⟨hgo,hlt⟩
    ·simp(disch:=omega)only[go_sem,zZ,h1,h2,h3,h4,hN,hI1,hE1,hgo,hn,hI2,List.map_nil];refine qM 1 ?_;simp(disch:=omega)only[go_sem,qG,h7,hend,hz2,List.map_nil]
    ·simp(disch:=omega)only[go_sem,zZ,h1,h2,h3,h4,hN,hI1,hE1,hgo,hlt,hn,hI2,List.map_nil];refine qM 1 ?_;simp(disch:=omega)only[go_sem,qG,h7,hend,hz2,List.map_nil]
  ·have q0:List.length c0≤16:=by rcases g0 with h | h<;>omega
   have q1:List.length c1≤16:=by rcases g1 with h | h<;>omega
   obtain⟨⟨B0,S1⟩,hS1⟩ : ∃ x,zI (b2,a2,e2) 20 (List.length c0)=x:=⟨_,rfl⟩;have okS1:yH S1:=by have:=vR (z:=20) ok2 (List.length c0);rw[hS1] at this;exact this
   have lB0:List.length B0=List.length c0:=by have:=zQ (s:=(b2,a2,e2)) (z:=20) (List.length c0);rw[hS1] at this;exact this
   obtain⟨⟨B1,S2⟩,hS2⟩ : ∃ x,zI S1 32 (List.length c1)=x:=⟨_,rfl⟩;have okS2:yH S2:=by have:=vR (z:=32) okS1 (List.length c1);rw[hS2] at this;exact this
   have lB1:List.length B1=List.length c1:=by have:=zQ (s:=S1) (z:=32) (List.length c1);rw[hS2] at this;exact this
   have hB:dcB (b,0,0)=([B0,B1],S2):=by
    unfold dcB qKk;simp only[hU1,hU2,en,qVp,hS1,hS2]
   have hU:dcU (b,0,0)=u:=by unfold dcU;simp only[hU1,hU2]
   have hr:=zDr (b:=b) hbad' hB hU;have hend:=qPk okS2;rw[hr];rcases hgo with hgo | ⟨hgo,hlt⟩;all_goals first | simp(disch:=omega)only[go_sem,zZ,h1,h2,h3,h4,hN,hI1,hE1,hgo,hlt,hn,hI2,List.map_nil] | simp(disch:=omega)only[go_sem,zZ,h1,h2,h3,h4,hN,hI1,hE1,hgo,hn,hI2,List.map_nil]
   all_goals refine qD 2 (fun k=>match k with | 0=>[(2,.ref 4096 0 0),(4,.ref 8208 0 0),(6,.ref 24608 0 0),(29,.t (.int .i64 2)),(30,.t (.int .i64 0))] | 1=>[(2,.ref 4096 0 0),(4,.ref 8208 0 0),(6,.ref 24608 0 0),(29,.t (.int .i64 2)),(30,.t (.int .i64 1))] | _=>[(2,.ref 4096 0 0),(4,.ref 8208 0 0),(6,.ref 24608 0 0),(29,.t (.int .i64 2)),(30,.t (.int .i64 2))]) (fun k=>match k with | 0=>[(24608,.live 2 [.agg [.sl 24592 0 2,.t (.int .i64 u)]] true true),(24592,.live 1 [.sl 24593 0 (List.length c0),.sl 24594 0 (List.length c1)] true false),(24593,.live 1 ((c0.map bsT).map V.t) true false),(24594,.live 1 ((c1.map bsT).map V.t) true false),(8208,rdO (b2,a2,e2)),(4096,.live 2 [.agg [.nil,.t (.int .i64 0)]] true true)] | 1=>[(24608,.live 2 [.agg [.sl 24592 0 2,.t (.int .i64 u)]] true true),(24592,.live 1 [.sl 24593 0 (List.length c0),.sl 24594 0 (List.length c1)] true false),(24593,.live 1 ((B0.map bsT).map V.t) true false),(24594,.live 1 ((c1.map bsT).map V.t) true false),(8208,rdO S1),(4096,.live 2 [.agg [.nil,.t (.int .i64 0)]] true true)] | _=>[(24608,.live 2 [.agg [.sl 24592 0 2,.t (.int .i64 u)]] true true),(24592,.live 1 [.sl 24593 0 (List.length c0),.sl 24594 0 (List.length c1)] true false),(24593,.live 1 ((B0.map bsT).map V.t) true false),(24594,.live 1 ((B1.map bsT).map V.t) true false),(8208,rdO S2),(4096,.live 2 [.agg [.nil,.t (.int .i64 0)]] true true)]) ?_ (fun k hk=>?_)
   all_goals first
    | (refine qI.rd id ?_ ?_ rfl;all_goals simp(disch:=omega)only[go_sem,id,rdO])
    | skip
   all_goals rcases (show k=0∨k=1∨k=2 by omega) with rfl | rfl | rfl
   ·simp(disch:=omega)only[go_sem,List.map_nil,lB0];refine qD (List.length c0) (fun i=>[(2,.ref 4096 0 0),(4,.ref 8208 0 0),(6,.ref 24608 0 0),(7,.t (.int .i64 0)),(29,.t (.int .i64 2)),(30,.t (.int .i64 0)),(38,.t (.int .i64 (List.length c0))),(39,.t (.int .i64 (i:Nat)))]) (fun i=>[(24608,.live 2 [.agg [.sl 24592 0 2,.t (.int .i64 u)]] true true),(24592,.live 1 [.sl 24593 0 (List.length c0),.sl 24594 0 (List.length c1)] true false),(24593,.live 1 ((((zI (b2,a2,e2) 20 i).1++List.drop i c0).map bsT).map V.t) true false),(24594,.live 1 ((c1.map bsT).map V.t) true false),(8208,rdO (zI (b2,a2,e2) 20 i).2),(4096,.live 2 [.agg [.nil,.t (.int .i64 0)]] true true)]) ?_ (fun i hi=>?_)
    ·refine qI.rd id ?_ ?_ rfl;all_goals simp(disch:=omega)only[go_sem,id,rdO,zI,List.drop_zero,List.nil_append]
    ·have oki:=vR (z:=20) ok2 i;have hln:=zQ (s:=(b2,a2,e2)) (z:=20) i;by_cases hlt2:i<List.length c0
     ·have hraw:=qI9 (k:=20) ⟨oki,oM⟩;have hset:=qF2 (s:=(b2,a2,e2)) (z:=20) hlt2;have hstep:(zI (b2,a2,e2) 20 (i+1)).2=(qA8 (zI (b2,a2,e2) 20 i).2 20).2:=rfl;have kz:((20:Nat):Int)=20:=rfl;have hl1:=zQ (s:=(b2,a2,e2)) (z:=20) (i+1);simp only[rdO,kz] at hraw;simp(maxSteps:=9^9)(disch:=try exact dS)only[go_sem,rdO,h5,qQ,h6,hraw,hset,hln,hl1,lB0];refine⟨rfl,hlt2,qI.rd id ?_ ?_ rfl⟩;all_goals simp(disch:=omega)only[go_sem,id,rdO,hstep]
     ·have e:i=List.length c0:=oM;subst e;simp(disch:=omega)only[go_sem,rdO,hS1,List.drop_length,List.append_nil];refine qI.rd id ?_ ?_ rfl;all_goals simp(disch:=omega)only[go_sem,id,rdO,hS1,List.drop_length,List.append_nil,lB0]
   ·simp(disch:=omega)only[go_sem,List.map_nil,lB0];refine qD (List.length c1) (fun i=>[(2,.ref 4096 0 0),(4,.ref 8208 0 0),(6,.ref 24608 0 0),(7,.t (.int .i64 1)),(29,.t (.int .i64 2)),(30,.t (.int .i64 1)),(38,.t (.int .i64 (List.length c1))),(39,.t (.int .i64 (i:Nat)))]) (fun i=>[(24608,.live 2 [.agg [.sl 24592 0 2,.t (.int .i64 u)]] true true),(24592,.live 1 [.sl 24593 0 (List.length c0),.sl 24594 0 (List.length c1)] true false),(24593,.live 1 ((B0.map bsT).map V.t) true false),(24594,.live 1 ((((zI S1 32 i).1++List.drop i c1).map bsT).map V.t) true false),(8208,rdO (zI S1 32 i).2),(4096,.live 2 [.agg [.nil,.t (.int .i64 0)]] true true)]) ?_ (fun i hi=>?_)
    ·refine qI.rd id ?_ ?_ rfl;all_goals simp(disch:=omega)only[go_sem,id,rdO,zI,List.drop_zero,List.nil_append]
    ·have oki:=vR (z:=32) okS1 i;have hln:=zQ (s:=S1) (z:=32) i;by_cases hlt2:i<List.length c1
     ·have hraw:=qI9 (k:=32) ⟨oki,oM⟩;have hset:=qF2 (s:=S1) (z:=32) hlt2;have hstep:(zI S1 32 (i+1)).2=(qA8 (zI S1 32 i).2 32).2:=rfl;have kz:((32:Nat):Int)=32:=rfl;have hl1:=zQ (s:=S1) (z:=32) (i+1);simp only[rdO,kz] at hraw;simp(maxSteps:=9^9)(disch:=try exact dS)only[go_sem,rdO,h5,qR,h6,hraw,hset,hln,hl1,lB0];refine⟨rfl,hlt2,qI.rd id ?_ ?_ rfl⟩;all_goals simp(disch:=omega)only[go_sem,id,rdO,hstep]
     ·have e:i=List.length c1:=oM;subst e;simp(disch:=omega)only[go_sem,rdO,hS2,List.drop_length,List.append_nil];refine qI.rd id ?_ ?_ rfl;all_goals simp(disch:=omega)only[go_sem,id,rdO,hS2,List.drop_length,List.append_nil,lB0,lB1]
   ·simp only[rdO] at hend;have tB0:List.take (List.length c0) B0=B0:=List.take_of_length_le oM;have tB1:List.take (List.length c1) B1=B1:=List.take_of_length_le oM;by_cases hz:vS S2=0
    ·rw[if_neg (by simp[hz])];rw[hz] at hend;simp(disch:=omega)only[go_sem,rdO,h7,hend,mcn,lB0,lB1,tB0,tB1]
    ·rw[if_pos hz];have hz2:(vS S2==0)=false:=by simpa using hz
     simp(disch:=omega)only[go_sem,rdO,h7,hend,hz2,List.map_nil,lB0,lB1,tB0,tB1]
   ·simp(disch:=omega)only[go_sem,List.map_nil,lB0];refine qD (List.length c0) (fun i=>[(2,.ref 4096 0 0),(4,.ref 8208 0 0),(6,.ref 24608 0 0),(7,.t (.int .i64 0)),(29,.t (.int .i64 2)),(30,.t (.int .i64 0)),(38,.t (.int .i64 (List.length c0))),(39,.t (.int .i64 (i:Nat)))]) (fun i=>[(24608,.live 2 [.agg [.sl 24592 0 2,.t (.int .i64 u)]] true true),(24592,.live 1 [.sl 24593 0 (List.length c0),.sl 24594 0 (List.length c1)] true false),(24593,.live 1 ((((zI (b2,a2,e2) 20 i).1++List.drop i c0).map bsT).map V.t) true false),(24594,.live 1 ((c1.map bsT).map V.t) true false),(8208,rdO (zI (b2,a2,e2) 20 i).2),(4096,.live 2 [.agg [.nil,.t (.int .i64 0)]] true true)]) ?_ (fun i hi=>?_)
    ·refine qI.rd id ?_ ?_ rfl;all_goals simp(disch:=omega)only[go_sem,id,rdO,zI,List.drop_zero,List.nil_append]
    ·have oki:=vR (z:=20) ok2 i;have hln:=zQ (s:=(b2,a2,e2)) (z:=20) i;by_cases hlt2:i<List.length c0
     ·have hraw:=qI9 (k:=20) ⟨oki,oM⟩;have hset:=qF2 (s:=(b2,a2,e2)) (z:=20) hlt2;have hstep:(zI (b2,a2,e2) 20 (i+1)).2=(qA8 (zI (b2,a2,e2) 20 i).2 20).2:=rfl;have kz:((20:Nat):Int)=20:=rfl;have hl1:=zQ (s:=(b2,a2,e2)) (z:=20) (i+1);simp only[rdO,kz] at hraw;simp(maxSteps:=9^9)(disch:=try exact dS)only[go_sem,rdO,h5,qQ,h6,hraw,hset,hln,hl1,lB0];refine⟨rfl,hlt2,qI.rd id ?_ ?_ rfl⟩;all_goals simp(disch:=omega)only[go_sem,id,rdO,hstep]
     ·have e:i=List.length c0:=oM;subst e;simp(disch:=omega)only[go_sem,rdO,hS1,List.drop_length,List.append_nil];refine qI.rd id ?_ ?_ rfl;all_goals simp(disch:=omega)only[go_sem,id,rdO,hS1,List.drop_length,List.append_nil,lB0]
   ·simp(disch:=omega)only[go_sem,List.map_nil,lB0];refine qD (List.length c1) (fun i=>[(2,.ref 4096 0 0),(4,.ref 8208 0 0),(6,.ref 24608 0 0),(7,.t (.int .i64 1)),(29,.t (.int .i64 2)),(30,.t (.int .i64 1)),(38,.t (.int .i64 (List.length c1))),(39,.t (.int .i64 (i:Nat)))]) (fun i=>[(24608,.live 2 [.agg [.sl 24592 0 2,.t (.int .i64 u)]] true true),(24592,.live 1 [.sl 24593 0 (List.length c0),.sl 24594 0 (List.length c1)] true false),(24593,.live 1 ((B0.map bsT).map V.t) true false),(24594,.live 1 ((((zI S1 32 i).1++List.drop i c1).map bsT).map V.t) true false),(8208,rdO (zI S1 32 i).2),(4096,.live 2 [.agg [.nil,.t (.int .i64 0)]] true true)]) ?_ (fun i hi=>?_)
    ·refine qI.rd id ?_ ?_ rfl;all_goals simp(disch:=omega)only[go_sem,id,rdO,zI,List.drop_zero,List.nil_append]
    ·have oki:=vR (z:=32) okS1 i;have hln:=zQ (s:=S1) (z:=32) i;by_cases hlt2:i<List.length c1
     ·have hraw:=qI9 (k:=32) ⟨oki,oM⟩;have hset:=qF2 (s:=S1) (z:=32) hlt2;have hstep:(zI S1 32 (i+1)).2=(qA8 (zI S1 32 i).2 32).2:=rfl;have kz:((32:Nat):Int)=32:=rfl;have hl1:=zQ (s:=S1) (z:=32) (i+1);simp only[rdO,kz] at hraw;simp(maxSteps:=9^9)(disch:=try exact dS)only[go_sem,rdO,h5,qR,h6,hraw,hset,hln,hl1,lB0];refine⟨rfl,hlt2,qI.rd id ?_ ?_ rfl⟩;all_goals simp(disch:=omega)only[go_sem,id,rdO,hstep]
     ·have e:i=List.length c1:=oM;subst e;simp(disch:=omega)only[go_sem,rdO,hS2,List.drop_length,List.append_nil];refine qI.rd id ?_ ?_ rfl;all_goals simp(disch:=omega)only[go_sem,id,rdO,hS2,List.drop_length,List.append_nil,lB0,lB1]
   ·simp only[rdO] at hend;have tB0:List.take (List.length c0) B0=B0:=List.take_of_length_le oM;have tB1:List.take (List.length c1) B1=B1:=List.take_of_length_le oM;by_cases hz:vS S2=0
    ·rw[if_neg (by simp[hz])];rw[hz] at hend;simp(disch:=omega)only[go_sem,rdO,h7,hend,mcn,lB0,lB1,tB0,tB1]
    ·rw[if_pos hz];have hz2:(vS S2==0)=false:=by simpa using hz
     simp(disch:=omega)only[go_sem,rdO,h7,hend,hz2,List.map_nil,lB0,lB1,tB0,tB1]
def zBb (s:Rd):Prop:=(qL s 1).2.2.2=0∧4≤qKk s
instance {s:Rd}:Decidable (zBb s):=inferInstanceAs (Decidable (_∧_))
def rgR (s:Rd):V:=
 if zBb s then .tup [.t (jN [] 0),.t (.int .i64 1)]
 else if (dcB s).2.2.2≠0 then .tup [.t (jN [] 0),.t (.int .i64 (dcB s).2.2.2)]
 else .tup [.t (jN (dcB s).1 (dcU s)),.t (.int .i64 0)]
def rgS (s:Rd):Rd:=if zBb s then (qL s 1).2 else (dcB s).2
theorem zRt {s:Rd}{bk:List zB}{t:Rd}{u:Int}(h : ¬ zBb s)(hB:dcB s=(bk,t))(hU:dcU s=u):rgR s=(if t.2.2≠0 then .tup [.t (jN [] 0),.t (.int .i64 t.2.2)] else .tup [.t (jN bk u),.t (.int .i64 0)])∧rgS s=t:=by
 unfold rgR rgS;simp only[hB,hU];rw[if_neg h,if_neg h];exact⟨rfl,rfl⟩
theorem zJo (h2:LkC tab 57 qCn)(h4:LkC tab 38 wQ)(h5:LkC tab 98 xN)(h6:LkC tab 137 qKj)(s:Rd)(ok0:yH s) :
  wC.1.wp tab gl (qE 0 [.ref 0 0 0]) (qE 0 [yU s]) (qX [(2,some (2,true)),(3,none)] 1 (fun r o=>r=rgR s∧o=[yU (rgS s)])):=by
 obtain⟨⟨set,b1,a1,e1⟩,hU1⟩ : ∃ x,qL s 1=x:=⟨_,rfl⟩;have hI1:=vB (k:=1) ⟨ok0,oM,oM⟩;have ok1:yH (b1,a1,e1):=by have:=zR (k:=1) ok0;rw[hU1] at this;exact this
 rw[hU1] at hI1;obtain⟨b,a,e⟩:=s;simp only[rdO,Int.natCast_zero,Int.natCast_one] at hI1;by_cases hbad:e1=0∧4≤set
 ·have hb:zBb (b,a,e):=by unfold zBb qKk;simp only[hU1];exact hbad
  have hr:rgR (b,a,e) = .tup [.t (jN [] 0),.t (.int .i64 1)]:=if_pos hb;have hs:rgS (b,a,e)=(b1,a1,e1):=by unfold rgS;rw[if_pos hb,hU1]
  rw[hr,hs];obtain⟨rfl,hset⟩:=hbad;simp(disch:=omega)only[go_sem,wC,h2,hI1,hset,qV,List.map_nil]
 ·have hbad' : ¬ zBb (b,a,e):=by unfold zBb qKk;simp only[hU1];exact hbad
  have hgo:(e1==0)=false∨((e1==0)=true∧set<4):=by
   by_cases h:e1=0
   ·exact .inr ⟨by simpa using h,oM⟩
   ·exact .inl (by simpa using h)
  obtain⟨⟨u,b2,a2,e2⟩,hU2⟩ : ∃ x,qL (b1,a1,e1) 8=x:=⟨_,rfl⟩;have hI2:=vB (k:=8) ⟨ok1,oM,oM⟩;have ok2:yH (b2,a2,e2):=by have:=zR (k:=8) ok1;rw[hU2] at this;exact this
  rw[hU2] at hI2;have k8:((8:Nat):Int)=8:=rfl;simp only[rdO,k8] at hI2;have hU:dcU (b,a,e)=u:=by unfold dcU;simp only[hU1,hU2]
  rcases qZo set with⟨en,hn⟩ | ⟨c0,c1,en,g0,g1,hn⟩
  ·have hB:dcB (b,a,e)=([],(b2,a2,e2)):=by
    unfold dcB qKk;simp only[hU1,hU2,en];rfl
   obtain⟨hr,hs⟩:=zRt hbad' hB hU;rw[hr,hs];by_cases hz:e2=0
   ·subst hz;rw[if_neg sM];rcases hgo with hgo | ⟨hgo,hlt⟩;all_goals first | simp(disch:=omega)only[go_sem,wC,h2,h4,hI1,hgo,hlt,hn,hI2,qV,List.map_nil] | simp(disch:=omega)only[go_sem,wC,h2,h4,hI1,hgo,hn,hI2,qV,List.map_nil]
    all_goals refine qM 1 ?_
    all_goals simp(disch:=omega)only[go_sem,qG,List.map_nil]
   ·have hz2:(e2==0)=false:=by simpa using hz
    rw[if_pos hz];rcases hgo with hgo | ⟨hgo,hlt⟩;all_goals first | simp(disch:=omega)only[go_sem,wC,h2,h4,hI1,hgo,hlt,hn,hI2,qV,List.map_nil] | simp(disch:=omega)only[go_sem,wC,h2,h4,hI1,hgo,hn,hI2,qV,List.map_nil]
    all_goals refine qM 1 ?_
    all_goals simp(disch:=omega)only[go_sem,qG,hz2,List.map_nil]
    all_goals try rfl
  ·have q0:List.length c0≤16:=by rcases g0 with h | h<;>omega
   have q1:List.length c1≤16:=by rcases g1 with h | h<;>omega
   obtain⟨⟨B0,S1⟩,hS1⟩ : ∃ x,zI (b2,a2,e2) 20 (List.length c0)=x:=⟨_,rfl⟩;have okS1:yH S1:=by have:=vR (z:=20) ok2 (List.length c0);rw[hS1] at this;exact this
   have lB0:List.length B0=List.length c0:=by have:=zQ (s:=(b2,a2,e2)) (z:=20) (List.length c0);rw[hS1] at this;exact this
   obtain⟨⟨B1,S2⟩,hS2⟩ : ∃ x,zI S1 32 (List.length c1)=x:=⟨_,rfl⟩;have okS2:yH S2:=by have:=vR (z:=32) okS1 (List.length c1);rw[hS2] at this;exact this
   have lB1:List.length B1=List.length c1:=by have:=zQ (s:=S1) (z:=32) (List.length c1);rw[hS2] at this;exact this
   have hB:dcB (b,a,e)=([B0,B1],S2):=by
    unfold dcB qKk;simp only[hU1,hU2,en,qVp,hS1,hS2]
   obtain⟨hr,hs⟩:=zRt hbad' hB hU;rw[hr,hs];rcases hgo with hgo | ⟨hgo,hlt⟩;all_goals first | simp(disch:=omega)only[go_sem,wC,h2,h4,hI1,hgo,hlt,hn,hI2,qV,List.map_nil] | simp(disch:=omega)only[go_sem,wC,h2,h4,hI1,hgo,hn,hI2,qV,List.map_nil]
   all_goals refine qD 2 (fun k=>match k with | 0=>[(0,.ref 0 0 0),(2,.ref 4096 0 0),(5,.ref 20512 0 0),(6,.t (.int .i64 0))] | 1=>[(0,.ref 0 0 0),(2,.ref 4096 0 0),(5,.ref 20512 0 0),(6,.t (.int .i64 1))] | _=>[(0,.ref 0 0 0),(2,.ref 4096 0 0),(5,.ref 20512 0 0),(6,.t (.int .i64 2))]) (fun k=>match k with | 0=>[(20512,.live 2 [.agg [.sl 20496 0 2,.t (.int .i64 u)]] true true),(20496,.live 1 [.sl 20497 0 (List.length c0),.sl 20498 0 (List.length c1)] true false),(20497,.live 1 ((c0.map bsT).map V.t) true false),(20498,.live 1 ((c1.map bsT).map V.t) true false),(0,rdO (b2,a2,e2)),(4096,.live 2 [.agg [.nil,.t (.int .i64 0)]] true true)] | 1=>[(20512,.live 2 [.agg [.sl 20496 0 2,.t (.int .i64 u)]] true true),(20496,.live 1 [.sl 20497 0 (List.length c0),.sl 20498 0 (List.length c1)] true false),(20497,.live 1 ((B0.map bsT).map V.t) true false),(20498,.live 1 ((c1.map bsT).map V.t) true false),(0,rdO S1),(4096,.live 2 [.agg [.nil,.t (.int .i64 0)]] true true)] | _=>[(20512,.live 2 [.agg [.sl 20496 0 2,.t (.int .i64 u)]] true true),(20496,.live 1 [.sl 20497 0 (List.length c0),.sl 20498 0 (List.length c1)] true false),(20497,.live 1 ((B0.map bsT).map V.t) true false),(20498,.live 1 ((B1.map bsT).map V.t) true false),(0,rdO S2),(4096,.live 2 [.agg [.nil,.t (.int .i64 0)]] true true)]) ?_ (fun k hk=>?_)
   all_goals first
    | (refine qI.rd id ?_ ?_ rfl;all_goals simp(disch:=omega)only[go_sem,id,rdO])
    | skip
   all_goals rcases (show k=0∨k=1∨k=2 by omega) with rfl | rfl | rfl
   ·simp(disch:=omega)only[go_sem,List.map_nil,lB0];refine qD (List.length c0) (fun i=>[(0,.ref 0 0 0),(2,.ref 4096 0 0),(5,.ref 20512 0 0),(6,.t (.int .i64 0)),(7,.t (.int .i64 (i:Nat)))]) (fun i=>[(20512,.live 2 [.agg [.sl 20496 0 2,.t (.int .i64 u)]] true true),(20496,.live 1 [.sl 20497 0 (List.length c0),.sl 20498 0 (List.length c1)] true false),(20497,.live 1 ((((zI (b2,a2,e2) 20 i).1++List.drop i c0).map bsT).map V.t) true false),(20498,.live 1 ((c1.map bsT).map V.t) true false),(0,rdO (zI (b2,a2,e2) 20 i).2),(4096,.live 2 [.agg [.nil,.t (.int .i64 0)]] true true)]) ?_ (fun i hi=>?_)
    ·refine qI.rd id ?_ ?_ rfl;all_goals simp(disch:=omega)only[go_sem,id,rdO,zI,List.drop_zero,List.nil_append]
    ·have oki:=vR (z:=20) ok2 i;have hln:=zQ (s:=(b2,a2,e2)) (z:=20) i;by_cases hlt2:i<List.length c0
     ·have hraw:=qI9 (k:=20) ⟨oki,oM⟩;have hset:=qF2 (s:=(b2,a2,e2)) (z:=20) hlt2;have hstep:(zI (b2,a2,e2) 20 (i+1)).2=(qA8 (zI (b2,a2,e2) 20 i).2 20).2:=rfl;have kz:((20:Nat):Int)=20:=rfl;have hl1:=zQ (s:=(b2,a2,e2)) (z:=20) (i+1);simp only[rdO,kz] at hraw;simp(maxSteps:=9^9)(disch:=try exact dS)only[go_sem,rdO,h5,qQ,h6,hraw,hset,hln,hl1,lB0];refine⟨rfl,hlt2,qI.rd id ?_ ?_ rfl⟩;all_goals simp(disch:=omega)only[go_sem,id,rdO,hstep]
     ·have e:i=List.length c0:=oM;subst e;simp(disch:=omega)only[go_sem,rdO,hS1,List.drop_length,List.append_nil,lB0,lB1];refine qI.rd id ?_ ?_ rfl;all_goals simp(disch:=omega)only[go_sem,id,rdO,hS1,List.drop_length,List.append_nil,lB0,lB1]
   ·simp(disch:=omega)only[go_sem,List.map_nil,lB0];refine qD (List.length c1) (fun i=>[(0,.ref 0 0 0),(2,.ref 4096 0 0),(5,.ref 20512 0 0),(6,.t (.int .i64 1)),(7,.t (.int .i64 (i:Nat)))]) (fun i=>[(20512,.live 2 [.agg [.sl 20496 0 2,.t (.int .i64 u)]] true true),(20496,.live 1 [.sl 20497 0 (List.length c0),.sl 20498 0 (List.length c1)] true false),(20497,.live 1 ((B0.map bsT).map V.t) true false),(20498,.live 1 ((((zI S1 32 i).1++List.drop i c1).map bsT).map V.t) true false),(0,rdO (zI S1 32 i).2),(4096,.live 2 [.agg [.nil,.t (.int .i64 0)]] true true)]) ?_ (fun i hi=>?_)
    ·refine qI.rd id ?_ ?_ rfl;all_goals simp(disch:=omega)only[go_sem,id,rdO,zI,List.drop_zero,List.nil_append]
    ·have oki:=vR (z:=32) okS1 i;have hln:=zQ (s:=S1) (z:=32) i;by_cases hlt2:i<List.length c1
     ·have hraw:=qI9 (k:=32) ⟨oki,oM⟩;have hset:=qF2 (s:=S1) (z:=32) hlt2;have hstep:(zI S1 32 (i+1)).2=(qA8 (zI S1 32 i).2 32).2:=rfl;have kz:((32:Nat):Int)=32:=rfl;have hl1:=zQ (s:=S1) (z:=32) (i+1);simp only[rdO,kz] at hraw;simp(maxSteps:=9^9)(disch:=try exact dS)only[go_sem,rdO,h5,qR,h6,hraw,hset,hln,hl1,lB0];refine⟨rfl,hlt2,qI.rd id ?_ ?_ rfl⟩;all_goals simp(disch:=omega)only[go_sem,id,rdO,hstep]
     ·have e:i=List.length c1:=oM;subst e;simp(disch:=omega)only[go_sem,rdO,hS2,List.drop_length,List.append_nil,lB0,lB1];refine qI.rd id ?_ ?_ rfl;all_goals simp(disch:=omega)only[go_sem,id,rdO,hS2,List.drop_length,List.append_nil,lB0,lB1]
   ·obtain⟨b3,a3,e3⟩:=S2;have tB0:List.take (List.length c0) B0=B0:=List.take_of_length_le oM;have tB1:List.take (List.length c1) B1=B1:=List.take_of_length_le oM;by_cases hz:e3=0
    ·subst hz;rw[if_neg sM];simp(disch:=omega)only[go_sem,rdO,qV,mcn,lB0,lB1,tB0,tB1]
    ·rw[if_pos hz];have hz2:(e3==0)=false:=by simpa using hz
     simp(disch:=omega)only[go_sem,rdO,qV,hz2,List.map_nil,lB0,lB1,tB0,tB1];all_goals try rfl
   ·simp(disch:=omega)only[go_sem,List.map_nil,lB0];refine qD (List.length c0) (fun i=>[(0,.ref 0 0 0),(2,.ref 4096 0 0),(5,.ref 20512 0 0),(6,.t (.int .i64 0)),(7,.t (.int .i64 (i:Nat)))]) (fun i=>[(20512,.live 2 [.agg [.sl 20496 0 2,.t (.int .i64 u)]] true true),(20496,.live 1 [.sl 20497 0 (List.length c0),.sl 20498 0 (List.length c1)] true false),(20497,.live 1 ((((zI (b2,a2,e2) 20 i).1++List.drop i c0).map bsT).map V.t) true false),(20498,.live 1 ((c1.map bsT).map V.t) true false),(0,rdO (zI (b2,a2,e2) 20 i).2),(4096,.live 2 [.agg [.nil,.t (.int .i64 0)]] true true)]) ?_ (fun i hi=>?_)
    ·refine qI.rd id ?_ ?_ rfl;all_goals simp(disch:=omega)only[go_sem,id,rdO,zI,List.drop_zero,List.nil_append]
    ·have oki:=vR (z:=20) ok2 i;have hln:=zQ (s:=(b2,a2,e2)) (z:=20) i;by_cases hlt2:i<List.length c0
     ·have hraw:=qI9 (k:=20) ⟨oki,oM⟩;have hset:=qF2 (s:=(b2,a2,e2)) (z:=20) hlt2;have hstep:(zI (b2,a2,e2) 20 (i+1)).2=(qA8 (zI (b2,a2,e2) 20 i).2 20).2:=rfl;have kz:((20:Nat):Int)=20:=rfl;have hl1:=zQ (s:=(b2,a2,e2)) (z:=20) (i+1);simp only[rdO,kz] at hraw;simp(maxSteps:=9^9)(disch:=try exact dS)only[go_sem,rdO,h5,qQ,h6,hraw,hset,hln,hl1,lB0];refine⟨rfl,hlt2,qI.rd id ?_ ?_ rfl⟩;all_goals simp(disch:=omega)only[go_sem,id,rdO,hstep]
     ·have e:i=List.length c0:=oM;subst e;simp(disch:=omega)only[go_sem,rdO,hS1,List.drop_length,List.append_nil,lB0,lB1];refine qI.rd id ?_ ?_ rfl;all_goals simp(disch:=omega)only[go_sem,id,rdO,hS1,List.drop_length,List.append_nil,lB0,lB1]
   ·simp(disch:=omega)only[go_sem,List.map_nil,lB0];refine qD (List.length c1) (fun i=>[(0,.ref 0 0 0),(2,.ref 4096 0 0),(5,.ref 20512 0 0),(6,.t (.int .i64 1)),(7,.t (.int .i64 (i:Nat)))]) (fun i=>[(20512,.live 2 [.agg [.sl 20496 0 2,.t (.int .i64 u)]] true true),(20496,.live 1 [.sl 20497 0 (List.length c0),.sl 20498 0 (List.length c1)] true false),(20497,.live 1 ((B0.map bsT).map V.t) true false),(20498,.live 1 ((((zI S1 32 i).1++List.drop i c1).map bsT).map V.t) true false),(0,rdO (zI S1 32 i).2),(4096,.live 2 [.agg [.nil,.t (.int .i64 0)]] true true)]) ?_ (fun i hi=>?_)
    ·refine qI.rd id ?_ ?_ rfl;all_goals simp(disch:=omega)only[go_sem,id,rdO,zI,List.drop_zero,List.nil_append]
    ·have oki:=vR (z:=32) okS1 i;have hln:=zQ (s:=S1) (z:=32) i;by_cases hlt2:i<List.length c1
     ·have hraw:=qI9 (k:=32) ⟨oki,oM⟩;have hset:=qF2 (s:=S1) (z:=32) hlt2;have hstep:(zI S1 32 (i+1)).2=(qA8 (zI S1 32 i).2 32).2:=rfl;have kz:((32:Nat):Int)=32:=rfl;have hl1:=zQ (s:=S1) (z:=32) (i+1);simp only[rdO,kz] at hraw;simp(maxSteps:=9^9)(disch:=try exact dS)only[go_sem,rdO,h5,qR,h6,hraw,hset,hln,hl1,lB0];refine⟨rfl,hlt2,qI.rd id ?_ ?_ rfl⟩;all_goals simp(disch:=omega)only[go_sem,id,rdO,hstep]
     ·have e:i=List.length c1:=oM;subst e;simp(disch:=omega)only[go_sem,rdO,hS2,List.drop_length,List.append_nil,lB0,lB1];refine qI.rd id ?_ ?_ rfl;all_goals simp(disch:=omega)only[go_sem,id,rdO,hS2,List.drop_length,List.append_nil,lB0,lB1]
   ·obtain⟨b3,a3,e3⟩:=S2;have tB0:List.take (List.length c0) B0=B0:=List.take_of_length_le oM;have tB1:List.take (List.length c1) B1=B1:=List.take_of_length_le oM;by_cases hz:e3=0
    ·subst hz;rw[if_neg sM];simp(disch:=omega)only[go_sem,rdO,qV,mcn,lB0,lB1,tB0,tB1]
    ·rw[if_pos hz];have hz2:(e3==0)=false:=by simpa using hz
     simp(disch:=omega)only[go_sem,rdO,qV,hz2,List.map_nil,lB0,lB1,tB0,tB1];all_goals try rfl
def zAq:Ct where
 α:=Rd
 aS _:=[.ref 0 0 0]
 ins x:=[yU x]
 pre x:=yH x
 r x:=rgR x
 outs x:=[yU (rgS x)]
 inj:=by
  intro s t _ h2;simp only[List.cons.injEq,and_true] at h2;cases yV h2;exact⟨rfl,rfl⟩
theorem jD7 {s:Rd}(h:yH s):zAq.fs [.ref 0 0 0] [rdO s]=some (rgR s,[rdO (rgS s)]):=zAq.eq s h
theorem zPa {bk:List zB}{s:Rd}(h:yH s):yH (qVp bk s).2:=by
 unfold qVp;split
 ·exact vR (vR h _) _
 ·exact h
theorem jHi {s:Rd}(h:yH s):yH (dcB s).2:=zPa (zR (zR h))
theorem zC1 (h1:LkC tab 56 qDi)(h2:LkC tab 106 zAq)(h3:LkC tab 62 qDh)(b:List UInt8)(hb:b.length<1000000000) :
  kO.1.wp tab gl (qE 0 [.t (.sl (b.map qA))]) (qE 0 []) (qX [(2,some (2,true)),(3,none)] 0 (fun r o=>r=dcR b∧o=[])):=by
 have ok0:yH (b,0,0):=⟨Nat.zero_le _,hb⟩;have hN:=qLr hb;have hR:=jD7 ok0;have okB:=jHi ok0;by_cases hbad:zBb (b,0,0)
 ·have hr:dcR b = .tup [.t (jN [] 0),.t (.int .i64 1)]:=if_pos hbad;have hg:rgR (b,0,0) = .tup [.t (jN [] 0),.t (.int .i64 1)]:=if_pos hbad;rw[hg] at hR;rw[hr];simp only[rdO,Int.natCast_zero,qUs,List.map_nil] at hN hR;simp(disch:=omega)only[go_sem,kO,h1,h2,h3,hN,hR,List.map_nil]
 ·obtain⟨hr,hs⟩:=zRt (s:=(b,0,0)) (bk:=(dcB (b,0,0)).1) (t:=(dcB (b,0,0)).2) (u:=dcU (b,0,0)) hbad rfl rfl;have hd:=zDr (b:=b) (bk:=(dcB (b,0,0)).1) (s:=(dcB (b,0,0)).2) (u:=dcU (b,0,0)) hbad rfl rfl;rw[hr,hs] at hR;rw[hd];generalize (dcB (b,0,0)).1=bk at *;generalize (dcB (b,0,0)).2=t at *;generalize dcU (b,0,0)=u at *;have hend:=qPk okB;obtain⟨b3,a3,e3⟩:=t;by_cases hz:e3=0
  ·subst hz;rw[if_neg sM] at hR;simp only[rdO,Int.natCast_zero,qUs] at hN hR hend;by_cases hz3:vS (b3,a3,0)=0
   ·rw[if_neg (by simp[hz3])];rw[hz3] at hend;simp(disch:=omega)only[go_sem,kO,h1,h2,h3,hN,hR,hend,List.map_nil]
   ·rw[if_pos hz3];have hz4:(vS (b3,a3,0)==0)=false:=by simpa using hz3
    simp(disch:=omega)only[go_sem,kO,h1,h2,h3,hN,hR,hend,hz4,List.map_nil]
  ·have he:vS (b3,a3,e3)=e3:=by unfold vS;rw[if_neg (by simp[hz])]
   have hz2:(e3==0)=false:=by simpa using hz
   rw[he,if_pos hz];rw[if_pos hz] at hR;simp only[rdO,Int.natCast_zero,qUs,List.map_nil] at hN hR;simp(disch:=omega)only[go_sem,kO,h1,h2,h3,hN,hR,hz2,List.map_nil]
theorem zRz {b0 b1:zB}{i:Nat}:zH5 [b0,b1] i=[qWj 0 b0 i,qWj 1 b1 i]:=rfl
def zYx (bk:List zB)(a:Nat):Nat:=(bk.getD a []).length
end Go.Eng
end
