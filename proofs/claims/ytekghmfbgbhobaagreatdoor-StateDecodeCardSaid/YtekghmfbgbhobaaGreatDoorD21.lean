/- A part of an abstract machine, its walks, their tie. -/
import Derived.Test.YtekghmfbgbhobaaGreatDoorD20
set_option linter.all false
section
set_option maxHeartbeats 64000000
set_option maxRecDepth 20000
namespace Go.Eng
variable (tab:Tab) (gl:Gl)
def evB (bk:List zB)(n:Nat)(data:List UInt8):List zB:=qSf bk n (qVv bk data)
theorem RK.cases {bk:List zB}(h:RK bk):bk=[] ∨ ∃ b0 b1,bk=[b0,b1]∧qTt b0∧qTt b1:=by
 cases h with
 | nil=>exact .inl rfl
 | two b0 b1 h0 h1=>exact .inr ⟨b0,b1,rfl,h0,h1⟩
theorem zDy {b0 b1:zB}{i:Nat}{ds:List (List UInt8)}:qSf [b0,b1] i ds=[qDc 0 b0 i (ds.getD 0 []),qDc 1 b1 i (ds.getD 1 [])]:=rfl
theorem RV.ev {bk:List zB}(h:RV bk)(n:Nat)(d:List UInt8):RV (evB bk n d):=h.ext _ _
def yT:Ct where
 α:=List UInt8×Nat×Int
 aS x:=[.t (.sl (x.1.map qA)),.t (.int .i64 x.2.1),.t (.int .i64 x.2.2)]
 ins _:=[]
 pre x:=x.1.length<1000000000∧1≤x.2.1∧x.2.1≤8
 r x:= .sl 0 0 (x.1.length+x.2.1)
 outs x:=[.live 1 (((x.1++beI x.2.1 x.2.2 x.2.1).map qA).map V.t) true false]
 inj:=by
  rintro⟨a,s,n⟩ ⟨c,t,m⟩ h _;simp only[List.cons.injEq,V.t.injEq,T.sl.injEq,T.int.injEq,true_and,and_true,yD,Int.natCast_inj] at h;obtain⟨rfl,rfl,rfl⟩:=h;exact⟨rfl,rfl⟩
theorem zNr {b:List UInt8}{n:Int}(hb:b.length<1000000000):yT.fs [.t (.sl (b.map qA)),.t (.int .i64 2),.t (.int .i64 n)] []=some (.sl 0 0 (b.length+2),[.live 1 (((b++beI 2 n 2).map qA).map V.t) true false]):=yT.eq (b,2,n) ⟨hb,by show 1≤2;omega,by show 2≤8;omega⟩
theorem qA5 {s k:Nat}{n:Int}:(beI s n k).length=k:=by simp[beI]
def qMr (bk:List zB)(a:Nat)(s:Int):Nat→List UInt8
 | 0=>[]
 | i+1=>if s/2^i%2=1 then qMr bk a s i++zNx bk a i else qMr bk a s i
theorem zAm {n:Nat}:(zY0 n).length=4:=rfl
theorem zLn {bk:List zB}{a:Nat}{s:Int}:qMr bk a s 0=[]:=rfl
theorem zLm {bk:List zB}{a i:Nat}{s:Int}(h:s/2^i%2=1):qMr bk a s (i+1)=qMr bk a s i++zNx bk a i:=if_pos h
theorem qU0 {bk:List zB}{a i:Nat}{s:Int}(h : ¬ s/2^i%2=1):qMr bk a s (i+1)=qMr bk a s i:=if_neg h
def PD (A B:Prop)(k:Nat):Prop:=(1≤k→A)∧(2≤k→B)
def zUf (s:Int):Prop:=s<0∨65535<s
instance {s:Int}:Decidable (zUf s):=inferInstanceAs (Decidable (_∨_))
def zHz (s0 s1:Int):List UInt8:=beI 2 s0 2++beI 2 s1 2
def jA3 (bk:List zB)(s0 s1:Int):List UInt8:=qMr bk 0 s0 16++qMr bk 1 s1 16
def zKq (bk:List zB)(s0 s1:Int):Int:=if zUf s0∨zUf s1 then 1 else if (s0≠0∧onB bk 0=false)∨(s1≠0∧onB bk 1=false) then 27 else 0
def zTz (bk:List zB)(s0 s1:Int):V:=if zKq bk s0 s1=0 then .tup [.sl 0 0 32,.t (.int .i64 0)] else .tup [.nil,.t (.int .i64 (zKq bk s0 s1))]
def zTy (bk:List zB)(s0 s1:Int):List Ob:=if zKq bk s0 s1=0 then [.live 1 (((zHy 5 [zHz s0 s1,jA3 bk s0 s1]).map qA).map V.t) true false] else []
theorem qFt {bk:List zB}(h:RV bk)(a:Nat)(s:Int) : ∀ i,(qMr bk a s i).length≤64*i
 | 0=>by simp[qMr]
 | i+1=>by
  have ih:=qFt h a s i;have hv:(zNx bk a i).length≤64:=by
   unfold zNx;rcases h.cases with rfl | ⟨b0,b1,rfl,_,_,m0,m1⟩
   ·simp
   ·match a with
    | 0=>exact qI6 m0
    | 1=>exact qI6 m1
    | a+2=>simp
  unfold qMr;split
  ·rw[List.length_append];omega
  ·omega
def qA8:Ct where
 α:=Nat×List (List UInt8)
 aS x:=[.t (.int .i64 x.1),.t (.sl (x.2.map bsT))]
 ins _:=[]
 pre x:=x.1<256∧(yB x.1 x.2).length<1000000000
 r _:= .sl 0 0 32
 outs x:=[.live 1 (((zHy x.1 x.2).map qA).map V.t) true false]
 inj:=by
  rintro⟨a,b⟩ ⟨c,d⟩ h _;simp[qHj,Int.natCast_inj] at h;obtain⟨rfl,rfl⟩:=h;exact⟨rfl,rfl⟩
theorem zVd {x y:List UInt8}(h:(yB 5 [x,y]).length<1000000000):qA8.fs [.t (.int .i64 5),.t (.sl [.sl (x.map qA),.sl (y.map qA)])] []=some (.sl 0 0 32,[.live 1 (((zHy 5 [x,y]).map qA).map V.t) true false]):=qA8.eq (5,[x,y]) ⟨by show 5<256;omega,h⟩
def wQ:AC:=
 (.seq
 (.seq
 (rG 53248 [mv 33 7,oO 34 (.faddr 0) [.tmp 1],oO 35 (.load 1 false) [.tmp 34],mv 36 6,oO 37 (.iaddr 1) [.tmp 35,.tmp 36],oO 38 (.load 1 false) [.tmp 37],oO 39 .len [.tmp 38],bT 40 .lss 33 39])
 (.cond (.tmp 40)
 .skip
 (.exit 4)))
 (.seq
 (.block 5
 (rG 61440 [mv 43 5,oO 44 (.faddr 0) [.tmp 1],oO 45 (.load 1 false) [.tmp 44],mv 46 6,oO 47 (.iaddr 1) [.tmp 45,.tmp 46],oO 48 (.load 1 false) [.tmp 47],mv 49 7,oO 50 (.iaddr 1) [.tmp 48,.tmp 49],oO 51 (.load 1 false) [.tmp 50],oO 52 (.append 1 1) [.tmp 43,.tmp 51],mv 5 52]))
 (rG 57344 [mv 41 7,bN 42 .add 41 1,mv 7 42])))
def wP:AC:=
 (.seq
 (.seq
 (rG 40960 [mv 26 6,oO 27 (.faddr 0) [.tmp 1],oO 28 (.load 1 false) [.tmp 27],oO 29 .len [.tmp 28],bT 30 .lss 26 29])
 (.cond (.tmp 30)
 .skip
 (.exit 2)))
 (.seq
 (.block 3
 (.seq
 (rG 49152 [mC 7 (.t (.int .i64 0))])
 (.block 4
 (.loop wQ))))
 (rG 45056 [mv 31 6,bN 32 .add 31 1,mv 6 32])))
def zAz (bk:List zB)(u:Int):List UInt8:=UInt8.ofNat (zG2 bk).toNat::beI 8 u 8
theorem qI5 {bk:List zB}{u:Int}:(zAz bk u).length=9:=by simp[zAz,beI]
def qBk (bk:List zB)(u:Int):List UInt8:=zAz bk u++bk.flatten.flatten
theorem qFi {b:zB}(h : ∀ x∈b,x.length≤64) : ∀ i,(List.take i b).flatten.length≤64*i
 | 0=>sM
 | i+1=>by
  have ih:=qFi h i;by_cases hi:i<List.length b
  ·rw[qCh (d:=[]) hi,List.flatten_append,List.length_append];have:=qI6 (n:=i) h;simp only[List.flatten_cons,List.flatten_nil,List.append_nil];omega
  ·rw[List.take_of_length_le oM,←List.take_of_length_le (l:=b) (i:=i) oM];omega
theorem qRf {b:zB}{i:Nat}(h:i<List.length b):(List.take (i+1) b).flatten=(List.take i b).flatten++b.getD i []:=by
 rw[qCh (d:=[]) h,List.flatten_append];simp
theorem qSs {b:List UInt8}{n:Int}(hb:b.length<1000000000):yT.fs [.t (.sl (b.map qA)),.t (.int .i64 8),.t (.int .i64 n)] []=some (.sl 0 0 (b.length+8),[.live 1 (((b++beI 8 n 8).map qA).map V.t) true false]):=yT.eq (b,8,n) ⟨hb,by show 1≤8;omega,by show 8≤8;omega⟩
theorem zG3 {bk:List zB}(hk:RK bk):0≤zG2 bk∧zG2 bk<4:=by
 rcases hk.cases with rfl | ⟨b0,b1,rfl,h0,h1⟩
 ·exact⟨by decide,by decide⟩
 ·show 0≤zAd b0 b1∧zAd b0 b1<4;unfold zAd;split<;>split<;>decide
theorem qRu (h1:LkC tab 92 xL)(h2:LkC tab 40 yT)(bk:List zB)(u:Int)(hv:RV bk) :
  kA.1.wp tab gl (qE 0 [.t (jN bk u)]) (qE 0 []) (xU [] [(2,none)] 0 (fun r o=>r = .sl 0 0 (qBk bk u).length∧o=[.live 1 (((qBk bk u).map qA).map V.t) true false])):=by
 have ha:=zOn (u:=u) hv.1;have hact:=zG3 hv.1;obtain⟨m,hm⟩:=Int.eq_ofNat_of_zero_le hact.1;have hu:=qSs (b:=[UInt8.ofNat m]) (n:=u) sM;simp only[mcn] at hu;rw[hm] at ha;have hbk:UInt8.ofNat m::beI 8 u 8=zAz bk u:=by unfold zAz;rw[hm];rfl
 rcases hv.cases with rfl | ⟨b0,b1,rfl,g0,g1,m0,m1⟩
 ·rw[List.map_nil] at ha;simp(disch:=omega)only[go_sem,kA,h1,h2,ha,hu,List.map_nil];repeat refine And.intro rfl ?_
  refine qM 1 ?_;simp(disch:=omega)only[go_sem,qG];have e1:qBk [] u=zAz [] u:=by simp[qBk]
  rw[e1];refine⟨qI5.symm,?_⟩;rw[←hbk];rfl
 ·simp only[mcn,qVk] at ha;have q0:List.length b0≤16:=by rcases g0 with h | h<;>omega
  have q1:List.length b1≤16:=by rcases g1 with h | h<;>omega
  have f0:b0.flatten.length≤1024:=by have:=qFi m0 16;rw[List.take_of_length_le q0] at this;omega
  have f1:b1.flatten.length≤1024:=by have:=qFi m1 16;rw[List.take_of_length_le q1] at this;omega
  have hl9:=qI5 (bk:=[b0,b1]) (u:=u);generalize hH:zAz [b0,b1] u=H at *;simp(disch:=omega)only[go_sem,kA,h1,h2,ha,hu,mcn];repeat refine And.intro rfl ?_
  refine qD 2 (fun k=>match k with | 0=>[(1,.ref 4096 0 0),(3,.sl 9100 0 (List.length (H))),(16,.t (.int .i64 2)),(17,.t (.int .i64 0))] | 1=>[(1,.ref 4096 0 0),(3,.sl 9100 0 (List.length (H++b0.flatten))),(16,.t (.int .i64 2)),(17,.t (.int .i64 1))] | _=>[(1,.ref 4096 0 0),(3,.sl 9100 0 (List.length (H++b0.flatten++b1.flatten))),(16,.t (.int .i64 2)),(17,.t (.int .i64 2))]) (fun k=>match k with | 0=>[(9100,.live 1 (((H).map qA).map V.t) true false),(4096,.live 2 [.t (jN [b0,b1] u)] true true)] | 1=>[(9100,.live 1 (((H++b0.flatten).map qA).map V.t) true false),(4096,.live 2 [.t (jN [b0,b1] u)] true true)] | _=>[(9100,.live 1 (((H++b0.flatten++b1.flatten).map qA).map V.t) true false),(4096,.live 2 [.t (jN [b0,b1] u)] true true)]) ?_ (fun k hk=>?_)
  ·refine qI.rd (fun j=>if j=9100 then 8288 else j) ?_ ?_ rfl;all_goals simp(disch:=omega)only[go_sem,mcn]
   ·exact hl9.symm
   ·rw[←hbk];rfl
  ·rcases (show k=0∨k=1∨k=2 by omega) with rfl | rfl | rfl
   ·simp(disch:=omega)only[go_sem,mcn];refine qD (List.length b0) (fun i=>[(1,.ref 4096 0 0),(3,.sl 9100 0 (List.length (H++(List.take i b0).flatten))),(16,.t (.int .i64 2)),(17,.t (.int .i64 0)),(24,.t (.sl (b0.map bsT))),(25,.t (.int .i64 (List.length b0))),(26,.t (.int .i64 (i:Nat)))]) (fun i=>[(9100,.live 1 (((H++(List.take i b0).flatten).map qA).map V.t) true false),(4096,.live 2 [.t (jN [b0,b1] u)] true true)]) ?_ (fun i hi=>?_)
    ·refine qI.rd id ?_ ?_ rfl;all_goals simp(disch:=omega)only[go_sem,id,List.take_zero,List.flatten_nil,List.append_nil,mcn]
    ·have hfl:=qFi m0 i;by_cases hlt:i<List.length b0
     ·have hg:=qI6 (n:=i) m0;have hts:=qRf (b:=b0) hlt;simp(disch:=omega)only[go_sem,mcn];refine⟨hlt,qI.rd (fun j=>if j=9100 then 36896 else j) ?_ ?_ rfl⟩;all_goals simp(disch:=omega)only[go_sem,hts,List.append_assoc]
      all_goals try omega
     ·have e:i=List.length b0:=oM;subst e;simp(disch:=omega)only[go_sem,mcn,List.take_length];refine qI.rd id ?_ ?_ rfl;all_goals simp(disch:=omega)only[go_sem,id,List.take_length]
   ·simp(disch:=omega)only[go_sem,mcn];refine qD (List.length b1) (fun i=>[(1,.ref 4096 0 0),(3,.sl 9100 0 (List.length (H++b0.flatten++(List.take i b1).flatten))),(16,.t (.int .i64 2)),(17,.t (.int .i64 1)),(24,.t (.sl (b1.map bsT))),(25,.t (.int .i64 (List.length b1))),(26,.t (.int .i64 (i:Nat)))]) (fun i=>[(9100,.live 1 (((H++b0.flatten++(List.take i b1).flatten).map qA).map V.t) true false),(4096,.live 2 [.t (jN [b0,b1] u)] true true)]) ?_ (fun i hi=>?_)
    ·refine qI.rd id ?_ ?_ rfl;all_goals simp(disch:=omega)only[go_sem,id,List.take_zero,List.flatten_nil,List.append_nil,mcn]
    ·have hfl:=qFi m1 i;by_cases hlt:i<List.length b1
     ·have hg:=qI6 (n:=i) m1;have hts:=qRf (b:=b1) hlt;simp(disch:=omega)only[go_sem,mcn];refine⟨hlt,qI.rd (fun j=>if j=9100 then 36896 else j) ?_ ?_ rfl⟩;all_goals simp(disch:=omega)only[go_sem,hts,List.append_assoc]
      all_goals try omega
     ·have e:i=List.length b1:=oM;subst e;simp(disch:=omega)only[go_sem,mcn,List.take_length];refine qI.rd id ?_ ?_ rfl;all_goals simp(disch:=omega)only[go_sem,id,List.take_length]
   ·simp(disch:=omega)only[go_sem,mcn];have e1:qBk [b0,b1] u=H++List.flatten b0++List.flatten b1:=by rw[qBk,hH];simp
    rw[e1,List.length_append,List.length_append];exact⟨rfl,rfl⟩
theorem zC8 (h1:LkC tab 74 yE)(h2:LkC tab 42 yT)(bk:List zB)(u:Int)(hv:RV bk) :
  qGv.1.wp tab gl (qE 0 [.t (jN bk u)]) (qE 0 []) (xU [] [(2,none)] 0 (fun r o=>r = .sl 0 0 (qBk bk u).length∧o=[.live 1 (((qBk bk u).map qA).map V.t) true false])):=by
 have c0:=qE1 (u:=u) (a:=0) hv.1 oM;have c1:=qE1 (u:=u) (a:=1) hv.1 oM;rw[show ((0:Nat):Int)=0 from rfl] at c0;rw[show ((1:Nat):Int)=1 from rfl] at c1;have hact:=zG3 hv.1;have hu : ∀ m:Nat,yT.fs [.t (.sl [qA (UInt8.ofNat m)]),.t (.int .i64 8),.t (.int .i64 u)] []=some (.sl 0 0 9,[.live 1 (((UInt8.ofNat m::beI 8 u 8).map qA).map V.t) true false]):=fun m=>qSs (b:=[UInt8.ofNat m]) (n:=u) sM
 have hu0:=hu 0;have hu1:=hu 1;have hu2:=hu 2;have hu3:=hu 3;simp(disch:=omega)only[go_sem,↓reduceIte,Nat.reduceAdd,qGv];refine qM 3 ?_;rcases hv.cases with rfl | ⟨b0,b1,rfl,g0,g1,m0,m1⟩
 ·rw[List.map_nil] at c0 c1;have d0:onB [] 0=false:=rfl;have d1:onB [] 1=false:=rfl;rw[d0] at c0;rw[d1] at c1;have hw0:T.int .u8 (IntKind.u8.wrap 0)=qA (UInt8.ofNat 0):=rfl;simp(disch:=omega)only[go_sem,↓reduceIte,Nat.reduceAdd,Nat.reduceEqDiff,Nat.reduceLT,Nat.reduceLeDiff,Int.reduceLT,Int.reduceAdd,reduceCtorEq,qG,h1,h2,c0,c1,hw0,hu0,List.map_nil];repeat refine And.intro rfl ?_
  refine qM 1 ?_;simp(disch:=omega)only[go_sem,↓reduceIte,Nat.reduceAdd,Nat.reduceEqDiff,Nat.reduceLeDiff,Int.reduceLT,qG,wP];have e1:qBk [] u=zAz [] u:=by simp[qBk]
  rw[e1];exact⟨qI5.symm,rfl⟩
 ·have q0:List.length b0≤16:=by rcases g0 with h | h<;>omega
  have q1:List.length b1≤16:=by rcases g1 with h | h<;>omega
  have f0:b0.flatten.length≤1024:=by have:=qFi m0 16;rw[List.take_of_length_le q0] at this;omega
  have f1:b1.flatten.length≤1024:=by have:=qFi m1 16;rw[List.take_of_length_le q1] at this;omega
  have hl9:=qI5 (bk:=[b0,b1]) (u:=u);simp only[mcn,qVk] at c0 c1;have fin : ∀ (m:Nat) (fs:Fs) (hs:Hs),UInt8.ofNat m::beI 8 u 8=zAz [b0,b1] u→qI fs hs [(1,.ref 4096 0 0),(5,.sl 32848 0 9),(6,.t (.int .i64 0))] [(32848,.live 1 (((UInt8.ofNat m::beI 8 u 8).map qA).map V.t) true false),(4096,.live 2 [.t (jN [b0,b1] u)] true true)]→
    qQs tab gl wP fs hs (qTc 2 (jAp tab gl ((AC.reg 65536 none [⟨some 53,(.op .mov),[.tmp 5],none⟩,⟨some 2,(.op .mov),[.tmp 53],none⟩]).seq AC.ret) (xU [] [(2,none)] 0 (fun r o=>r = .sl 0 0 (qBk [b0,b1] u).length∧o=[.live 1 (((qBk [b0,b1] u).map qA).map V.t) true false])))):=by
   intro m fs hs hbk hw;refine qBl hw ?_;generalize hH:zAz [b0,b1] u=H at *;refine qD 2 (fun k=>match k with | 0=>[(1,.ref 4096 0 0),(5,.sl 9100 0 (List.length (H))),(6,.t (.int .i64 0))] | 1=>[(1,.ref 4096 0 0),(5,.sl 9100 0 (List.length (H++b0.flatten))),(6,.t (.int .i64 1))] | _=>[(1,.ref 4096 0 0),(5,.sl 9100 0 (List.length (H++b0.flatten++b1.flatten))),(6,.t (.int .i64 2))]) (fun k=>match k with | 0=>[(9100,.live 1 (((H).map qA).map V.t) true false),(4096,.live 2 [.t (jN [b0,b1] u)] true true)] | 1=>[(9100,.live 1 (((H++b0.flatten).map qA).map V.t) true false),(4096,.live 2 [.t (jN [b0,b1] u)] true true)] | _=>[(9100,.live 1 (((H++b0.flatten++b1.flatten).map qA).map V.t) true false),(4096,.live 2 [.t (jN [b0,b1] u)] true true)]) ?_ (fun k hk=>?_)
   ·refine qI.rd (fun j=>if j=9100 then 32848 else j) ?_ ?_ rfl;all_goals simp(disch:=omega)only[go_sem,↓reduceIte,Nat.reduceAdd,Nat.reduceEqDiff,Nat.reduceBEq,mcn]
    ·exact hl9.symm
    ·rw[←hbk];rfl
   ·rcases (show k=0∨k=1∨k=2 by omega) with rfl | rfl | rfl
    ·simp(disch:=omega)only[go_sem,↓reduceIte,Nat.reduceAdd,Nat.reduceEqDiff,Nat.reduceLeDiff,Int.reduceLT,wP,mcn];refine qD (List.length b0) (fun i=>[(1,.ref 4096 0 0),(5,.sl 9100 0 (List.length (H++(List.take i b0).flatten))),(6,.t (.int .i64 0)),(7,.t (.int .i64 (i:Nat)))]) (fun i=>[(9100,.live 1 (((H++(List.take i b0).flatten).map qA).map V.t) true false),(4096,.live 2 [.t (jN [b0,b1] u)] true true)]) ?_ (fun i hi=>?_)
     ·refine qI.rd id ?_ ?_ rfl;all_goals simp(disch:=omega)only[go_sem,↓reduceIte,Nat.reduceAdd,Nat.reduceEqDiff,Nat.reduceBEq,id,List.take_zero,List.flatten_nil,List.append_nil,mcn]
     ·have hfl:=qFi m0 i;by_cases hlt:i<List.length b0
      ·have hg:=qI6 (n:=i) m0;have hts:=qRf (b:=b0) hlt;simp(disch:=omega)only[go_sem,↓reduceIte,Nat.reduceAdd,Nat.reduceEqDiff,Nat.reduceLeDiff,Int.reduceLE,wQ,mcn];refine⟨hlt,qI.rd (fun j=>if j=9100 then 61584 else j) ?_ ?_ rfl⟩;all_goals simp(disch:=omega)only[go_sem,↓reduceIte,Nat.reduceAdd,Nat.reduceEqDiff,Nat.reduceBEq,hts,List.append_assoc]
       all_goals try omega
      ·have e:i=List.length b0:=oM;subst e;simp(disch:=omega)only[go_sem,↓reduceIte,Nat.reduceAdd,Nat.reduceEqDiff,Nat.reduceLT,Nat.reduceLeDiff,Int.reduceLE,Int.reduceAdd,wQ,mcn,List.take_length];refine qI.rd id ?_ ?_ rfl;all_goals simp(disch:=omega)only[go_sem,↓reduceIte,Nat.reduceAdd,Nat.reduceEqDiff,Nat.reduceBEq,id,List.take_length]
    ·simp(disch:=omega)only[go_sem,↓reduceIte,Nat.reduceAdd,Nat.reduceEqDiff,Nat.reduceLeDiff,Int.reduceLT,wP,mcn];refine qD (List.length b1) (fun i=>[(1,.ref 4096 0 0),(5,.sl 9100 0 (List.length (H++b0.flatten++(List.take i b1).flatten))),(6,.t (.int .i64 1)),(7,.t (.int .i64 (i:Nat)))]) (fun i=>[(9100,.live 1 (((H++b0.flatten++(List.take i b1).flatten).map qA).map V.t) true false),(4096,.live 2 [.t (jN [b0,b1] u)] true true)]) ?_ (fun i hi=>?_)
     ·refine qI.rd id ?_ ?_ rfl;all_goals simp(disch:=omega)only[go_sem,↓reduceIte,Nat.reduceAdd,Nat.reduceEqDiff,Nat.reduceBEq,id,List.take_zero,List.flatten_nil,List.append_nil,mcn]
     ·have hfl:=qFi m1 i;by_cases hlt:i<List.length b1
      ·have hg:=qI6 (n:=i) m1;have hts:=qRf (b:=b1) hlt;simp(disch:=omega)only[go_sem,↓reduceIte,Nat.reduceAdd,Nat.reduceEqDiff,Nat.reduceLeDiff,Int.reduceLE,wQ,mcn];refine⟨hlt,qI.rd (fun j=>if j=9100 then 61584 else j) ?_ ?_ rfl⟩;all_goals simp(disch:=omega)only[go_sem,↓reduceIte,Nat.reduceAdd,Nat.reduceEqDiff,Nat.reduceBEq,hts,List.append_assoc]
       all_goals try omega
      ·have e:i=List.length b1:=oM;subst e;simp(disch:=omega)only[go_sem,↓reduceIte,Nat.reduceAdd,Nat.reduceEqDiff,Nat.reduceLT,Nat.reduceLeDiff,Int.reduceLE,Int.reduceAdd,wQ,mcn,List.take_length];refine qI.rd id ?_ ?_ rfl;all_goals simp(disch:=omega)only[go_sem,↓reduceIte,Nat.reduceAdd,Nat.reduceEqDiff,Nat.reduceBEq,id,List.take_length]
    ·simp(disch:=omega)only[go_sem,↓reduceIte,Nat.reduceAdd,Nat.reduceEqDiff,Nat.reduceLeDiff,Int.reduceLT,wP,mcn];have e1:qBk [b0,b1] u=H++List.flatten b0++List.flatten b1:=by rw[qBk,hH];simp
     rw[e1,List.length_append,List.length_append];exact⟨rfl,rfl⟩
  have hw0:T.int .u8 (IntKind.u8.wrap 0)=qA (UInt8.ofNat 0):=rfl;have hw1:T.int .u8 (IntKind.u8.wrap 1)=qA (UInt8.ofNat 1):=rfl;have hw2:T.int .u8 (IntKind.u8.wrap 2)=qA (UInt8.ofNat 2):=rfl;have hw3:T.int .u8 (IntKind.u8.wrap 3)=qA (UInt8.ofNat 3):=rfl;rcases g0 with z0 | z0<;>rcases g1 with z1 | z1
  ·have d0:onB [b0,b1] 0=false:=by simp[onB,z0]
   have d1:onB [b0,b1] 1=false:=by simp[onB,z1]
   rw[d0] at c0;rw[d1] at c1;simp(disch:=omega)only[go_sem,↓reduceIte,Nat.reduceAdd,Nat.reduceEqDiff,Nat.reduceLT,Nat.reduceLeDiff,Int.reduceLT,Int.reduceAdd,reduceCtorEq,qG,h1,h2,c0,c1,hw0,hw1,hw2,hw3,hu0,mcn,BitVec.reduceOfInt,BitVec.reduceOr,BitVec.reduceToNat];repeat refine And.intro rfl ?_
   refine fin 0 _ _ (by unfold zAz;simp[zG2,zAd,z0,z1]) ?_;refine qI.rd id ?_ ?_ rfl;all_goals simp(disch:=omega)only[go_sem,↓reduceIte,Nat.reduceAdd,Nat.reduceEqDiff,Nat.reduceBEq,id,mcn]
  ·have d0:onB [b0,b1] 0=false:=by simp[onB,z0]
   have d1:onB [b0,b1] 1=true:=by simp[onB,z1]
   rw[d0] at c0;rw[d1] at c1;simp(disch:=omega)only[go_sem,↓reduceIte,Nat.reduceAdd,Nat.reduceEqDiff,Nat.reduceLT,Nat.reduceLeDiff,Int.reduceLT,Int.reduceAdd,Int.reduceMul,reduceCtorEq,Int.reducePow,qG,h1,h2,c0,c1,hw0,hw1,hw2,hw3,hu2,mcn,BitVec.reduceOfInt,BitVec.reduceOr,BitVec.reduceToNat];repeat refine And.intro rfl ?_
   refine fin 2 _ _ (by unfold zAz;simp[zG2,zAd,z0,z1]) ?_;refine qI.rd id ?_ ?_ rfl;all_goals simp(disch:=omega)only[go_sem,↓reduceIte,Nat.reduceAdd,Nat.reduceEqDiff,Nat.reduceBEq,id,mcn]
  ·have d0:onB [b0,b1] 0=true:=by simp[onB,z0]
   have d1:onB [b0,b1] 1=false:=by simp[onB,z1]
   rw[d0] at c0;rw[d1] at c1;simp(disch:=omega)only[go_sem,↓reduceIte,Nat.reduceAdd,Nat.reduceEqDiff,Nat.reduceLT,Nat.reduceLeDiff,Int.reduceLT,Int.reduceAdd,Int.reduceMul,reduceCtorEq,Int.reducePow,qG,h1,h2,c0,c1,hw0,hw1,hw2,hw3,hu1,mcn,BitVec.reduceOfInt,BitVec.reduceOr,BitVec.reduceToNat];repeat refine And.intro rfl ?_
   refine fin 1 _ _ (by unfold zAz;simp[zG2,zAd,z0,z1]) ?_;refine qI.rd id ?_ ?_ rfl;all_goals simp(disch:=omega)only[go_sem,↓reduceIte,Nat.reduceAdd,Nat.reduceEqDiff,Nat.reduceBEq,id,mcn]
  ·have d0:onB [b0,b1] 0=true:=by simp[onB,z0]
   have d1:onB [b0,b1] 1=true:=by simp[onB,z1]
   rw[d0] at c0;rw[d1] at c1;simp(disch:=omega)only[go_sem,↓reduceIte,Nat.reduceAdd,Nat.reduceEqDiff,Nat.reduceLT,Nat.reduceLeDiff,Int.reduceLT,Int.reduceAdd,Int.reduceMul,reduceCtorEq,Int.reducePow,qG,h1,h2,c0,c1,hw0,hw1,hw2,hw3,hu3,mcn,BitVec.reduceOfInt,BitVec.reduceOr,BitVec.reduceToNat];repeat refine And.intro rfl ?_
   refine fin 3 _ _ (by unfold zAz;simp[zG2,zAd,z0,z1]) ?_;refine qI.rd id ?_ ?_ rfl;all_goals simp(disch:=omega)only[go_sem,↓reduceIte,Nat.reduceAdd,Nat.reduceEqDiff,Nat.reduceBEq,id,mcn]
abbrev rdO (s:Rd):Ob:= .live 3 [.t (.agg [.sl (s.1.map qA),.int .i64 (s.2.1:Int),.int .i64 s.2.2])] true true
def qDl:Ct where
 α:=List UInt8
 aS x:=[.t (.sl (x.map qA))]
 ins _:=[]
 pre x:=x.length<1000000000
 r _:= .ref 0 0 0
 outs x:=[yU (x,0,0)]
 inj:=by
  intro a b h _;simp only[List.cons.injEq,V.t.injEq,T.sl.injEq,and_true,yD] at h;subst h;exact⟨rfl,rfl⟩
theorem qLw {b:List UInt8}(h:b.length<1000000000):qDl.fs [.t (.sl (b.map qA))] []=some (.ref 0 0 0,[rdO (b,0,0)]):=qDl.eq b h
def qCq:Ct where
 α:=Rd×Nat
 aS x:=[.ref 0 0 0,.t (.int .i64 x.2)]
 ins x:=[yU x.1]
 pre x:=yH x.1∧1≤x.2∧x.2≤8
 r x:= .t (.int .i64 (qL x.1 x.2).1)
 outs x:=[yU (qL x.1 x.2).2]
 inj:=by
  rintro⟨s,a⟩ ⟨t,c⟩ h1 h2;simp only[List.cons.injEq,V.t.injEq,T.int.injEq,true_and,and_true,Int.natCast_inj] at h1;simp only[List.cons.injEq,and_true] at h2;subst h1;cases yV h2;exact⟨rfl,rfl⟩
theorem vB {s:Rd}{k:Nat}(h:yH s∧1≤k∧k≤8):qCq.fs [.ref 0 0 0,.t (.int .i64 k)] [rdO s]=some (.t (.int .i64 (qL s k).1),[rdO (qL s k).2]):=qCq.eq (s,k) h
def qKo:Ct where
 α:=Rd×Nat
 aS x:=[.ref 0 0 0,.t (.int .i64 x.2)]
 ins x:=[yU x.1]
 pre x:=yH x.1∧x.2≤1000000000
 r x:= .t (.sl ((qBb x.1 x.2).1.map qA))
 outs x:=[yU (qBb x.1 x.2).2]
 inj:=by
  rintro⟨s,a⟩ ⟨t,c⟩ h1 h2;simp only[List.cons.injEq,V.t.injEq,T.int.injEq,true_and,and_true,Int.natCast_inj] at h1;simp only[List.cons.injEq,and_true] at h2;subst h1;cases yV h2;exact⟨rfl,rfl⟩
theorem qJe {s:Rd}{k:Nat}(h:yH s∧k≤1000000000):qKo.fs [.ref 0 0 0,.t (.int .i64 k)] [rdO s]=some (.t (.sl ((qBb s k).1.map qA)),[rdO (qBb s k).2]):=qKo.eq (s,k) h
def qR9:Ct where
 α:=Rd
 aS _:=[.ref 0 0 0]
 ins x:=[yU x]
 pre x:=yH x
 r x:= .t (.int .i64 x.2.2)
 outs x:=[yU x]
 inj:=by
  intro s t _ h2;simp only[List.cons.injEq,and_true] at h2;cases yV h2;exact⟨rfl,rfl⟩
theorem zH8 {s:Rd}(h:yH s):qR9.fs [.ref 0 0 0] [rdO s]=some (.t (.int .i64 s.2.2),[rdO s]):=qR9.eq s h
def qDk:Ct where
 α:=Rd
 aS _:=[.ref 0 0 0]
 ins x:=[yU x]
 pre x:=yH x
 r x:= .t (.int .i64 (vS x))
 outs x:=[yU x]
 inj:=by
  intro s t _ h2;simp only[List.cons.injEq,and_true] at h2;cases yV h2;exact⟨rfl,rfl⟩
theorem qPp {s:Rd}(h:yH s):qDk.fs [.ref 0 0 0] [rdO s]=some (.t (.int .i64 (vS s)),[rdO s]):=qDk.eq s h
theorem zR {s:Rd}{k:Nat}(h:yH s):yH (qL s k).2:=by
 unfold qL yH at *;split
 ·exact h
 ·split
  ·exact h
  ·split
   ·exact h
   ·exact⟨by simp only;omega,h.2⟩
theorem zLe {s:Rd}{k:Nat}(h:yH s):yH (qBb s k).2:=by
 unfold qBb yH at *;split
 ·exact h
 ·split
  ·exact h
  ·exact⟨by simp only;omega,h.2⟩
theorem zLd {s:Rd}{k:Nat}:(qBb s k).1.length≤k:=by
 unfold qBb;split
 ·simp
 ·split
  ·simp
  ·simp only[List.length_take];omega
def zI (s:Rd)(z:Nat):Nat→List (List UInt8)×Rd
 | 0=>([],s)
 | n+1=>((zI s z n).1++[(qBb (zI s z n).2 z).1],(qBb (zI s z n).2 z).2)
theorem vR {s:Rd}{z:Nat}(h:yH s) : ∀ n,yH (zI s z n).2
 | 0=>h
 | n+1=>zLe (vR h n)
theorem zQ {s:Rd}{z:Nat} : ∀ n,(zI s z n).1.length=n
 | 0=>rfl
 | n+1=>by simp[zI,zQ n]
theorem qZt (s:Int):(kF s=[]∧wS.fs [.t (.int .i64 s)] []=some (.agg [.nil,.t (.int .i64 0)],[])) ∨ ∃ b0 b1:zB,kF s=[b0,b1]∧qTt b0∧qTt b1∧wS.fs [.t (.int .i64 s)] []=some (.agg [.sl 0 0 2,.t (.int .i64 0)],[.live 1 [.sl 1 0 b0.length,.sl 2 0 b1.length] true false,.live 1 ((b0.map bsT).map V.t) true false,.live 1 ((b1.map bsT).map V.t) true false]):=by
 have h:=wS.eq s trivial;rcases (zK2 (s:=s)).cases with e | ⟨b0,b1,e,h0,h1,_,_⟩
 ·refine .inl ⟨e,h.trans ?_⟩;show some (twR (kF s) 0,twO (kF s))=_;rw[e];rfl
 ·refine .inr ⟨b0,b1,e,h0,h1,h.trans ?_⟩;show some (twR (kF s) 0,twO (kF s))=_;rw[e];rfl
def qVu (bk:List zB)(s:Rd):List zB×Rd:=match bk with
 | [b0,b1]=>([(zI s 20 (List.length b0)).1,(zI (zI s 20 (List.length b0)).2 32 (List.length b1)).1],(zI (zI s 20 (List.length b0)).2 32 (List.length b1)).2)
 | _=>([],s)
def qKp (s:Rd):Int:=(qL s 1).1
def dcU (s:Rd):Int:=(qL (qL s 1).2 8).1
def dcB (s:Rd):List zB×Rd:=qVu (kF (qKp s)) (qL (qL s 1).2 8).2
def dcR (b:List UInt8):V:=
 let s:Rd:=(b,0,0)
 if (qL s 1).2.2.2=0∧4≤qKp s then .tup [.t (jN [] 0),.t (.int .i64 1)]
 else if vS (dcB s).2≠0 then .tup [.t (jN [] 0),.t (.int .i64 (vS (dcB s).2))]
 else .tup [.t (jN (dcB s).1 (dcU s)),.t (.int .i64 0)]
theorem qF6 {s:Rd}{z i:Nat}{c:List (List UInt8)}(h:i<List.length c):((zI s z i).1++List.drop i c).set i (qBb (zI s z i).2 z).1=(zI s z (i+1)).1++List.drop (i+1) c:=by
 rw[List.set_append_right _ _ (by rw[zQ];exact Nat.le_refl _),zQ,Nat.sub_self];have e:List.drop i c=c[i]::List.drop (i+1) c:=List.drop_eq_getElem_cons h;rw[e,List.set_cons_zero];simp[zI]
theorem zDw {b:List UInt8}{bk:List zB}{s:Rd}{u:Int}(h : ¬ ((qL (b,0,0) 1).2.2.2=0∧4≤qKp (b,0,0)))(hB:dcB (b,0,0)=(bk,s))(hU:dcU (b,0,0)=u):dcR b=if vS s≠0 then .tup [.t (jN [] 0),.t (.int .i64 (vS s))] else .tup [.t (jN bk u),.t (.int .i64 0)]:=by
 unfold dcR;simp only[hB,hU];rw[if_neg h]
theorem qRt (h1:LkC tab 47 qDl)(h2:LkC tab 84 qCq)(h3:LkC tab 85 qR9)(h4:LkC tab 36 wS)(h5:LkC tab 76 xP)(h6:LkC tab 105 qKo)(h7:LkC tab 55 qDk)(b:List UInt8)(hb:b.length<1000000000) :
  zZ.1.wp tab gl (qE 0 [.t (.sl (b.map qA))]) (qE 0 []) (qX [(2,some (2,true)),(3,none)] 0 (fun r o=>r=dcR b∧o=[])):=by
 have ok0:yH (b,0,0):=⟨Nat.zero_le _,hb⟩;have hN:=qLw hb;obtain⟨⟨set,b1,a1,e1⟩,hU1⟩ : ∃ x,qL (b,0,0) 1=x:=⟨_,rfl⟩;have hI1:=vB (k:=1) ⟨ok0,oM,oM⟩;have ok1:yH (b1,a1,e1):=by have:=zR (k:=1) ok0;rw[hU1] at this;exact this
 rw[hU1] at hI1;have hE1:=zH8 ok1;simp only[rdO,Int.natCast_zero,Int.natCast_one] at hN hI1 hE1;by_cases hbad:e1=0∧4≤set
 ·have hr:dcR b = .tup [.t (jN [] 0),.t (.int .i64 1)]:=by
   unfold dcR qKp;simp only[hU1];rw[if_pos hbad]
  rw[hr];obtain⟨rfl,hset⟩:=hbad;simp(disch:=omega)only[go_sem,zZ,h1,h2,h3,hN,hI1,hE1,hset,List.map_nil]
 ·have hbad' : ¬ ((qL (b,0,0) 1).2.2.2=0∧4≤qKp (b,0,0)):=by unfold qKp;simp only[hU1];exact hbad
  have hgo:(e1==0)=false∨((e1==0)=true∧set<4):=by
   by_cases h:e1=0
   ·exact .inr ⟨by simpa using h,oM⟩
   ·exact .inl (by simpa using h)
  obtain⟨⟨u,b2,a2,e2⟩,hU2⟩ : ∃ x,qL (b1,a1,e1) 8=x:=⟨_,rfl⟩;have hI2:=vB (k:=8) ⟨ok1,oM,oM⟩;have ok2:yH (b2,a2,e2):=by have:=zR (k:=8) ok1;rw[hU2] at this;exact this
  rw[hU2] at hI2;have k8:((8:Nat):Int)=8:=rfl;simp only[rdO,k8] at hI2;rcases qZt set with⟨en,hn⟩ | ⟨c0,c1,en,g0,g1,hn⟩
  ·have hB:dcB (b,0,0)=([],(b2,a2,e2)):=by
    unfold dcB qKp;simp only[hU1,hU2,en];rfl
   have hU:dcU (b,0,0)=u:=by unfold dcU;simp only[hU1,hU2]
   have hr:=zDw (b:=b) hbad' hB hU;have hend:=qPp ok2;simp only[rdO] at hend;rw[hr];by_cases hz:vS (b2,a2,e2)=0
   ·rw[if_neg (by simp[hz])];rw[hz] at hend;rcases hgo with hgo | ⟨hgo,hlt⟩
    ·simp(disch:=omega)only[go_sem,zZ,h1,h2,h3,h4,hN,hI1,hE1,hgo,hn,hI2,List.map_nil];refine qM 1 ?_;simp(disch:=omega)only[go_sem,qG,h7,hend,List.map_nil]
    ·simp(disch:=omega)only[go_sem,zZ,h1,h2,h3,h4,hN,hI1,hE1,hgo,hlt,hn,hI2,List.map_nil];refine qM 1 ?_;simp(disch:=omega)only[go_sem,qG,h7,hend,List.map_nil]
   ·rw[if_pos hz];have hz2:(vS (b2,a2,e2)==0)=false:=by simpa using hz
    rcases hgo with hgo | ⟨hgo,hlt⟩
    ·simp(disch:=omega)only[go_sem,zZ,h1,h2,h3,h4,hN,hI1,hE1,hgo,hn,hI2,List.map_nil];refine qM 1 ?_;simp(disch:=omega)only[go_sem,qG,h7,hend,hz2,List.map_nil]
    ·simp(disch:=omega)only[go_sem,zZ,h1,h2,h3,h4,hN,hI1,hE1,hgo,hlt,hn,hI2,List.map_nil];refine qM 1 ?_;simp(disch:=omega)only[go_sem,qG,h7,hend,hz2,List.map_nil]
  ·have q0:List.length c0≤16:=by rcases g0 with h | h<;>omega
   have q1:List.length c1≤16:=by rcases g1 with h | h<;>omega
   obtain⟨⟨B0,S1⟩,hS1⟩ : ∃ x,zI (b2,a2,e2) 20 (List.length c0)=x:=⟨_,rfl⟩;have okS1:yH S1:=by have:=vR (z:=20) ok2 (List.length c0);rw[hS1] at this;exact this
   have lB0:List.length B0=List.length c0:=by have:=zQ (s:=(b2,a2,e2)) (z:=20) (List.length c0);rw[hS1] at this;exact this
   obtain⟨⟨B1,S2⟩,hS2⟩ : ∃ x,zI S1 32 (List.length c1)=x:=⟨_,rfl⟩;have okS2:yH S2:=by have:=vR (z:=32) okS1 (List.length c1);rw[hS2] at this;exact this
   have lB1:List.length B1=List.length c1:=by have:=zQ (s:=S1) (z:=32) (List.length c1);rw[hS2] at this;exact this
   have hB:dcB (b,0,0)=([B0,B1],S2):=by
    unfold dcB qKp;simp only[hU1,hU2,en,qVu,hS1,hS2]
   have hU:dcU (b,0,0)=u:=by unfold dcU;simp only[hU1,hU2]
   have hr:=zDw (b:=b) hbad' hB hU;have hend:=qPp okS2;rw[hr];rcases hgo with hgo | ⟨hgo,hlt⟩;all_goals first | simp(disch:=omega)only[go_sem,zZ,h1,h2,h3,h4,hN,hI1,hE1,hgo,hlt,hn,hI2,List.map_nil] | simp(disch:=omega)only[go_sem,zZ,h1,h2,h3,h4,hN,hI1,hE1,hgo,hn,hI2,List.map_nil]
   all_goals refine qD 2 (fun k=>match k with | 0=>[(2,.ref 4096 0 0),(4,.ref 8208 0 0),(6,.ref 24608 0 0),(29,.t (.int .i64 2)),(30,.t (.int .i64 0))] | 1=>[(2,.ref 4096 0 0),(4,.ref 8208 0 0),(6,.ref 24608 0 0),(29,.t (.int .i64 2)),(30,.t (.int .i64 1))] | _=>[(2,.ref 4096 0 0),(4,.ref 8208 0 0),(6,.ref 24608 0 0),(29,.t (.int .i64 2)),(30,.t (.int .i64 2))]) (fun k=>match k with | 0=>[(24608,.live 2 [.agg [.sl 24592 0 2,.t (.int .i64 u)]] true true),(24592,.live 1 [.sl 24593 0 (List.length c0),.sl 24594 0 (List.length c1)] true false),(24593,.live 1 ((c0.map bsT).map V.t) true false),(24594,.live 1 ((c1.map bsT).map V.t) true false),(8208,rdO (b2,a2,e2)),(4096,.live 2 [.agg [.nil,.t (.int .i64 0)]] true true)] | 1=>[(24608,.live 2 [.agg [.sl 24592 0 2,.t (.int .i64 u)]] true true),(24592,.live 1 [.sl 24593 0 (List.length c0),.sl 24594 0 (List.length c1)] true false),(24593,.live 1 ((B0.map bsT).map V.t) true false),(24594,.live 1 ((c1.map bsT).map V.t) true false),(8208,rdO S1),(4096,.live 2 [.agg [.nil,.t (.int .i64 0)]] true true)] | _=>[(24608,.live 2 [.agg [.sl 24592 0 2,.t (.int .i64 u)]] true true),(24592,.live 1 [.sl 24593 0 (List.length c0),.sl 24594 0 (List.length c1)] true false),(24593,.live 1 ((B0.map bsT).map V.t) true false),(24594,.live 1 ((B1.map bsT).map V.t) true false),(8208,rdO S2),(4096,.live 2 [.agg [.nil,.t (.int .i64 0)]] true true)]) ?_ (fun k hk=>?_)
   all_goals first
    | (refine qI.rd id ?_ ?_ rfl;all_goals simp(disch:=omega)only[go_sem,id,rdO])
    | skip
   all_goals rcases (show k=0∨k=1∨k=2 by omega) with rfl | rfl | rfl
   ·simp(disch:=omega)only[go_sem,List.map_nil,lB0];refine qD (List.length c0) (fun i=>[(2,.ref 4096 0 0),(4,.ref 8208 0 0),(6,.ref 24608 0 0),(7,.t (.int .i64 0)),(29,.t (.int .i64 2)),(30,.t (.int .i64 0)),(38,.t (.int .i64 (List.length c0))),(39,.t (.int .i64 (i:Nat)))]) (fun i=>[(24608,.live 2 [.agg [.sl 24592 0 2,.t (.int .i64 u)]] true true),(24592,.live 1 [.sl 24593 0 (List.length c0),.sl 24594 0 (List.length c1)] true false),(24593,.live 1 ((((zI (b2,a2,e2) 20 i).1++List.drop i c0).map bsT).map V.t) true false),(24594,.live 1 ((c1.map bsT).map V.t) true false),(8208,rdO (zI (b2,a2,e2) 20 i).2),(4096,.live 2 [.agg [.nil,.t (.int .i64 0)]] true true)]) ?_ (fun i hi=>?_)
    ·refine qI.rd id ?_ ?_ rfl;all_goals simp(disch:=omega)only[go_sem,id,rdO,zI,List.drop_zero,List.nil_append]
    ·have oki:=vR (z:=20) ok2 i;have hln:=zQ (s:=(b2,a2,e2)) (z:=20) i;by_cases hlt2:i<List.length c0
     ·have hraw:=qJe (k:=20) ⟨oki,oM⟩;have hset:=qF6 (s:=(b2,a2,e2)) (z:=20) hlt2;have hstep:(zI (b2,a2,e2) 20 (i+1)).2=(qBb (zI (b2,a2,e2) 20 i).2 20).2:=rfl;have kz:((20:Nat):Int)=20:=rfl;have hl1:=zQ (s:=(b2,a2,e2)) (z:=20) (i+1);simp only[rdO,kz] at hraw;simp(maxSteps:=9^9)(disch:=try exact dS)only[go_sem,rdO,h5,qQ,h6,hraw,hset,hln,hl1,lB0];refine⟨rfl,hlt2,qI.rd id ?_ ?_ rfl⟩;all_goals simp(disch:=omega)only[go_sem,id,rdO,hstep]
     ·have e:i=List.length c0:=oM;subst e;simp(disch:=omega)only[go_sem,rdO,hS1,List.drop_length,List.append_nil];refine qI.rd id ?_ ?_ rfl;all_goals simp(disch:=omega)only[go_sem,id,rdO,hS1,List.drop_length,List.append_nil,lB0]
   ·simp(disch:=omega)only[go_sem,List.map_nil,lB0];refine qD (List.length c1) (fun i=>[(2,.ref 4096 0 0),(4,.ref 8208 0 0),(6,.ref 24608 0 0),(7,.t (.int .i64 1)),(29,.t (.int .i64 2)),(30,.t (.int .i64 1)),(38,.t (.int .i64 (List.length c1))),(39,.t (.int .i64 (i:Nat)))]) (fun i=>[(24608,.live 2 [.agg [.sl 24592 0 2,.t (.int .i64 u)]] true true),(24592,.live 1 [.sl 24593 0 (List.length c0),.sl 24594 0 (List.length c1)] true false),(24593,.live 1 ((B0.map bsT).map V.t) true false),(24594,.live 1 ((((zI S1 32 i).1++List.drop i c1).map bsT).map V.t) true false),(8208,rdO (zI S1 32 i).2),(4096,.live 2 [.agg [.nil,.t (.int .i64 0)]] true true)]) ?_ (fun i hi=>?_)
    ·refine qI.rd id ?_ ?_ rfl;all_goals simp(disch:=omega)only[go_sem,id,rdO,zI,List.drop_zero,List.nil_append]
    ·have oki:=vR (z:=32) okS1 i;have hln:=zQ (s:=S1) (z:=32) i;by_cases hlt2:i<List.length c1
     ·have hraw:=qJe (k:=32) ⟨oki,oM⟩;have hset:=qF6 (s:=S1) (z:=32) hlt2;have hstep:(zI S1 32 (i+1)).2=(qBb (zI S1 32 i).2 32).2:=rfl;have kz:((32:Nat):Int)=32:=rfl;have hl1:=zQ (s:=S1) (z:=32) (i+1);simp only[rdO,kz] at hraw;simp(maxSteps:=9^9)(disch:=try exact dS)only[go_sem,rdO,h5,qR,h6,hraw,hset,hln,hl1,lB0];refine⟨rfl,hlt2,qI.rd id ?_ ?_ rfl⟩;all_goals simp(disch:=omega)only[go_sem,id,rdO,hstep]
     ·have e:i=List.length c1:=oM;subst e;simp(disch:=omega)only[go_sem,rdO,hS2,List.drop_length,List.append_nil];refine qI.rd id ?_ ?_ rfl;all_goals simp(disch:=omega)only[go_sem,id,rdO,hS2,List.drop_length,List.append_nil,lB0,lB1]
   ·simp only[rdO] at hend;have tB0:List.take (List.length c0) B0=B0:=List.take_of_length_le oM;have tB1:List.take (List.length c1) B1=B1:=List.take_of_length_le oM;by_cases hz:vS S2=0
    ·rw[if_neg (by simp[hz])];rw[hz] at hend;simp(disch:=omega)only[go_sem,rdO,h7,hend,mcn,lB0,lB1,tB0,tB1]
    ·rw[if_pos hz];have hz2:(vS S2==0)=false:=by simpa using hz
     simp(disch:=omega)only[go_sem,rdO,h7,hend,hz2,List.map_nil,lB0,lB1,tB0,tB1]
   ·simp(disch:=omega)only[go_sem,List.map_nil,lB0];refine qD (List.length c0) (fun i=>[(2,.ref 4096 0 0),(4,.ref 8208 0 0),(6,.ref 24608 0 0),(7,.t (.int .i64 0)),(29,.t (.int .i64 2)),(30,.t (.int .i64 0)),(38,.t (.int .i64 (List.length c0))),(39,.t (.int .i64 (i:Nat)))]) (fun i=>[(24608,.live 2 [.agg [.sl 24592 0 2,.t (.int .i64 u)]] true true),(24592,.live 1 [.sl 24593 0 (List.length c0),.sl 24594 0 (List.length c1)] true false),(24593,.live 1 ((((zI (b2,a2,e2) 20 i).1++List.drop i c0).map bsT).map V.t) true false),(24594,.live 1 ((c1.map bsT).map V.t) true false),(8208,rdO (zI (b2,a2,e2) 20 i).2),(4096,.live 2 [.agg [.nil,.t (.int .i64 0)]] true true)]) ?_ (fun i hi=>?_)
    ·refine qI.rd id ?_ ?_ rfl;all_goals simp(disch:=omega)only[go_sem,id,rdO,zI,List.drop_zero,List.nil_append]
    ·have oki:=vR (z:=20) ok2 i;have hln:=zQ (s:=(b2,a2,e2)) (z:=20) i;by_cases hlt2:i<List.length c0
     ·have hraw:=qJe (k:=20) ⟨oki,oM⟩;have hset:=qF6 (s:=(b2,a2,e2)) (z:=20) hlt2;have hstep:(zI (b2,a2,e2) 20 (i+1)).2=(qBb (zI (b2,a2,e2) 20 i).2 20).2:=rfl;have kz:((20:Nat):Int)=20:=rfl;have hl1:=zQ (s:=(b2,a2,e2)) (z:=20) (i+1);simp only[rdO,kz] at hraw;simp(maxSteps:=9^9)(disch:=try exact dS)only[go_sem,rdO,h5,qQ,h6,hraw,hset,hln,hl1,lB0];refine⟨rfl,hlt2,qI.rd id ?_ ?_ rfl⟩;all_goals simp(disch:=omega)only[go_sem,id,rdO,hstep]
     ·have e:i=List.length c0:=oM;subst e;simp(disch:=omega)only[go_sem,rdO,hS1,List.drop_length,List.append_nil];refine qI.rd id ?_ ?_ rfl;all_goals simp(disch:=omega)only[go_sem,id,rdO,hS1,List.drop_length,List.append_nil,lB0]
   ·simp(disch:=omega)only[go_sem,List.map_nil,lB0];refine qD (List.length c1) (fun i=>[(2,.ref 4096 0 0),(4,.ref 8208 0 0),(6,.ref 24608 0 0),(7,.t (.int .i64 1)),(29,.t (.int .i64 2)),(30,.t (.int .i64 1)),(38,.t (.int .i64 (List.length c1))),(39,.t (.int .i64 (i:Nat)))]) (fun i=>[(24608,.live 2 [.agg [.sl 24592 0 2,.t (.int .i64 u)]] true true),(24592,.live 1 [.sl 24593 0 (List.length c0),.sl 24594 0 (List.length c1)] true false),(24593,.live 1 ((B0.map bsT).map V.t) true false),(24594,.live 1 ((((zI S1 32 i).1++List.drop i c1).map bsT).map V.t) true false),(8208,rdO (zI S1 32 i).2),(4096,.live 2 [.agg [.nil,.t (.int .i64 0)]] true true)]) ?_ (fun i hi=>?_)
    ·refine qI.rd id ?_ ?_ rfl;all_goals simp(disch:=omega)only[go_sem,id,rdO,zI,List.drop_zero,List.nil_append]
    ·have oki:=vR (z:=32) okS1 i;have hln:=zQ (s:=S1) (z:=32) i;by_cases hlt2:i<List.length c1
     ·have hraw:=qJe (k:=32) ⟨oki,oM⟩;have hset:=qF6 (s:=S1) (z:=32) hlt2;have hstep:(zI S1 32 (i+1)).2=(qBb (zI S1 32 i).2 32).2:=rfl;have kz:((32:Nat):Int)=32:=rfl;have hl1:=zQ (s:=S1) (z:=32) (i+1);simp only[rdO,kz] at hraw;simp(maxSteps:=9^9)(disch:=try exact dS)only[go_sem,rdO,h5,qR,h6,hraw,hset,hln,hl1,lB0];refine⟨rfl,hlt2,qI.rd id ?_ ?_ rfl⟩;all_goals simp(disch:=omega)only[go_sem,id,rdO,hstep]
     ·have e:i=List.length c1:=oM;subst e;simp(disch:=omega)only[go_sem,rdO,hS2,List.drop_length,List.append_nil];refine qI.rd id ?_ ?_ rfl;all_goals simp(disch:=omega)only[go_sem,id,rdO,hS2,List.drop_length,List.append_nil,lB0,lB1]
   ·simp only[rdO] at hend;have tB0:List.take (List.length c0) B0=B0:=List.take_of_length_le oM;have tB1:List.take (List.length c1) B1=B1:=List.take_of_length_le oM;by_cases hz:vS S2=0
    ·rw[if_neg (by simp[hz])];rw[hz] at hend;simp(disch:=omega)only[go_sem,rdO,h7,hend,mcn,lB0,lB1,tB0,tB1]
    ·rw[if_pos hz];have hz2:(vS S2==0)=false:=by simpa using hz
     simp(disch:=omega)only[go_sem,rdO,h7,hend,hz2,List.map_nil,lB0,lB1,tB0,tB1]
def zBg (s:Rd):Prop:=(qL s 1).2.2.2=0∧4≤qKp s
instance {s:Rd}:Decidable (zBg s):=inferInstanceAs (Decidable (_∧_))
def rgR (s:Rd):V:=
 if zBg s then .tup [.t (jN [] 0),.t (.int .i64 1)]
 else if (dcB s).2.2.2≠0 then .tup [.t (jN [] 0),.t (.int .i64 (dcB s).2.2.2)]
 else .tup [.t (jN (dcB s).1 (dcU s)),.t (.int .i64 0)]
def rgS (s:Rd):Rd:=if zBg s then (qL s 1).2 else (dcB s).2
theorem zRy {s:Rd}{bk:List zB}{t:Rd}{u:Int}(h : ¬ zBg s)(hB:dcB s=(bk,t))(hU:dcU s=u):rgR s=(if t.2.2≠0 then .tup [.t (jN [] 0),.t (.int .i64 t.2.2)] else .tup [.t (jN bk u),.t (.int .i64 0)])∧rgS s=t:=by
 unfold rgR rgS;simp only[hB,hU];rw[if_neg h,if_neg h];exact⟨rfl,rfl⟩
theorem zJt (h2:LkC tab 57 qCq)(h4:LkC tab 38 wS)(h5:LkC tab 98 xP)(h6:LkC tab 137 qKo)(s:Rd)(ok0:yH s) :
  wC.1.wp tab gl (qE 0 [.ref 0 0 0]) (qE 0 [yU s]) (qX [(2,some (2,true)),(3,none)] 1 (fun r o=>r=rgR s∧o=[yU (rgS s)])):=by
 obtain⟨⟨set,b1,a1,e1⟩,hU1⟩ : ∃ x,qL s 1=x:=⟨_,rfl⟩;have hI1:=vB (k:=1) ⟨ok0,oM,oM⟩;have ok1:yH (b1,a1,e1):=by have:=zR (k:=1) ok0;rw[hU1] at this;exact this
 rw[hU1] at hI1;obtain⟨b,a,e⟩:=s;simp only[rdO,Int.natCast_zero,Int.natCast_one] at hI1;by_cases hbad:e1=0∧4≤set
 ·have hb:zBg (b,a,e):=by unfold zBg qKp;simp only[hU1];exact hbad
  have hr:rgR (b,a,e) = .tup [.t (jN [] 0),.t (.int .i64 1)]:=if_pos hb;have hs:rgS (b,a,e)=(b1,a1,e1):=by unfold rgS;rw[if_pos hb,hU1]
  rw[hr,hs];obtain⟨rfl,hset⟩:=hbad;simp(disch:=omega)only[go_sem,wC,h2,hI1,hset,qV,List.map_nil]
 ·have hbad' : ¬ zBg (b,a,e):=by unfold zBg qKp;simp only[hU1];exact hbad
  have hgo:(e1==0)=false∨((e1==0)=true∧set<4):=by
   by_cases h:e1=0
   ·exact .inr ⟨by simpa using h,oM⟩
   ·exact .inl (by simpa using h)
  obtain⟨⟨u,b2,a2,e2⟩,hU2⟩ : ∃ x,qL (b1,a1,e1) 8=x:=⟨_,rfl⟩;have hI2:=vB (k:=8) ⟨ok1,oM,oM⟩;have ok2:yH (b2,a2,e2):=by have:=zR (k:=8) ok1;rw[hU2] at this;exact this
  rw[hU2] at hI2;have k8:((8:Nat):Int)=8:=rfl;simp only[rdO,k8] at hI2;have hU:dcU (b,a,e)=u:=by unfold dcU;simp only[hU1,hU2]
  rcases qZt set with⟨en,hn⟩ | ⟨c0,c1,en,g0,g1,hn⟩
  ·have hB:dcB (b,a,e)=([],(b2,a2,e2)):=by
    unfold dcB qKp;simp only[hU1,hU2,en];rfl
   obtain⟨hr,hs⟩:=zRy hbad' hB hU;rw[hr,hs];by_cases hz:e2=0
   ·subst hz;rw[if_neg sM];rcases hgo with hgo | ⟨hgo,hlt⟩;all_goals first | simp(disch:=omega)only[go_sem,wC,h2,h4,hI1,hgo,hlt,hn,hI2,qV,List.map_nil] | simp(disch:=omega)only[go_sem,wC,h2,h4,hI1,hgo,hn,hI2,qV,List.map_nil]
    all_goals refine qM 1 ?_
    all_goals simp(disch:=omega)only[go_sem,qG,List.map_nil]
   ·have hz2:(e2==0)=false:=by simpa using hz
    rw[if_pos hz];rcases hgo with hgo | ⟨hgo,hlt⟩;all_goals first | simp(disch:=omega)only[go_sem,wC,h2,h4,hI1,hgo,hlt,hn,hI2,qV,List.map_nil] | simp(disch:=omega)only[go_sem,wC,h2,h4,hI1,hgo,hn,hI2,qV,List.map_nil]
    all_goals refine qM 1 ?_
    all_goals simp(disch:=omega)only[go_sem,qG,hz2,List.map_nil]
    all_goals try rfl
  ·have q0:List.length c0≤16:=by rcases g0 with h | h<;>omega
   have q1:List.length c1≤16:=by rcases g1 with h | h<;>omega
   obtain⟨⟨B0,S1⟩,hS1⟩ : ∃ x,zI (b2,a2,e2) 20 (List.length c0)=x:=⟨_,rfl⟩;have okS1:yH S1:=by have:=vR (z:=20) ok2 (List.length c0);rw[hS1] at this;exact this
   have lB0:List.length B0=List.length c0:=by have:=zQ (s:=(b2,a2,e2)) (z:=20) (List.length c0);rw[hS1] at this;exact this
   obtain⟨⟨B1,S2⟩,hS2⟩ : ∃ x,zI S1 32 (List.length c1)=x:=⟨_,rfl⟩;have okS2:yH S2:=by have:=vR (z:=32) okS1 (List.length c1);rw[hS2] at this;exact this
   have lB1:List.length B1=List.length c1:=by have:=zQ (s:=S1) (z:=32) (List.length c1);rw[hS2] at this;exact this
   have hB:dcB (b,a,e)=([B0,B1],S2):=by
    unfold dcB qKp;simp only[hU1,hU2,en,qVu,hS1,hS2]
   obtain⟨hr,hs⟩:=zRy hbad' hB hU;rw[hr,hs];rcases hgo with hgo | ⟨hgo,hlt⟩;all_goals first | simp(disch:=omega)only[go_sem,wC,h2,h4,hI1,hgo,hlt,hn,hI2,qV,List.map_nil] | simp(disch:=omega)only[go_sem,wC,h2,h4,hI1,hgo,hn,hI2,qV,List.map_nil]
   all_goals refine qD 2 (fun k=>match k with | 0=>[(0,.ref 0 0 0),(2,.ref 4096 0 0),(5,.ref 20512 0 0),(6,.t (.int .i64 0))] | 1=>[(0,.ref 0 0 0),(2,.ref 4096 0 0),(5,.ref 20512 0 0),(6,.t (.int .i64 1))] | _=>[(0,.ref 0 0 0),(2,.ref 4096 0 0),(5,.ref 20512 0 0),(6,.t (.int .i64 2))]) (fun k=>match k with | 0=>[(20512,.live 2 [.agg [.sl 20496 0 2,.t (.int .i64 u)]] true true),(20496,.live 1 [.sl 20497 0 (List.length c0),.sl 20498 0 (List.length c1)] true false),(20497,.live 1 ((c0.map bsT).map V.t) true false),(20498,.live 1 ((c1.map bsT).map V.t) true false),(0,rdO (b2,a2,e2)),(4096,.live 2 [.agg [.nil,.t (.int .i64 0)]] true true)] | 1=>[(20512,.live 2 [.agg [.sl 20496 0 2,.t (.int .i64 u)]] true true),(20496,.live 1 [.sl 20497 0 (List.length c0),.sl 20498 0 (List.length c1)] true false),(20497,.live 1 ((B0.map bsT).map V.t) true false),(20498,.live 1 ((c1.map bsT).map V.t) true false),(0,rdO S1),(4096,.live 2 [.agg [.nil,.t (.int .i64 0)]] true true)] | _=>[(20512,.live 2 [.agg [.sl 20496 0 2,.t (.int .i64 u)]] true true),(20496,.live 1 [.sl 20497 0 (List.length c0),.sl 20498 0 (List.length c1)] true false),(20497,.live 1 ((B0.map bsT).map V.t) true false),(20498,.live 1 ((B1.map bsT).map V.t) true false),(0,rdO S2),(4096,.live 2 [.agg [.nil,.t (.int .i64 0)]] true true)]) ?_ (fun k hk=>?_)
   all_goals first
    | (refine qI.rd id ?_ ?_ rfl;all_goals simp(disch:=omega)only[go_sem,id,rdO])
    | skip
   all_goals rcases (show k=0∨k=1∨k=2 by omega) with rfl | rfl | rfl
   ·simp(disch:=omega)only[go_sem,List.map_nil,lB0];refine qD (List.length c0) (fun i=>[(0,.ref 0 0 0),(2,.ref 4096 0 0),(5,.ref 20512 0 0),(6,.t (.int .i64 0)),(7,.t (.int .i64 (i:Nat)))]) (fun i=>[(20512,.live 2 [.agg [.sl 20496 0 2,.t (.int .i64 u)]] true true),(20496,.live 1 [.sl 20497 0 (List.length c0),.sl 20498 0 (List.length c1)] true false),(20497,.live 1 ((((zI (b2,a2,e2) 20 i).1++List.drop i c0).map bsT).map V.t) true false),(20498,.live 1 ((c1.map bsT).map V.t) true false),(0,rdO (zI (b2,a2,e2) 20 i).2),(4096,.live 2 [.agg [.nil,.t (.int .i64 0)]] true true)]) ?_ (fun i hi=>?_)
    ·refine qI.rd id ?_ ?_ rfl;all_goals simp(disch:=omega)only[go_sem,id,rdO,zI,List.drop_zero,List.nil_append]
    ·have oki:=vR (z:=20) ok2 i;have hln:=zQ (s:=(b2,a2,e2)) (z:=20) i;by_cases hlt2:i<List.length c0
     ·have hraw:=qJe (k:=20) ⟨oki,oM⟩;have hset:=qF6 (s:=(b2,a2,e2)) (z:=20) hlt2;have hstep:(zI (b2,a2,e2) 20 (i+1)).2=(qBb (zI (b2,a2,e2) 20 i).2 20).2:=rfl;have kz:((20:Nat):Int)=20:=rfl;have hl1:=zQ (s:=(b2,a2,e2)) (z:=20) (i+1);simp only[rdO,kz] at hraw;simp(maxSteps:=9^9)(disch:=try exact dS)only[go_sem,rdO,h5,qQ,h6,hraw,hset,hln,hl1,lB0];refine⟨rfl,hlt2,qI.rd id ?_ ?_ rfl⟩;all_goals simp(disch:=omega)only[go_sem,id,rdO,hstep]
     ·have e:i=List.length c0:=oM;subst e;simp(disch:=omega)only[go_sem,rdO,hS1,List.drop_length,List.append_nil,lB0,lB1];refine qI.rd id ?_ ?_ rfl;all_goals simp(disch:=omega)only[go_sem,id,rdO,hS1,List.drop_length,List.append_nil,lB0,lB1]
   ·simp(disch:=omega)only[go_sem,List.map_nil,lB0];refine qD (List.length c1) (fun i=>[(0,.ref 0 0 0),(2,.ref 4096 0 0),(5,.ref 20512 0 0),(6,.t (.int .i64 1)),(7,.t (.int .i64 (i:Nat)))]) (fun i=>[(20512,.live 2 [.agg [.sl 20496 0 2,.t (.int .i64 u)]] true true),(20496,.live 1 [.sl 20497 0 (List.length c0),.sl 20498 0 (List.length c1)] true false),(20497,.live 1 ((B0.map bsT).map V.t) true false),(20498,.live 1 ((((zI S1 32 i).1++List.drop i c1).map bsT).map V.t) true false),(0,rdO (zI S1 32 i).2),(4096,.live 2 [.agg [.nil,.t (.int .i64 0)]] true true)]) ?_ (fun i hi=>?_)
    ·refine qI.rd id ?_ ?_ rfl;all_goals simp(disch:=omega)only[go_sem,id,rdO,zI,List.drop_zero,List.nil_append]
    ·have oki:=vR (z:=32) okS1 i;have hln:=zQ (s:=S1) (z:=32) i;by_cases hlt2:i<List.length c1
     ·have hraw:=qJe (k:=32) ⟨oki,oM⟩;have hset:=qF6 (s:=S1) (z:=32) hlt2;have hstep:(zI S1 32 (i+1)).2=(qBb (zI S1 32 i).2 32).2:=rfl;have kz:((32:Nat):Int)=32:=rfl;have hl1:=zQ (s:=S1) (z:=32) (i+1);simp only[rdO,kz] at hraw;simp(maxSteps:=9^9)(disch:=try exact dS)only[go_sem,rdO,h5,qR,h6,hraw,hset,hln,hl1,lB0];refine⟨rfl,hlt2,qI.rd id ?_ ?_ rfl⟩;all_goals simp(disch:=omega)only[go_sem,id,rdO,hstep]
     ·have e:i=List.length c1:=oM;subst e;simp(disch:=omega)only[go_sem,rdO,hS2,List.drop_length,List.append_nil,lB0,lB1];refine qI.rd id ?_ ?_ rfl;all_goals simp(disch:=omega)only[go_sem,id,rdO,hS2,List.drop_length,List.append_nil,lB0,lB1]
   ·obtain⟨b3,a3,e3⟩:=S2;have tB0:List.take (List.length c0) B0=B0:=List.take_of_length_le oM;have tB1:List.take (List.length c1) B1=B1:=List.take_of_length_le oM;by_cases hz:e3=0
    ·subst hz;rw[if_neg sM];simp(disch:=omega)only[go_sem,rdO,qV,mcn,lB0,lB1,tB0,tB1]
    ·rw[if_pos hz];have hz2:(e3==0)=false:=by simpa using hz
     simp(disch:=omega)only[go_sem,rdO,qV,hz2,List.map_nil,lB0,lB1,tB0,tB1];all_goals try rfl
   ·simp(disch:=omega)only[go_sem,List.map_nil,lB0];refine qD (List.length c0) (fun i=>[(0,.ref 0 0 0),(2,.ref 4096 0 0),(5,.ref 20512 0 0),(6,.t (.int .i64 0)),(7,.t (.int .i64 (i:Nat)))]) (fun i=>[(20512,.live 2 [.agg [.sl 20496 0 2,.t (.int .i64 u)]] true true),(20496,.live 1 [.sl 20497 0 (List.length c0),.sl 20498 0 (List.length c1)] true false),(20497,.live 1 ((((zI (b2,a2,e2) 20 i).1++List.drop i c0).map bsT).map V.t) true false),(20498,.live 1 ((c1.map bsT).map V.t) true false),(0,rdO (zI (b2,a2,e2) 20 i).2),(4096,.live 2 [.agg [.nil,.t (.int .i64 0)]] true true)]) ?_ (fun i hi=>?_)
    ·refine qI.rd id ?_ ?_ rfl;all_goals simp(disch:=omega)only[go_sem,id,rdO,zI,List.drop_zero,List.nil_append]
    ·have oki:=vR (z:=20) ok2 i;have hln:=zQ (s:=(b2,a2,e2)) (z:=20) i;by_cases hlt2:i<List.length c0
     ·have hraw:=qJe (k:=20) ⟨oki,oM⟩;have hset:=qF6 (s:=(b2,a2,e2)) (z:=20) hlt2;have hstep:(zI (b2,a2,e2) 20 (i+1)).2=(qBb (zI (b2,a2,e2) 20 i).2 20).2:=rfl;have kz:((20:Nat):Int)=20:=rfl;have hl1:=zQ (s:=(b2,a2,e2)) (z:=20) (i+1);simp only[rdO,kz] at hraw;simp(maxSteps:=9^9)(disch:=try exact dS)only[go_sem,rdO,h5,qQ,h6,hraw,hset,hln,hl1,lB0];refine⟨rfl,hlt2,qI.rd id ?_ ?_ rfl⟩;all_goals simp(disch:=omega)only[go_sem,id,rdO,hstep]
     ·have e:i=List.length c0:=oM;subst e;simp(disch:=omega)only[go_sem,rdO,hS1,List.drop_length,List.append_nil,lB0,lB1];refine qI.rd id ?_ ?_ rfl;all_goals simp(disch:=omega)only[go_sem,id,rdO,hS1,List.drop_length,List.append_nil,lB0,lB1]
   ·simp(disch:=omega)only[go_sem,List.map_nil,lB0];refine qD (List.length c1) (fun i=>[(0,.ref 0 0 0),(2,.ref 4096 0 0),(5,.ref 20512 0 0),(6,.t (.int .i64 1)),(7,.t (.int .i64 (i:Nat)))]) (fun i=>[(20512,.live 2 [.agg [.sl 20496 0 2,.t (.int .i64 u)]] true true),(20496,.live 1 [.sl 20497 0 (List.length c0),.sl 20498 0 (List.length c1)] true false),(20497,.live 1 ((B0.map bsT).map V.t) true false),(20498,.live 1 ((((zI S1 32 i).1++List.drop i c1).map bsT).map V.t) true false),(0,rdO (zI S1 32 i).2),(4096,.live 2 [.agg [.nil,.t (.int .i64 0)]] true true)]) ?_ (fun i hi=>?_)
    ·refine qI.rd id ?_ ?_ rfl;all_goals simp(disch:=omega)only[go_sem,id,rdO,zI,List.drop_zero,List.nil_append]
    ·have oki:=vR (z:=32) okS1 i;have hln:=zQ (s:=S1) (z:=32) i;by_cases hlt2:i<List.length c1
     ·have hraw:=qJe (k:=32) ⟨oki,oM⟩;have hset:=qF6 (s:=S1) (z:=32) hlt2;have hstep:(zI S1 32 (i+1)).2=(qBb (zI S1 32 i).2 32).2:=rfl;have kz:((32:Nat):Int)=32:=rfl;have hl1:=zQ (s:=S1) (z:=32) (i+1);simp only[rdO,kz] at hraw;simp(maxSteps:=9^9)(disch:=try exact dS)only[go_sem,rdO,h5,qR,h6,hraw,hset,hln,hl1,lB0];refine⟨rfl,hlt2,qI.rd id ?_ ?_ rfl⟩;all_goals simp(disch:=omega)only[go_sem,id,rdO,hstep]
     ·have e:i=List.length c1:=oM;subst e;simp(disch:=omega)only[go_sem,rdO,hS2,List.drop_length,List.append_nil,lB0,lB1];refine qI.rd id ?_ ?_ rfl;all_goals simp(disch:=omega)only[go_sem,id,rdO,hS2,List.drop_length,List.append_nil,lB0,lB1]
   ·obtain⟨b3,a3,e3⟩:=S2;have tB0:List.take (List.length c0) B0=B0:=List.take_of_length_le oM;have tB1:List.take (List.length c1) B1=B1:=List.take_of_length_le oM;by_cases hz:e3=0
    ·subst hz;rw[if_neg sM];simp(disch:=omega)only[go_sem,rdO,qV,mcn,lB0,lB1,tB0,tB1]
    ·rw[if_pos hz];have hz2:(e3==0)=false:=by simpa using hz
     simp(disch:=omega)only[go_sem,rdO,qV,hz2,List.map_nil,lB0,lB1,tB0,tB1];all_goals try rfl
def zAv:Ct where
 α:=Rd
 aS _:=[.ref 0 0 0]
 ins x:=[yU x]
 pre x:=yH x
 r x:=rgR x
 outs x:=[yU (rgS x)]
 inj:=by
  intro s t _ h2;simp only[List.cons.injEq,and_true] at h2;cases yV h2;exact⟨rfl,rfl⟩
theorem jEc {s:Rd}(h:yH s):zAv.fs [.ref 0 0 0] [rdO s]=some (rgR s,[rdO (rgS s)]):=zAv.eq s h
theorem zPf {bk:List zB}{s:Rd}(h:yH s):yH (qVu bk s).2:=by
 unfold qVu;split
 ·exact vR (vR h _) _
 ·exact h
theorem jHn {s:Rd}(h:yH s):yH (dcB s).2:=zPf (zR (zR h))
theorem zC6 (h1:LkC tab 56 qDl)(h2:LkC tab 106 zAv)(h3:LkC tab 62 qDk)(b:List UInt8)(hb:b.length<1000000000) :
  kQ.1.wp tab gl (qE 0 [.t (.sl (b.map qA))]) (qE 0 []) (qX [(2,some (2,true)),(3,none)] 0 (fun r o=>r=dcR b∧o=[])):=by
 have ok0:yH (b,0,0):=⟨Nat.zero_le _,hb⟩;have hN:=qLw hb;have hR:=jEc ok0;have okB:=jHn ok0;by_cases hbad:zBg (b,0,0)
 ·have hr:dcR b = .tup [.t (jN [] 0),.t (.int .i64 1)]:=if_pos hbad;have hg:rgR (b,0,0) = .tup [.t (jN [] 0),.t (.int .i64 1)]:=if_pos hbad;rw[hg] at hR;rw[hr];simp only[rdO,Int.natCast_zero,qUx,List.map_nil] at hN hR;simp(disch:=omega)only[go_sem,kQ,h1,h2,h3,hN,hR,List.map_nil]
 ·obtain⟨hr,hs⟩:=zRy (s:=(b,0,0)) (bk:=(dcB (b,0,0)).1) (t:=(dcB (b,0,0)).2) (u:=dcU (b,0,0)) hbad rfl rfl;have hd:=zDw (b:=b) (bk:=(dcB (b,0,0)).1) (s:=(dcB (b,0,0)).2) (u:=dcU (b,0,0)) hbad rfl rfl;rw[hr,hs] at hR;rw[hd];generalize (dcB (b,0,0)).1=bk at *;generalize (dcB (b,0,0)).2=t at *;generalize dcU (b,0,0)=u at *;have hend:=qPp okB;obtain⟨b3,a3,e3⟩:=t;by_cases hz:e3=0
  ·subst hz;rw[if_neg sM] at hR;simp only[rdO,Int.natCast_zero,qUx] at hN hR hend;by_cases hz3:vS (b3,a3,0)=0
   ·rw[if_neg (by simp[hz3])];rw[hz3] at hend;simp(disch:=omega)only[go_sem,kQ,h1,h2,h3,hN,hR,hend,List.map_nil]
   ·rw[if_pos hz3];have hz4:(vS (b3,a3,0)==0)=false:=by simpa using hz3
    simp(disch:=omega)only[go_sem,kQ,h1,h2,h3,hN,hR,hend,hz4,List.map_nil]
  ·have he:vS (b3,a3,e3)=e3:=by unfold vS;rw[if_neg (by simp[hz])]
   have hz2:(e3==0)=false:=by simpa using hz
   rw[he,if_pos hz];rw[if_pos hz] at hR;simp only[rdO,Int.natCast_zero,qUx,List.map_nil] at hN hR;simp(disch:=omega)only[go_sem,kQ,h1,h2,h3,hN,hR,hz2,List.map_nil]
theorem zR4 {b0 b1:zB}{i:Nat}:zIa [b0,b1] i=[qWo 0 b0 i,qWo 1 b1 i]:=rfl
def zY2 (bk:List zB)(a:Nat):Nat:=(bk.getD a []).length
end Go.Eng
end
