/- A part of an abstract machine, its walks, their tie. -/
import Derived.Test.YtlhjonbjbiafaaaGreatDoorU20
import Derived.Test.YtlhjonbjbiafaaaGreatDoorU16
set_option linter.all false
section
set_option maxHeartbeats 64000000
set_option maxRecDepth 20000
namespace Go.Eng
variable (tab:Tab) (gl:Gl)
def yR:Ct where
 α:=List UInt8×Nat×Int
 aS x:=[.t (.sl (x.1.map qA)),.t (.int .i64 x.2.1),.t (.int .i64 x.2.2)]
 ins _:=[]
 pre x:=x.1.length<1000000000∧1≤x.2.1∧x.2.1≤8
 r x:= .sl 0 0 (x.1.length+x.2.1)
 outs x:=[.live 1 (((x.1++beI x.2.1 x.2.2 x.2.1).map qA).map V.t) true false]
 inj:=by
  rintro⟨a,s,n⟩ ⟨c,t,m⟩ h _;simp only[List.cons.injEq,V.t.injEq,T.sl.injEq,T.int.injEq,true_and,and_true,jB,Int.natCast_inj] at h;obtain⟨rfl,rfl,rfl⟩:=h;exact⟨rfl,rfl⟩
theorem qJ7 {b:List UInt8}{n:Int}(hb:b.length<1000000000):yR.fs [.t (.sl (b.map qA)),.t (.int .i64 2),.t (.int .i64 n)] []=some (.sl 0 0 (b.length+2),[.live 1 (((b++beI 2 n 2).map qA).map V.t) true false]):=yR.eq (b,2,n) ⟨hb,by show 1≤2;omega,by show 2≤8;omega⟩
theorem qT {s k:Nat}{n:Int}:(beI s n k).length=k:=by simp[beI]
def qB7 (bk:List qY)(a:Nat)(s:Int):Nat→List UInt8
 | 0=>[]
 | i+1=>if s/2^i%2=1 then qB7 bk a s i++zDb bk a i else qB7 bk a s i
theorem qBt {n:Nat}:(zPh n).length=4:=rfl
theorem qQr {bk:List qY}{a:Nat}{s:Int}:qB7 bk a s 0=[]:=rfl
theorem qR6 {bk:List qY}{a i:Nat}{s:Int}(h:s/2^i%2=1):qB7 bk a s (i+1)=qB7 bk a s i++zDb bk a i:=if_pos h
theorem qEj {bk:List qY}{a i:Nat}{s:Int}(h : ¬ s/2^i%2=1):qB7 bk a s (i+1)=qB7 bk a s i:=if_neg h
def PD (A B:Prop)(k:Nat):Prop:=(1≤k→A)∧(2≤k→B)
def zAc (s:Int):Prop:=s<0∨65535<s
instance {s:Int}:Decidable (zAc s):=inferInstanceAs (Decidable (_∨_))
def qB0 (s0 s1:Int):List UInt8:=beI 2 s0 2++beI 2 s1 2
def zDc (bk:List qY)(s0 s1:Int):List UInt8:=qB7 bk 0 s0 16++qB7 bk 1 s1 16
def qPa (bk:List qY)(s0 s1:Int):Int:=if zAc s0∨zAc s1 then 1 else if (s0≠0∧onB bk 0=false)∨(s1≠0∧onB bk 1=false) then 27 else 0
def zD1 (bk:List qY)(s0 s1:Int):V:=if qPa bk s0 s1=0 then .tup [.sl 0 0 32,.t (.int .i64 0)] else .tup [.nil,.t (.int .i64 (qPa bk s0 s1))]
def zD0 (bk:List qY)(s0 s1:Int):List Ob:=if qPa bk s0 s1=0 then [.live 1 (((qFf 5 [qB0 s0 s1,zDc bk s0 s1]).map qA).map V.t) true false] else []
theorem vV {bk:List qY}(h:RV bk)(a:Nat)(s:Int) : ∀ i,(qB7 bk a s i).length≤64*i
 | 0=>by simp[qB7]
 | i+1=>by
  have ih:=vV h a s i;have hv:(zDb bk a i).length≤64:=by
   unfold zDb;rcases h.cases with rfl | ⟨b0,b1,rfl,_,_,m0,m1⟩
   ·simp
   ·match a with
    | 0=>exact qGx m0
    | 1=>exact qGx m1
    | a+2=>simp
  unfold qB7;split
  ·rw[List.length_append];omega
  ·omega
def wI:Ct where
 α:=Nat×List (List UInt8)
 aS x:=[.t (.int .i64 x.1),.t (.sl (x.2.map bsT))]
 ins _:=[]
 pre x:=x.1<256∧(zB x.1 x.2).length<1000000000
 r _:= .sl 0 0 32
 outs x:=[.live 1 (((qFf x.1 x.2).map qA).map V.t) true false]
 inj:=by
  rintro⟨a,b⟩ ⟨c,d⟩ h _;simp[qB1,Int.natCast_inj] at h;obtain⟨rfl,rfl⟩:=h;exact⟨rfl,rfl⟩
theorem zG1 {x y:List UInt8}(h:(zB 5 [x,y]).length<1000000000):wI.fs [.t (.int .i64 5),.t (.sl [.sl (x.map qA),.sl (y.map qA)])] []=some (.sl 0 0 32,[.live 1 (((qFf 5 [x,y]).map qA).map V.t) true false]):=wI.eq (5,[x,y]) ⟨by show 5<256;omega,h⟩
theorem qOl (h1:LkC tab 74 yR)(h2:LkC tab 243 qHi)(h3:LkC tab 100 wI)(bk:List qY)(u s0 s1:Int)(hv:RV bk) :
  xQ.1.wp tab gl (qF 0 [.t (zT bk u),.t (.agg [.int .i64 s0,.int .i64 s1])]) (qF 0 []) (kU [] [(4,none),(5,none)] 0 (fun r o=>r=zD1 bk s0 s1∧o=zD0 bk s0 s1)):=by
 simp(disch:=omega)only[go_sem,xQ];have t2:List.take 2 (beI 2 s0 2)=beI 2 s0 2:=List.take_of_length_le (by rw[qT];exact Nat.le_refl _);have t4:List.take 4 (beI 2 s0 2++beI 2 s1 2)=beI 2 s0 2++beI 2 s1 2:=List.take_of_length_le (by rw[List.length_append,qT,qT];exact Nat.le_refl _);by_cases b0:zAc s0
 ·have hE:qPa bk s0 s1=1:=by unfold qPa;rw[if_pos (.inl b0)]
  rw[zD1,zD0,hE];unfold zAc at b0;refine qG 1 ?_;by_cases c0:s0<0
  ·simp(disch:=omega)only[go_sem,qD,c0]
  ·simp(disch:=omega)only[go_sem,qD,c0]
 have hb0 : ¬ s0<0 ∧ ¬ 65535<s0:=by unfold zAc at b0;omega
 obtain⟨c0,d0⟩:=hb0;have hm:=hv.rm;have hu:=qJ7 (b:=[]) (n:=s0) (by decide);simp only[List.map_nil,List.length_nil,List.nil_append] at hu;by_cases b1:zAc s1
 ·have hE:qPa bk s0 s1=1:=by unfold qPa;rw[if_pos (.inr b1)]
  rw[zD1,zD0,hE];unfold zAc at b1;refine qG 2 ?_;by_cases c1:s1<0
  ·simp(disch:=omega)only[go_sem,qD,c0,d0,c1,h1,hu,List.map_nil]
  ·simp(disch:=omega)only[go_sem,qD,c0,d0,c1,h1,hu,List.map_nil]
 have hb1 : ¬ s1<0 ∧ ¬ 65535<s1:=by unfold zAc at b1;omega
 obtain⟨c1,d1⟩:=hb1;refine qB 2 (fun k=>match k with
  | 0=>[(2,.ref 4096 0 0),(3,.ref 4112 0 0),(6,.t (.sl (([]:List UInt8).map qA))),(7,.nil),(13,.t (.agg [.int .i64 s0,.int .i64 s1])),(14,.t (.int .i64 0))]
  | 1=>[(2,.ref 4096 0 0),(3,.ref 4112 0 0),(6,.t (.sl ((beI 2 s0 2).map qA))),(7,.nil),(13,.t (.agg [.int .i64 s0,.int .i64 s1])),(14,.t (.int .i64 1))]
  | _=>[(2,.ref 4096 0 0),(3,.ref 4112 0 0),(6,.t (.sl ((qB0 s0 s1).map qA))),(7,.nil),(13,.t (.agg [.int .i64 s0,.int .i64 s1])),(14,.t (.int .i64 2))])
  (fun _=>[(4112,.live 1 [.t (.int .i64 s0),.t (.int .i64 s1)] true true),(4096,.live 2 [.t (zT bk u)] true true)]) ?_ (fun k hk=>?_)
 ·refine qJ.rd id ?_ ?_ rfl;all_goals simp(disch:=omega)only[go_sem,id,List.map_nil]
 ·rcases (show k=0∨k=1∨k=2 by omega) with rfl | rfl | rfl
  ·simp(disch:=omega)only[go_sem,c0,d0,h1,hu,List.map_nil];refine qJ.cv (hv:=[]) [32800] id ?_ rfl;simp(disch:=omega)only[go_sem,id,qT,t2];rfl
  ·have hu:=qJ7 (b:=beI 2 s0 2) (n:=s1) (by rw[qT];omega);rw[qT] at hu;simp(disch:=omega)only[go_sem,c1,d1,h1,hu];refine qJ.cv (hv:=[]) [32800] id ?_ rfl;simp(disch:=omega)only[go_sem,id,qT,qB0,t4];rfl
  ·simp(disch:=omega)only[go_sem];refine qPj 2 (PD (s0=0∨onB bk 0=true) (s1=0∨onB bk 1=true)) (fun k=>match k with | 0=>[(2,.ref 4096 0 0),(6,.t (.sl ((qB0 s0 s1).map qA))),(7,.sl 9100 0 (List.length ([]:List UInt8))),(27,.t (.agg [.int .i64 s0,.int .i64 s1])),(28,.t (.int .i64 0))] | 1=>[(2,.ref 4096 0 0),(6,.t (.sl ((qB0 s0 s1).map qA))),(7,.sl 9100 0 (List.length (qB7 bk 0 s0 16))),(27,.t (.agg [.int .i64 s0,.int .i64 s1])),(28,.t (.int .i64 1))] | _=>[(2,.ref 4096 0 0),(6,.t (.sl ((qB0 s0 s1).map qA))),(7,.sl 9100 0 (List.length (qB7 bk 0 s0 16++qB7 bk 1 s1 16))),(27,.t (.agg [.int .i64 s0,.int .i64 s1])),(28,.t (.int .i64 2))]) (fun k=>match k with | 0=>[(9100,.live 1 ((([]:List UInt8).map qA).map V.t) true false),(4096,.live 2 [.t (zT bk u)] true true)] | 1=>[(9100,.live 1 (((qB7 bk 0 s0 16).map qA).map V.t) true false),(4096,.live 2 [.t (zT bk u)] true true)] | _=>[(9100,.live 1 (((qB7 bk 0 s0 16++qB7 bk 1 s1 16).map qA).map V.t) true false),(4096,.live 2 [.t (zT bk u)] true true)]) ⟨fun h=>absurd h oM,fun h=>absurd h oM⟩ ?_ (fun k hk hP=>?_)
   ·refine qJ.cv0 (hv:=[(9100,.live 1 [] true false)]) (ho:=[(4096,.live 2 [.t (zT bk u)] true true)]) id ?_ ?_ rfl rfl;all_goals simp(disch:=omega)only[go_sem,id,mcn,List.length_nil]
   ·rcases (show k=0∨k=1∨k=2 by omega) with rfl | rfl | rfl
    ·by_cases z:s0=0
     ·have zz:(s0==0)=true:=by simpa using z
      simp(disch:=omega)only[go_sem,zz];refine qB 16 (fun i=>[(2,.ref 4096 0 0),(6,.t (.sl ((qB0 s0 s1).map qA))),(7,.sl 9100 0 (List.length (qB7 bk 0 s0 i))),(10,.t (.int .i64 0)),(11,.t (.int .i64 s0)),(27,.t (.agg [.int .i64 s0,.int .i64 s1])),(28,.t (.int .i64 0)),(40,.t (.int .i64 (i:Nat)))]) (fun i=>[(9100,.live 1 (((qB7 bk 0 s0 i).map qA).map V.t) true false),(4096,.live 2 [.t (zT bk u)] true true)]) ?_ (fun i hi=>?_)
      ·refine qJ.rd id ?_ ?_ rfl;all_goals simp(disch:=omega)only[go_sem,id,qQr,List.append_nil]
      ·have l0:=vV hv 0 s0 16;have l1:=vV hv 0 s0 i;by_cases hlt:i<16
       ·have hsh:s0.fdiv (2^i)=s0/2^i:=Int.fdiv_eq_ediv_of_nonneg _ (Int.le_of_lt (Int.pow_pos (by decide)));have hb : ¬ s0/2^i%2=1:=by rw[z];simp
        simp(disch:=omega)only[go_sem,hsh,hb];refine⟨hlt,qJ.rd id ?_ ?_ rfl⟩;all_goals simp(disch:=omega)only[go_sem,id,qEj (bk:=bk) (a:=0) hb]
       ·have e:i=16:=oM;subst e;simp(disch:=omega)only[go_sem];refine⟨⟨fun _=> .inl z,fun h=>absurd h oM⟩,qJ.rd id ?_ ?_ rfl⟩;all_goals simp(disch:=omega)only[go_sem,id]
     ·have zz:(s0==0)=false:=by simpa using z
      have c0:=zM3 (u:=u) (a:=0) hv.1 oM;rw[show ((0:Nat):Int)=0 from rfl] at c0;cases ho:onB bk 0
      ·rw[ho] at c0;have hE:qPa bk s0 s1=27:=by
        unfold qPa;rw[if_neg (by rintro (h | h);exact b0 h;exact b1 h),if_pos (.inl ⟨z,ho⟩)]
       rw[zD1,zD0,hE];simp(disch:=omega)only[go_sem,zz,h2,c0]
      ·rw[ho] at c0;have hbl:=hv.1.len ho;have hbn:List.length (bk.getD 0 [])=16:=by simpa [onB] using ho
       simp(disch:=omega)only[go_sem,zz,h2,c0];refine qB 16 (fun i=>[(2,.ref 4096 0 0),(6,.t (.sl ((qB0 s0 s1).map qA))),(7,.sl 9100 0 (List.length (qB7 bk 0 s0 i))),(10,.t (.int .i64 0)),(11,.t (.int .i64 s0)),(27,.t (.agg [.int .i64 s0,.int .i64 s1])),(28,.t (.int .i64 0)),(40,.t (.int .i64 (i:Nat)))]) (fun i=>[(9100,.live 1 (((qB7 bk 0 s0 i).map qA).map V.t) true false),(4096,.live 2 [.t (zT bk u)] true true)]) ?_ (fun i hi=>?_)
       ·refine qJ.rd id ?_ ?_ rfl;all_goals simp(disch:=omega)only[go_sem,id,qQr,List.append_nil]
       ·have l0:=vV hv 0 s0 16;have l1:=vV hv 0 s0 i;by_cases hlt:i<16
        ·have hsh:s0.fdiv (2^i)=s0/2^i:=Int.fdiv_eq_ediv_of_nonneg _ (Int.le_of_lt (Int.pow_pos (by decide)));by_cases hb:s0/2^i%2=1
         ·have hvl:=hm.val 0 i;have hx:(bk.getD 0 []).getD i []=zDb bk 0 i:=rfl;simp(disch:=omega)only[go_sem,hsh,hb,hx];refine⟨hlt,qJ.rd (fun j=>if j=9100 then 77968 else j) ?_ ?_ rfl⟩;all_goals simp(disch:=omega)only[go_sem,qR6 (bk:=bk) (a:=0) hb,List.append_assoc]
          all_goals try omega
         ·simp(disch:=omega)only[go_sem,hsh,hb];refine⟨hlt,qJ.rd id ?_ ?_ rfl⟩;all_goals simp(disch:=omega)only[go_sem,id,qEj (bk:=bk) (a:=0) hb]
        ·have e:i=16:=oM;subst e;simp(disch:=omega)only[go_sem];refine⟨⟨fun _=>(by first | exact .inr ho | trivial),fun h=>absurd h oM⟩,qJ.rd id ?_ ?_ rfl⟩;all_goals simp(disch:=omega)only[go_sem,id]
    ·by_cases z:s1=0
     ·have zz:(s1==0)=true:=by simpa using z
      simp(disch:=omega)only[go_sem,zz];refine qB 16 (fun i=>[(2,.ref 4096 0 0),(6,.t (.sl ((qB0 s0 s1).map qA))),(7,.sl 9100 0 (List.length (qB7 bk 0 s0 16++qB7 bk 1 s1 i))),(10,.t (.int .i64 1)),(11,.t (.int .i64 s1)),(27,.t (.agg [.int .i64 s0,.int .i64 s1])),(28,.t (.int .i64 1)),(40,.t (.int .i64 (i:Nat)))]) (fun i=>[(9100,.live 1 (((qB7 bk 0 s0 16++qB7 bk 1 s1 i).map qA).map V.t) true false),(4096,.live 2 [.t (zT bk u)] true true)]) ?_ (fun i hi=>?_)
      ·refine qJ.rd id ?_ ?_ rfl;all_goals simp(disch:=omega)only[go_sem,id,qQr,List.append_nil]
      ·have l0:=vV hv 0 s0 16;have l1:=vV hv 1 s1 i;by_cases hlt:i<16
       ·have hsh:s1.fdiv (2^i)=s1/2^i:=Int.fdiv_eq_ediv_of_nonneg _ (Int.le_of_lt (Int.pow_pos (by decide)));have hb : ¬ s1/2^i%2=1:=by rw[z];simp
        simp(disch:=omega)only[go_sem,hsh,hb];refine⟨hlt,qJ.rd id ?_ ?_ rfl⟩;all_goals simp(disch:=omega)only[go_sem,id,qEj (bk:=bk) (a:=1) hb]
       ·have e:i=16:=oM;subst e;simp(disch:=omega)only[go_sem];refine⟨⟨fun _=>hP.1 oM,fun _=> .inl z⟩,qJ.rd id ?_ ?_ rfl⟩;all_goals simp(disch:=omega)only[go_sem,id]
     ·have zz:(s1==0)=false:=by simpa using z
      have c1:=zM3 (u:=u) (a:=1) hv.1 oM;rw[show ((1:Nat):Int)=1 from rfl] at c1;cases ho:onB bk 1
      ·rw[ho] at c1;have hE:qPa bk s0 s1=27:=by
        unfold qPa;rw[if_neg (by rintro (h | h);exact b0 h;exact b1 h),if_pos (.inr ⟨z,ho⟩)]
       rw[zD1,zD0,hE];simp(disch:=omega)only[go_sem,zz,h2,c1]
      ·rw[ho] at c1;have hbl:=hv.1.len ho;have hbn:List.length (bk.getD 1 [])=16:=by simpa [onB] using ho
       simp(disch:=omega)only[go_sem,zz,h2,c1];refine qB 16 (fun i=>[(2,.ref 4096 0 0),(6,.t (.sl ((qB0 s0 s1).map qA))),(7,.sl 9100 0 (List.length (qB7 bk 0 s0 16++qB7 bk 1 s1 i))),(10,.t (.int .i64 1)),(11,.t (.int .i64 s1)),(27,.t (.agg [.int .i64 s0,.int .i64 s1])),(28,.t (.int .i64 1)),(40,.t (.int .i64 (i:Nat)))]) (fun i=>[(9100,.live 1 (((qB7 bk 0 s0 16++qB7 bk 1 s1 i).map qA).map V.t) true false),(4096,.live 2 [.t (zT bk u)] true true)]) ?_ (fun i hi=>?_)
       ·refine qJ.rd id ?_ ?_ rfl;all_goals simp(disch:=omega)only[go_sem,id,qQr,List.append_nil]
       ·have l0:=vV hv 0 s0 16;have l1:=vV hv 1 s1 i;by_cases hlt:i<16
        ·have hsh:s1.fdiv (2^i)=s1/2^i:=Int.fdiv_eq_ediv_of_nonneg _ (Int.le_of_lt (Int.pow_pos (by decide)));by_cases hb:s1/2^i%2=1
         ·have hvl:=hm.val 1 i;have hx:(bk.getD 1 []).getD i []=zDb bk 1 i:=rfl;simp(disch:=omega)only[go_sem,hsh,hb,hx];refine⟨hlt,qJ.rd (fun j=>if j=9100 then 77968 else j) ?_ ?_ rfl⟩;all_goals simp(disch:=omega)only[go_sem,qR6 (bk:=bk) (a:=1) hb,List.append_assoc]
          all_goals try omega
         ·simp(disch:=omega)only[go_sem,hsh,hb];refine⟨hlt,qJ.rd id ?_ ?_ rfl⟩;all_goals simp(disch:=omega)only[go_sem,id,qEj (bk:=bk) (a:=1) hb]
        ·have e:i=16:=oM;subst e;simp(disch:=omega)only[go_sem];refine⟨⟨fun _=>hP.1 oM,fun _=>by first | exact .inr ho | trivial⟩,qJ.rd id ?_ ?_ rfl⟩;all_goals simp(disch:=omega)only[go_sem,id]
    ·have l0:=vV hv 0 s0 16;have l1:=vV hv 1 s1 16;have p0:=hP.1 oM;have p1:=hP.2 oM;have hE:qPa bk s0 s1=0:=by
      unfold qPa;rw[if_neg (by rintro (h | h);exact b0 h;exact b1 h),if_neg];rintro (⟨h1,h2⟩ | ⟨h1,h2⟩)
      ·rcases p0 with h | h
       ·exact h1 h
       ·rw[h] at h2;cases h2
      ·rcases p1 with h | h
       ·exact h1 h
       ·rw[h] at h2;cases h2
     have hv2:(zDc bk s0 s1).length≤2048:=by unfold zDc;rw[List.length_append];omega
     have hh2:(qB0 s0 s1).length=4:=by unfold qB0;rw[List.length_append,qT,qT]
     have hvs:qB7 bk 0 s0 16++qB7 bk 1 s1 16=zDc bk s0 s1:=rfl;rw[zD1,zD0,if_pos hE,if_pos hE];have hf:(zB 5 [qB0 s0 s1,zDc bk s0 s1]).length<1000000000:=by
      simp only[zB,List.flatMap_cons,List.flatMap_nil,List.length_cons,List.length_append,List.length_nil,qBt];omega
     have hq:=zG1 hf;have tv:List.take (zDc bk s0 s1).length (zDc bk s0 s1)=zDc bk s0 s1:=List.take_of_length_le (Nat.le_refl _);simp(disch:=omega)only[go_sem,hvs,h3,hq,tv]
def zKc (bk:List qY)(u:Int):List UInt8:=UInt8.ofNat (qWi bk).toNat::beI 8 u 8
theorem qNb {bk:List qY}{u:Int}:(zKc bk u).length=9:=by simp[zKc,beI]
def qEc (bk:List qY)(u:Int):List UInt8:=zKc bk u++bk.flatten.flatten
theorem qMe {b:qY}(h : ∀ x∈b,x.length≤64) : ∀ i,(List.take i b).flatten.length≤64*i
 | 0=>sM
 | i+1=>by
  have ih:=qMe h i;by_cases hi:i<List.length b
  ·rw[qDz (d:=[]) hi,List.flatten_append,List.length_append];have:=qGx (n:=i) h;simp only[List.flatten_cons,List.flatten_nil,List.append_nil];omega
  ·rw[List.take_of_length_le oM,←List.take_of_length_le (l:=b) (i:=i) oM];omega
theorem zCf {b:qY}{i:Nat}(h:i<List.length b):(List.take (i+1) b).flatten=(List.take i b).flatten++b.getD i []:=by
 rw[qDz (d:=[]) h,List.flatten_append];simp
theorem zJn {b:List UInt8}{n:Int}(hb:b.length<1000000000):yR.fs [.t (.sl (b.map qA)),.t (.int .i64 8),.t (.int .i64 n)] []=some (.sl 0 0 (b.length+8),[.live 1 (((b++beI 8 n 8).map qA).map V.t) true false]):=yR.eq (b,8,n) ⟨hb,by show 1≤8;omega,by show 8≤8;omega⟩
theorem zKh {bk:List qY}(hk:RK bk):0≤qWi bk∧qWi bk<4:=by
 rcases hk.cases with rfl | ⟨b0,b1,rfl,h0,h1⟩
 ·exact⟨by decide,by decide⟩
 ·show 0≤zAb b0 b1∧zAb b0 b1<4;unfold zAb;split<;>split<;>decide
theorem qOm (h1:LkC tab 103 wT)(h2:LkC tab 74 yR)(bk:List qY)(u:Int)(hv:RV bk) :
  wP.1.wp tab gl (qF 0 [.t (zT bk u)]) (qF 0 []) (kU [] [(2,none)] 0 (fun r o=>r = .sl 0 0 (qEc bk u).length∧o=[.live 1 (((qEc bk u).map qA).map V.t) true false])):=by
 have ha:=zAj (u:=u) hv.1;have hact:=zKh hv.1;obtain⟨m,hm⟩:=Int.eq_ofNat_of_zero_le hact.1;have hu:=zJn (b:=[UInt8.ofNat m]) (n:=u) sM;simp only[mcn] at hu;rw[hm] at ha;have hbk:UInt8.ofNat m::beI 8 u 8=zKc bk u:=by unfold zKc;rw[hm];rfl
 rcases hv.cases with rfl | ⟨b0,b1,rfl,g0,g1,m0,m1⟩
 ·rw[List.map_nil] at ha;simp(disch:=omega)only[go_sem,wP,h1,h2,ha,hu,List.map_nil];repeat refine And.intro rfl ?_
  refine qG 1 ?_;simp(disch:=omega)only[go_sem,qD];have e1:qEc [] u=zKc [] u:=by simp[qEc]
  rw[e1];refine⟨qNb.symm,?_⟩;rw[←hbk];rfl
 ·simp only[mcn,zAn] at ha;have q0:List.length b0≤16:=by rcases g0 with h | h<;>omega
  have q1:List.length b1≤16:=by rcases g1 with h | h<;>omega
  have f0:b0.flatten.length≤1024:=by have:=qMe m0 16;rw[List.take_of_length_le q0] at this;omega
  have f1:b1.flatten.length≤1024:=by have:=qMe m1 16;rw[List.take_of_length_le q1] at this;omega
  have hl9:=qNb (bk:=[b0,b1]) (u:=u);generalize hH:zKc [b0,b1] u=H at *;simp(disch:=omega)only[go_sem,wP,h1,h2,ha,hu,mcn];repeat refine And.intro rfl ?_
  refine qB 2 (fun k=>match k with | 0=>[(1,.ref 4096 0 0),(3,.sl 9100 0 (List.length (H))),(16,.t (.int .i64 2)),(17,.t (.int .i64 0))] | 1=>[(1,.ref 4096 0 0),(3,.sl 9100 0 (List.length (H++b0.flatten))),(16,.t (.int .i64 2)),(17,.t (.int .i64 1))] | _=>[(1,.ref 4096 0 0),(3,.sl 9100 0 (List.length (H++b0.flatten++b1.flatten))),(16,.t (.int .i64 2)),(17,.t (.int .i64 2))]) (fun k=>match k with | 0=>[(9100,.live 1 (((H).map qA).map V.t) true false),(4096,.live 2 [.t (zT [b0,b1] u)] true true)] | 1=>[(9100,.live 1 (((H++b0.flatten).map qA).map V.t) true false),(4096,.live 2 [.t (zT [b0,b1] u)] true true)] | _=>[(9100,.live 1 (((H++b0.flatten++b1.flatten).map qA).map V.t) true false),(4096,.live 2 [.t (zT [b0,b1] u)] true true)]) ?_ (fun k hk=>?_)
  ·refine qJ.rd (fun j=>if j=9100 then 8288 else j) ?_ ?_ rfl;all_goals simp(disch:=omega)only[go_sem,mcn]
   ·exact hl9.symm
   ·rw[←hbk];rfl
  ·rcases (show k=0∨k=1∨k=2 by omega) with rfl | rfl | rfl
   ·simp(disch:=omega)only[go_sem,mcn];refine qB (List.length b0) (fun i=>[(1,.ref 4096 0 0),(3,.sl 9100 0 (List.length (H++(List.take i b0).flatten))),(16,.t (.int .i64 2)),(17,.t (.int .i64 0)),(24,.t (.sl (b0.map bsT))),(25,.t (.int .i64 (List.length b0))),(26,.t (.int .i64 (i:Nat)))]) (fun i=>[(9100,.live 1 (((H++(List.take i b0).flatten).map qA).map V.t) true false),(4096,.live 2 [.t (zT [b0,b1] u)] true true)]) ?_ (fun i hi=>?_)
    ·refine qJ.rd id ?_ ?_ rfl;all_goals simp(disch:=omega)only[go_sem,id,List.take_zero,List.flatten_nil,List.append_nil,mcn]
    ·have hfl:=qMe m0 i;by_cases hlt:i<List.length b0
     ·have hg:=qGx (n:=i) m0;have hts:=zCf (b:=b0) hlt;simp(disch:=omega)only[go_sem,mcn];refine⟨hlt,qJ.rd (fun j=>if j=9100 then 36896 else j) ?_ ?_ rfl⟩;all_goals simp(disch:=omega)only[go_sem,hts,List.append_assoc]
      all_goals try omega
     ·have e:i=List.length b0:=oM;subst e;simp(disch:=omega)only[go_sem,mcn,List.take_length];refine qJ.rd id ?_ ?_ rfl;all_goals simp(disch:=omega)only[go_sem,id,List.take_length]
   ·simp(disch:=omega)only[go_sem,mcn];refine qB (List.length b1) (fun i=>[(1,.ref 4096 0 0),(3,.sl 9100 0 (List.length (H++b0.flatten++(List.take i b1).flatten))),(16,.t (.int .i64 2)),(17,.t (.int .i64 1)),(24,.t (.sl (b1.map bsT))),(25,.t (.int .i64 (List.length b1))),(26,.t (.int .i64 (i:Nat)))]) (fun i=>[(9100,.live 1 (((H++b0.flatten++(List.take i b1).flatten).map qA).map V.t) true false),(4096,.live 2 [.t (zT [b0,b1] u)] true true)]) ?_ (fun i hi=>?_)
    ·refine qJ.rd id ?_ ?_ rfl;all_goals simp(disch:=omega)only[go_sem,id,List.take_zero,List.flatten_nil,List.append_nil,mcn]
    ·have hfl:=qMe m1 i;by_cases hlt:i<List.length b1
     ·have hg:=qGx (n:=i) m1;have hts:=zCf (b:=b1) hlt;simp(disch:=omega)only[go_sem,mcn];refine⟨hlt,qJ.rd (fun j=>if j=9100 then 36896 else j) ?_ ?_ rfl⟩;all_goals simp(disch:=omega)only[go_sem,hts,List.append_assoc]
      all_goals try omega
     ·have e:i=List.length b1:=oM;subst e;simp(disch:=omega)only[go_sem,mcn,List.take_length];refine qJ.rd id ?_ ?_ rfl;all_goals simp(disch:=omega)only[go_sem,id,List.take_length]
   ·simp(disch:=omega)only[go_sem,mcn];have e1:qEc [b0,b1] u=H++List.flatten b0++List.flatten b1:=by rw[qEc,hH];simp
    rw[e1,List.length_append,List.length_append];exact⟨rfl,rfl⟩
abbrev rdO (s:Rd):Ob:= .live 3 [.t (.agg [.sl (s.1.map qA),.int .i64 (s.2.1:Int),.int .i64 s.2.2])] true true
def qId:Ct where
 α:=List UInt8
 aS x:=[.t (.sl (x.map qA))]
 ins _:=[]
 pre x:=x.length<1000000000
 r _:= .ref 0 0 0
 outs x:=[kP (x,0,0)]
 inj:=by
  intro a b h _;simp only[List.cons.injEq,V.t.injEq,T.sl.injEq,and_true,jB] at h;subst h;exact⟨rfl,rfl⟩
theorem qPo {b:List UInt8}(h:b.length<1000000000):qId.fs [.t (.sl (b.map qA))] []=some (.ref 0 0 0,[rdO (b,0,0)]):=qId.eq b h
def qIc:Ct where
 α:=Rd×Nat
 aS x:=[.ref 0 0 0,.t (.int .i64 x.2)]
 ins x:=[kP x.1]
 pre x:=qEg x.1∧1≤x.2∧x.2≤8
 r x:= .t (.int .i64 (qU x.1 x.2).1)
 outs x:=[kP (qU x.1 x.2).2]
 inj:=by
  rintro⟨s,a⟩ ⟨t,c⟩ h1 h2;simp only[List.cons.injEq,V.t.injEq,T.int.injEq,true_and,and_true,Int.natCast_inj] at h1;simp only[List.cons.injEq,and_true] at h2;subst h1;cases qCy h2;exact⟨rfl,rfl⟩
theorem kY {s:Rd}{k:Nat}(h:qEg s∧1≤k∧k≤8):qIc.fs [.ref 0 0 0,.t (.int .i64 k)] [rdO s]=some (.t (.int .i64 (qU s k).1),[rdO (qU s k).2]):=qIc.eq (s,k) h
def qS4:Ct where
 α:=Rd×Nat
 aS x:=[.ref 0 0 0,.t (.int .i64 x.2)]
 ins x:=[kP x.1]
 pre x:=qEg x.1∧x.2≤1000000000
 r x:= .t (.sl ((qB2 x.1 x.2).1.map qA))
 outs x:=[kP (qB2 x.1 x.2).2]
 inj:=by
  rintro⟨s,a⟩ ⟨t,c⟩ h1 h2;simp only[List.cons.injEq,V.t.injEq,T.int.injEq,true_and,and_true,Int.natCast_inj] at h1;simp only[List.cons.injEq,and_true] at h2;subst h1;cases qCy h2;exact⟨rfl,rfl⟩
theorem qJi {s:Rd}{k:Nat}(h:qEg s∧k≤1000000000):qS4.fs [.ref 0 0 0,.t (.int .i64 k)] [rdO s]=some (.t (.sl ((qB2 s k).1.map qA)),[rdO (qB2 s k).2]):=qS4.eq (s,k) h
def qO7:Ct where
 α:=Rd
 aS _:=[.ref 0 0 0]
 ins x:=[kP x]
 pre x:=qEg x
 r x:= .t (.int .i64 x.2.2)
 outs x:=[kP x]
 inj:=by
  intro s t _ h2;simp only[List.cons.injEq,and_true] at h2;cases qCy h2;exact⟨rfl,rfl⟩
theorem qT0 {s:Rd}(h:qEg s):qO7.fs [.ref 0 0 0] [rdO s]=some (.t (.int .i64 s.2.2),[rdO s]):=qO7.eq s h
def qK1:Ct where
 α:=Rd
 aS _:=[.ref 0 0 0]
 ins x:=[kP x]
 pre x:=qEg x
 r x:= .t (.int .i64 (qA2 x))
 outs x:=[kP x]
 inj:=by
  intro s t _ h2;simp only[List.cons.injEq,and_true] at h2;cases qCy h2;exact⟨rfl,rfl⟩
theorem qTz {s:Rd}(h:qEg s):qK1.fs [.ref 0 0 0] [rdO s]=some (.t (.int .i64 (qA2 s)),[rdO s]):=qK1.eq s h
theorem zBv {s:Rd}{k:Nat}(h:qEg s):qEg (qU s k).2:=by
 unfold qU qEg at *;split
 ·exact h
 ·split
  ·exact h
  ·split
   ·exact h
   ·exact⟨by simp only;omega,h.2⟩
theorem zSq {s:Rd}{k:Nat}(h:qEg s):qEg (qB2 s k).2:=by
 unfold qB2 qEg at *;split
 ·exact h
 ·split
  ·exact h
  ·exact⟨by simp only;omega,h.2⟩
theorem zSp {s:Rd}{k:Nat}:(qB2 s k).1.length≤k:=by
 unfold qB2;split
 ·simp
 ·split
  ·simp
  ·simp only[List.length_take];omega
def jG (s:Rd)(z:Nat):Nat→List (List UInt8)×Rd
 | 0=>([],s)
 | n+1=>((jG s z n).1++[(qB2 (jG s z n).2 z).1],(qB2 (jG s z n).2 z).2)
theorem qDw {s:Rd}{z:Nat}(h:qEg s) : ∀ n,qEg (jG s z n).2
 | 0=>h
 | n+1=>zSq (qDw h n)
theorem yD {s:Rd}{z:Nat} : ∀ n,(jG s z n).1.length=n
 | 0=>rfl
 | n+1=>by simp[jG,yD n]
theorem zIq (s:Int):(yJ s=[]∧kN.fs [.t (.int .i64 s)] []=some (.agg [.nil,.t (.int .i64 0)],[])) ∨ ∃ b0 b1:qY,yJ s=[b0,b1]∧qRr b0∧qRr b1∧kN.fs [.t (.int .i64 s)] []=some (.agg [.sl 0 0 2,.t (.int .i64 0)],[.live 1 [.sl 1 0 b0.length,.sl 2 0 b1.length] true false,.live 1 ((b0.map bsT).map V.t) true false,.live 1 ((b1.map bsT).map V.t) true false]):=by
 have h:=kN.eq s trivial;rcases (zG8 (s:=s)).cases with e | ⟨b0,b1,e,h0,h1,_,_⟩
 ·refine .inl ⟨e,h.trans ?_⟩;show some (twR (yJ s) 0,twO (yJ s))=_;rw[e];rfl
 ·refine .inr ⟨b0,b1,e,h0,h1,h.trans ?_⟩;show some (twR (yJ s) 0,twO (yJ s))=_;rw[e];rfl
def zGs (bk:List qY)(s:Rd):List qY×Rd:=match bk with
 | [b0,b1]=>([(jG s 20 (List.length b0)).1,(jG (jG s 20 (List.length b0)).2 32 (List.length b1)).1],(jG (jG s 20 (List.length b0)).2 32 (List.length b1)).2)
 | _=>([],s)
def qO9 (s:Rd):Int:=(qU s 1).1
def dcU (s:Rd):Int:=(qU (qU s 1).2 8).1
def dcB (s:Rd):List qY×Rd:=zGs (yJ (qO9 s)) (qU (qU s 1).2 8).2
def dcR (b:List UInt8):V:=
 let s:Rd:=(b,0,0)
 if (qU s 1).2.2.2=0∧4≤qO9 s then .tup [.t (zT [] 0),.t (.int .i64 1)]
 else if qA2 (dcB s).2≠0 then .tup [.t (zT [] 0),.t (.int .i64 (qA2 (dcB s).2))]
 else .tup [.t (zT (dcB s).1 (dcU s)),.t (.int .i64 0)]
theorem qR3 {s:Rd}{z i:Nat}{c:List (List UInt8)}(h:i<List.length c):((jG s z i).1++List.drop i c).set i (qB2 (jG s z i).2 z).1=(jG s z (i+1)).1++List.drop (i+1) c:=by
 rw[List.set_append_right _ _ (by rw[yD];exact Nat.le_refl _),yD,Nat.sub_self];have e:List.drop i c=c[i]::List.drop (i+1) c:=List.drop_eq_getElem_cons h;rw[e,List.set_cons_zero];simp[jG]
theorem zGr {b:List UInt8}{bk:List qY}{s:Rd}{u:Int}(h : ¬ ((qU (b,0,0) 1).2.2.2=0∧4≤qO9 (b,0,0)))(hB:dcB (b,0,0)=(bk,s))(hU:dcU (b,0,0)=u):dcR b=if qA2 s≠0 then .tup [.t (zT [] 0),.t (.int .i64 (qA2 s))] else .tup [.t (zT bk u),.t (.int .i64 0)]:=by
 unfold dcR;simp only[hB,hU];rw[if_neg h]
theorem qOk (h1:LkC tab 106 qId)(h2:LkC tab 118 qIc)(h3:LkC tab 120 qO7)(h4:LkC tab 174 kN)(h5:LkC tab 175 kD)(h6:LkC tab 134 qS4)(h7:LkC tab 114 qK1)(b:List UInt8)(hb:b.length<1000000000) :
  zO.1.wp tab gl (qF 0 [.t (.sl (b.map qA))]) (qF 0 []) (zD [(2,some (2,true)),(3,none)] 0 (fun r o=>r=dcR b∧o=[])):=by
 have ok0:qEg (b,0,0):=⟨Nat.zero_le _,hb⟩;have hN:=qPo hb;obtain⟨⟨set,b1,a1,e1⟩,hU1⟩ : ∃ x,qU (b,0,0) 1=x:=⟨_,rfl⟩;have hI1:=kY (k:=1) ⟨ok0,oM,oM⟩;have ok1:qEg (b1,a1,e1):=by have:=zBv (k:=1) ok0;rw[hU1] at this;exact this
 rw[hU1] at hI1;have hE1:=qT0 ok1;simp only[rdO,Int.natCast_zero,Int.natCast_one] at hN hI1 hE1;by_cases hbad:e1=0∧4≤set
 ·have hr:dcR b = .tup [.t (zT [] 0),.t (.int .i64 1)]:=by
   unfold dcR qO9;simp only[hU1];rw[if_pos hbad]
  rw[hr];obtain⟨rfl,hset⟩:=hbad;simp(disch:=omega)only[go_sem,zO,h1,h2,h3,hN,hI1,hE1,hset,List.map_nil]
 ·have hbad' : ¬ ((qU (b,0,0) 1).2.2.2=0∧4≤qO9 (b,0,0)):=by unfold qO9;simp only[hU1];exact hbad
  have hgo:(e1==0)=false∨((e1==0)=true∧set<4):=by
   by_cases h:e1=0
   ·exact .inr ⟨by simpa using h,oM⟩
   ·exact .inl (by simpa using h)
  obtain⟨⟨u,b2,a2,e2⟩,hU2⟩ : ∃ x,qU (b1,a1,e1) 8=x:=⟨_,rfl⟩;have hI2:=kY (k:=8) ⟨ok1,oM,oM⟩;have ok2:qEg (b2,a2,e2):=by have:=zBv (k:=8) ok1;rw[hU2] at this;exact this
  rw[hU2] at hI2;have k8:((8:Nat):Int)=8:=rfl;simp only[rdO,k8] at hI2;rcases zIq set with⟨en,hn⟩ | ⟨c0,c1,en,g0,g1,hn⟩
  ·have hB:dcB (b,0,0)=([],(b2,a2,e2)):=by
    unfold dcB qO9;simp only[hU1,hU2,en];rfl
   have hU:dcU (b,0,0)=u:=by unfold dcU;simp only[hU1,hU2]
   have hr:=zGr (b:=b) hbad' hB hU;have hend:=qTz ok2;simp only[rdO] at hend;rw[hr];by_cases hz:qA2 (b2,a2,e2)=0
   ·rw[if_neg (by simp[hz])];rw[hz] at hend;rcases hgo with hgo | ⟨hgo,hlt⟩
    ·simp(disch:=omega)only[go_sem,zO,h1,h2,h3,h4,hN,hI1,hE1,hgo,hn,hI2,List.map_nil];refine qG 1 ?_;simp(disch:=omega)only[go_sem,qD,h7,hend,List.map_nil]
    ·simp(disch:=omega)only[go_sem,zO,h1,h2,h3,h4,hN,hI1,hE1,hgo,hlt,hn,hI2,List.map_nil];refine qG 1 ?_;simp(disch:=omega)only[go_sem,qD,h7,hend,List.map_nil]
   ·rw[if_pos hz];have hz2:(qA2 (b2,a2,e2)==0)=false:=by simpa using hz
    rcases hgo with hgo | ⟨hgo,hlt⟩
    ·simp(disch:=omega)only[go_sem,zO,h1,h2,h3,h4,hN,hI1,hE1,hgo,hn,hI2,List.map_nil];refine qG 1 ?_;simp(disch:=omega)only[go_sem,qD,h7,hend,hz2,List.map_nil]
    ·simp(disch:=omega)only[go_sem,zO,h1,h2,h3,h4,hN,hI1,hE1,hgo,hlt,hn,hI2,List.map_nil];refine qG 1 ?_;simp(disch:=omega)only[go_sem,qD,h7,hend,hz2,List.map_nil]
  ·have q0:List.length c0≤16:=by rcases g0 with h | h<;>omega
   have q1:List.length c1≤16:=by rcases g1 with h | h<;>omega
   obtain⟨⟨B0,S1⟩,hS1⟩ : ∃ x,jG (b2,a2,e2) 20 (List.length c0)=x:=⟨_,rfl⟩;have okS1:qEg S1:=by have:=qDw (z:=20) ok2 (List.length c0);rw[hS1] at this;exact this
   have lB0:List.length B0=List.length c0:=by have:=yD (s:=(b2,a2,e2)) (z:=20) (List.length c0);rw[hS1] at this;exact this
   obtain⟨⟨B1,S2⟩,hS2⟩ : ∃ x,jG S1 32 (List.length c1)=x:=⟨_,rfl⟩;have okS2:qEg S2:=by have:=qDw (z:=32) okS1 (List.length c1);rw[hS2] at this;exact this
   have lB1:List.length B1=List.length c1:=by have:=yD (s:=S1) (z:=32) (List.length c1);rw[hS2] at this;exact this
   have hB:dcB (b,0,0)=([B0,B1],S2):=by
    unfold dcB qO9;simp only[hU1,hU2,en,zGs,hS1,hS2]
   have hU:dcU (b,0,0)=u:=by unfold dcU;simp only[hU1,hU2]
   have hr:=zGr (b:=b) hbad' hB hU;have hend:=qTz okS2;rw[hr];rcases hgo with hgo | ⟨hgo,hlt⟩;all_goals first | simp(disch:=omega)only[go_sem,zO,h1,h2,h3,h4,hN,hI1,hE1,hgo,hlt,hn,hI2,List.map_nil] | simp(disch:=omega)only[go_sem,zO,h1,h2,h3,h4,hN,hI1,hE1,hgo,hn,hI2,List.map_nil]
   all_goals refine qB 2 (fun k=>match k with | 0=>[(2,.ref 4096 0 0),(4,.ref 8208 0 0),(6,.ref 24608 0 0),(29,.t (.int .i64 2)),(30,.t (.int .i64 0))] | 1=>[(2,.ref 4096 0 0),(4,.ref 8208 0 0),(6,.ref 24608 0 0),(29,.t (.int .i64 2)),(30,.t (.int .i64 1))] | _=>[(2,.ref 4096 0 0),(4,.ref 8208 0 0),(6,.ref 24608 0 0),(29,.t (.int .i64 2)),(30,.t (.int .i64 2))]) (fun k=>match k with | 0=>[(24608,.live 2 [.agg [.sl 24592 0 2,.t (.int .i64 u)]] true true),(24592,.live 1 [.sl 24593 0 (List.length c0),.sl 24594 0 (List.length c1)] true false),(24593,.live 1 ((c0.map bsT).map V.t) true false),(24594,.live 1 ((c1.map bsT).map V.t) true false),(8208,rdO (b2,a2,e2)),(4096,.live 2 [.agg [.nil,.t (.int .i64 0)]] true true)] | 1=>[(24608,.live 2 [.agg [.sl 24592 0 2,.t (.int .i64 u)]] true true),(24592,.live 1 [.sl 24593 0 (List.length c0),.sl 24594 0 (List.length c1)] true false),(24593,.live 1 ((B0.map bsT).map V.t) true false),(24594,.live 1 ((c1.map bsT).map V.t) true false),(8208,rdO S1),(4096,.live 2 [.agg [.nil,.t (.int .i64 0)]] true true)] | _=>[(24608,.live 2 [.agg [.sl 24592 0 2,.t (.int .i64 u)]] true true),(24592,.live 1 [.sl 24593 0 (List.length c0),.sl 24594 0 (List.length c1)] true false),(24593,.live 1 ((B0.map bsT).map V.t) true false),(24594,.live 1 ((B1.map bsT).map V.t) true false),(8208,rdO S2),(4096,.live 2 [.agg [.nil,.t (.int .i64 0)]] true true)]) ?_ (fun k hk=>?_)
   all_goals first
    | (refine qJ.rd id ?_ ?_ rfl;all_goals simp(disch:=omega)only[go_sem,id,rdO])
    | skip
   all_goals rcases (show k=0∨k=1∨k=2 by omega) with rfl | rfl | rfl
   ·simp(disch:=omega)only[go_sem,List.map_nil,lB0];refine qB (List.length c0) (fun i=>[(2,.ref 4096 0 0),(4,.ref 8208 0 0),(6,.ref 24608 0 0),(7,.t (.int .i64 0)),(29,.t (.int .i64 2)),(30,.t (.int .i64 0)),(38,.t (.int .i64 (List.length c0))),(39,.t (.int .i64 (i:Nat)))]) (fun i=>[(24608,.live 2 [.agg [.sl 24592 0 2,.t (.int .i64 u)]] true true),(24592,.live 1 [.sl 24593 0 (List.length c0),.sl 24594 0 (List.length c1)] true false),(24593,.live 1 ((((jG (b2,a2,e2) 20 i).1++List.drop i c0).map bsT).map V.t) true false),(24594,.live 1 ((c1.map bsT).map V.t) true false),(8208,rdO (jG (b2,a2,e2) 20 i).2),(4096,.live 2 [.agg [.nil,.t (.int .i64 0)]] true true)]) ?_ (fun i hi=>?_)
    ·refine qJ.rd id ?_ ?_ rfl;all_goals simp(disch:=omega)only[go_sem,id,rdO,jG,List.drop_zero,List.nil_append]
    ·have oki:=qDw (z:=20) ok2 i;have hln:=yD (s:=(b2,a2,e2)) (z:=20) i;by_cases hlt2:i<List.length c0
     ·have hraw:=qJi (k:=20) ⟨oki,oM⟩;have hset:=qR3 (s:=(b2,a2,e2)) (z:=20) hlt2;have hstep:(jG (b2,a2,e2) 20 (i+1)).2=(qB2 (jG (b2,a2,e2) 20 i).2 20).2:=rfl;have kz:((20:Nat):Int)=20:=rfl;have hl1:=yD (s:=(b2,a2,e2)) (z:=20) (i+1);simp only[rdO,kz] at hraw;simp(maxSteps:=9^9)(disch:=try exact dS)only[go_sem,rdO,h5,qK,h6,hraw,hset,hln,hl1,lB0];refine⟨rfl,hlt2,qJ.rd id ?_ ?_ rfl⟩;all_goals simp(disch:=omega)only[go_sem,id,rdO,hstep]
     ·have e:i=List.length c0:=oM;subst e;simp(disch:=omega)only[go_sem,rdO,hS1,List.drop_length,List.append_nil];refine qJ.rd id ?_ ?_ rfl;all_goals simp(disch:=omega)only[go_sem,id,rdO,hS1,List.drop_length,List.append_nil,lB0]
   ·simp(disch:=omega)only[go_sem,List.map_nil,lB0];refine qB (List.length c1) (fun i=>[(2,.ref 4096 0 0),(4,.ref 8208 0 0),(6,.ref 24608 0 0),(7,.t (.int .i64 1)),(29,.t (.int .i64 2)),(30,.t (.int .i64 1)),(38,.t (.int .i64 (List.length c1))),(39,.t (.int .i64 (i:Nat)))]) (fun i=>[(24608,.live 2 [.agg [.sl 24592 0 2,.t (.int .i64 u)]] true true),(24592,.live 1 [.sl 24593 0 (List.length c0),.sl 24594 0 (List.length c1)] true false),(24593,.live 1 ((B0.map bsT).map V.t) true false),(24594,.live 1 ((((jG S1 32 i).1++List.drop i c1).map bsT).map V.t) true false),(8208,rdO (jG S1 32 i).2),(4096,.live 2 [.agg [.nil,.t (.int .i64 0)]] true true)]) ?_ (fun i hi=>?_)
    ·refine qJ.rd id ?_ ?_ rfl;all_goals simp(disch:=omega)only[go_sem,id,rdO,jG,List.drop_zero,List.nil_append]
    ·have oki:=qDw (z:=32) okS1 i;have hln:=yD (s:=S1) (z:=32) i;by_cases hlt2:i<List.length c1
     ·have hraw:=qJi (k:=32) ⟨oki,oM⟩;have hset:=qR3 (s:=S1) (z:=32) hlt2;have hstep:(jG S1 32 (i+1)).2=(qB2 (jG S1 32 i).2 32).2:=rfl;have kz:((32:Nat):Int)=32:=rfl;have hl1:=yD (s:=S1) (z:=32) (i+1);simp only[rdO,kz] at hraw;simp(maxSteps:=9^9)(disch:=try exact dS)only[go_sem,rdO,h5,qL,h6,hraw,hset,hln,hl1,lB0];refine⟨rfl,hlt2,qJ.rd id ?_ ?_ rfl⟩;all_goals simp(disch:=omega)only[go_sem,id,rdO,hstep]
     ·have e:i=List.length c1:=oM;subst e;simp(disch:=omega)only[go_sem,rdO,hS2,List.drop_length,List.append_nil];refine qJ.rd id ?_ ?_ rfl;all_goals simp(disch:=omega)only[go_sem,id,rdO,hS2,List.drop_length,List.append_nil,lB0,lB1]
   ·simp only[rdO] at hend;have tB0:List.take (List.length c0) B0=B0:=List.take_of_length_le oM;have tB1:List.take (List.length c1) B1=B1:=List.take_of_length_le oM;by_cases hz:qA2 S2=0
    ·rw[if_neg (by simp[hz])];rw[hz] at hend;simp(disch:=omega)only[go_sem,rdO,h7,hend,mcn,lB0,lB1,tB0,tB1]
    ·rw[if_pos hz];have hz2:(qA2 S2==0)=false:=by simpa using hz
     simp(disch:=omega)only[go_sem,rdO,h7,hend,hz2,List.map_nil,lB0,lB1,tB0,tB1]
   ·simp(disch:=omega)only[go_sem,List.map_nil,lB0];refine qB (List.length c0) (fun i=>[(2,.ref 4096 0 0),(4,.ref 8208 0 0),(6,.ref 24608 0 0),(7,.t (.int .i64 0)),(29,.t (.int .i64 2)),(30,.t (.int .i64 0)),(38,.t (.int .i64 (List.length c0))),(39,.t (.int .i64 (i:Nat)))]) (fun i=>[(24608,.live 2 [.agg [.sl 24592 0 2,.t (.int .i64 u)]] true true),(24592,.live 1 [.sl 24593 0 (List.length c0),.sl 24594 0 (List.length c1)] true false),(24593,.live 1 ((((jG (b2,a2,e2) 20 i).1++List.drop i c0).map bsT).map V.t) true false),(24594,.live 1 ((c1.map bsT).map V.t) true false),(8208,rdO (jG (b2,a2,e2) 20 i).2),(4096,.live 2 [.agg [.nil,.t (.int .i64 0)]] true true)]) ?_ (fun i hi=>?_)
    ·refine qJ.rd id ?_ ?_ rfl;all_goals simp(disch:=omega)only[go_sem,id,rdO,jG,List.drop_zero,List.nil_append]
    ·have oki:=qDw (z:=20) ok2 i;have hln:=yD (s:=(b2,a2,e2)) (z:=20) i;by_cases hlt2:i<List.length c0
     ·have hraw:=qJi (k:=20) ⟨oki,oM⟩;have hset:=qR3 (s:=(b2,a2,e2)) (z:=20) hlt2;have hstep:(jG (b2,a2,e2) 20 (i+1)).2=(qB2 (jG (b2,a2,e2) 20 i).2 20).2:=rfl;have kz:((20:Nat):Int)=20:=rfl;have hl1:=yD (s:=(b2,a2,e2)) (z:=20) (i+1);simp only[rdO,kz] at hraw;simp(maxSteps:=9^9)(disch:=try exact dS)only[go_sem,rdO,h5,qK,h6,hraw,hset,hln,hl1,lB0];refine⟨rfl,hlt2,qJ.rd id ?_ ?_ rfl⟩;all_goals simp(disch:=omega)only[go_sem,id,rdO,hstep]
     ·have e:i=List.length c0:=oM;subst e;simp(disch:=omega)only[go_sem,rdO,hS1,List.drop_length,List.append_nil];refine qJ.rd id ?_ ?_ rfl;all_goals simp(disch:=omega)only[go_sem,id,rdO,hS1,List.drop_length,List.append_nil,lB0]
   ·simp(disch:=omega)only[go_sem,List.map_nil,lB0];refine qB (List.length c1) (fun i=>[(2,.ref 4096 0 0),(4,.ref 8208 0 0),(6,.ref 24608 0 0),(7,.t (.int .i64 1)),(29,.t (.int .i64 2)),(30,.t (.int .i64 1)),(38,.t (.int .i64 (List.length c1))),(39,.t (.int .i64 (i:Nat)))]) (fun i=>[(24608,.live 2 [.agg [.sl 24592 0 2,.t (.int .i64 u)]] true true),(24592,.live 1 [.sl 24593 0 (List.length c0),.sl 24594 0 (List.length c1)] true false),(24593,.live 1 ((B0.map bsT).map V.t) true false),(24594,.live 1 ((((jG S1 32 i).1++List.drop i c1).map bsT).map V.t) true false),(8208,rdO (jG S1 32 i).2),(4096,.live 2 [.agg [.nil,.t (.int .i64 0)]] true true)]) ?_ (fun i hi=>?_)
    ·refine qJ.rd id ?_ ?_ rfl;all_goals simp(disch:=omega)only[go_sem,id,rdO,jG,List.drop_zero,List.nil_append]
    ·have oki:=qDw (z:=32) okS1 i;have hln:=yD (s:=S1) (z:=32) i;by_cases hlt2:i<List.length c1
     ·have hraw:=qJi (k:=32) ⟨oki,oM⟩;have hset:=qR3 (s:=S1) (z:=32) hlt2;have hstep:(jG S1 32 (i+1)).2=(qB2 (jG S1 32 i).2 32).2:=rfl;have kz:((32:Nat):Int)=32:=rfl;have hl1:=yD (s:=S1) (z:=32) (i+1);simp only[rdO,kz] at hraw;simp(maxSteps:=9^9)(disch:=try exact dS)only[go_sem,rdO,h5,qL,h6,hraw,hset,hln,hl1,lB0];refine⟨rfl,hlt2,qJ.rd id ?_ ?_ rfl⟩;all_goals simp(disch:=omega)only[go_sem,id,rdO,hstep]
     ·have e:i=List.length c1:=oM;subst e;simp(disch:=omega)only[go_sem,rdO,hS2,List.drop_length,List.append_nil];refine qJ.rd id ?_ ?_ rfl;all_goals simp(disch:=omega)only[go_sem,id,rdO,hS2,List.drop_length,List.append_nil,lB0,lB1]
   ·simp only[rdO] at hend;have tB0:List.take (List.length c0) B0=B0:=List.take_of_length_le oM;have tB1:List.take (List.length c1) B1=B1:=List.take_of_length_le oM;by_cases hz:qA2 S2=0
    ·rw[if_neg (by simp[hz])];rw[hz] at hend;simp(disch:=omega)only[go_sem,rdO,h7,hend,mcn,lB0,lB1,tB0,tB1]
    ·rw[if_pos hz];have hz2:(qA2 S2==0)=false:=by simpa using hz
     simp(disch:=omega)only[go_sem,rdO,h7,hend,hz2,List.map_nil,lB0,lB1,tB0,tB1]
def jKt (s:Rd):Prop:=(qU s 1).2.2.2=0∧4≤qO9 s
instance {s:Rd}:Decidable (jKt s):=inferInstanceAs (Decidable (_∧_))
theorem zNt {b0 b1:qY}{i:Nat}:zIy [b0,b1] i=[qVi 0 b0 i,qVi 1 b1 i]:=rfl
def zU3 (bk:List qY)(a:Nat):Nat:=(bk.getD a []).length
def RZ (bk:List qY):Prop := ∀ a,a<2 → ∀ x∈bk.getD a [],x.length=szA a
theorem zEz {b:qY}{i z:Nat}{y:List UInt8}(h : ∀ x∈b,x.length=z)(hy:y.length=z) : ∀ x∈b.set i y,x.length=z:=by
 intro x hx;rcases List.mem_or_eq_of_mem_set hx with h1 | rfl
 ·exact h x h1
 ·exact hy
theorem jAu {y:List UInt8}{b:qY}{z:Nat}(hy:y.length=z)(h : ∀ x∈b,x.length=z) : ∀ k,∀ x∈stN y b k,x.length=z
 | 0=>h
 | k+1=>zEz (jAu hy h k) hy
theorem RZ.two {b0 b1:qY}(h0 : ∀ x∈b0,x.length=20)(h1 : ∀ x∈b1,x.length=32):RZ [b0,b1]:=by
 intro a ha
 match a,ha with
 | 0,_=>exact h0
 | 1,_=>exact h1
theorem RZ.nil:RZ []:=by
 intro a ha x hx;simp at hx
theorem RZ.ext {bk:List qY}{i:Nat}{ds:List (List UInt8)}(hv:RV bk)(h:RZ bk):RZ (qI9 bk i ds):=by
 rcases hv.1.cases with rfl | ⟨b0,b1,rfl,g0,g1⟩
 ·exact RZ.nil
 ·rw[zA0];refine RZ.two ?_ ?_
  ·unfold vH;split
   ·exact zEz (h 0 oM) (qG4 (a:=0))
   ·exact h 0 oM
  ·unfold vH;split
   ·exact zEz (h 1 oM) (qG4 (a:=1))
   ·exact h 1 oM
theorem RZ.rst {bk:List qY}{i:Nat}(hv:RV bk)(h:RZ bk):RZ (zIy bk i):=by
 rcases hv.1.cases with rfl | ⟨b0,b1,rfl,g0,g1⟩
 ·exact RZ.nil
 ·rw[zNt];refine RZ.two ?_ ?_
  ·unfold qVi;split
   ·exact zEz (h 0 oM) List.length_replicate
   ·exact h 0 oM
  ·unfold qVi;split
   ·exact zEz (h 1 oM) List.length_replicate
   ·exact h 1 oM
theorem RZ.res {bk:List qY}(hv:RV bk)(h:RZ bk):RZ (zEp bk):=by
 rcases hv.1.cases with rfl | ⟨b0,b1,rfl,g0,g1⟩
 ·exact RZ.nil
 ·exact RZ.two (jAu List.length_replicate (h 0 oM) 4) (jAu List.length_replicate (h 1 oM) 4)
theorem zG7 {a:Nat} : ∀ x∈qA7 a,x.length=szA a:=by
 intro x hx;unfold qA7 at hx;obtain⟨i,_,rfl⟩:=List.mem_map.1 hx;exact List.length_replicate
theorem RZ.new {s:Int}:RZ (yJ s):=by
 unfold yJ;split
 ·exact RZ.nil
 ·refine RZ.two ?_ ?_
  ·split
   ·exact zG7 (a:=0)
   ·intro x hx;simp at hx
  ·split
   ·exact zG7 (a:=1)
   ·intro x hx;simp at hx
def Shp (s:Int)(bk:List qY):Prop:=bk.length=(yJ s).length∧zU3 bk=zU3 (yJ s)∧RZ bk
theorem zOg {s:Int}{bk:List qY}(hv:RV bk)(h:Shp s bk):(bk=[]∧yJ (qWi bk)=[]) ∨ ∃ b0 b1 c0 c1:qY,bk=[b0,b1]∧yJ (qWi bk)=[c0,c1]∧List.length c0=List.length b0∧List.length c1=List.length b1:=by
 obtain⟨hl,hb,_⟩:=h;rcases hv.1.cases with rfl | ⟨b0,b1,rfl,g0,g1⟩
 ·exact .inl ⟨rfl,rfl⟩
 ·refine .inr ?_;have hs : ¬ s%4=0:=by
   intro e;unfold yJ at hl;rw[if_pos e] at hl;simp at hl
  rw[qCx hs] at hb;have e0:List.length b0=List.length (if s%2=1 then qA7 0 else []):=congrFun hb 0;have e1:List.length b1=List.length (if s/2%2=1 then qA7 1 else []):=congrFun hb 1;have n0:=qM (a:=0);have n1:=qM (a:=1);by_cases q0:s%2=1<;>by_cases q1:s/2%2=1
  ·rw[if_pos q0,n0] at e0;rw[if_pos q1,n1] at e1;have ea:qWi [b0,b1]=3:=by show zAb b0 b1=3;unfold zAb;rw[if_pos e0,if_pos e1];rfl
   exact⟨b0,b1,qA7 0,qA7 1,rfl,by rw[ea];rfl,by rw[n0,e0],by rw[n1,e1]⟩
  ·rw[if_pos q0,n0] at e0;rw[if_neg q1] at e1;have ea:qWi [b0,b1]=1:=by show zAb b0 b1=1;unfold zAb;rw[if_pos e0,if_neg (by rw[e1];decide)];rfl
   exact⟨b0,b1,qA7 0,[],rfl,by rw[ea];rfl,by rw[n0,e0],by rw[e1]⟩
  ·rw[if_neg q0] at e0;rw[if_pos q1,n1] at e1;have ea:qWi [b0,b1]=2:=by show zAb b0 b1=2;unfold zAb;rw[if_neg (by rw[e0];decide),if_pos e1];rfl
   exact⟨b0,b1,[],qA7 1,rfl,by rw[ea];rfl,by rw[e0],by rw[n1,e1]⟩
  ·exfalso;omega
theorem qSc {α:Type}{b p q t:List α}{k:Nat}(hb:b=p++q++t)(hq:q.length=k):List.take k (List.drop p.length b)=q:=by
 subst hb;subst hq;rw[List.append_assoc,List.drop_left,List.take_left]
theorem qNr {b p q t:List UInt8}{k:Nat}(hb:b=p++q++t)(hq:q.length=k)(hv:beV q<9223372036854775808):qU (b,p.length,0) k=(((beV q:Nat):Int),(b,p.length+k,0)):=by
 have h1:=qSc hb hq;have h2:b.length=p.length+k+t.length:=by rw[hb];simp only[List.length_append,hq]
 unfold qU;simp only[h1];rw[if_neg sM,if_neg oM,if_neg oM]
theorem qYr {b p q t:List UInt8}{k:Nat}(hb:b=p++q++t)(hq:q.length=k):qB2 (b,p.length,0) k=(q,(b,p.length+k,0)):=by
 have h1:=qSc hb hq;have h2:b.length=p.length+k+t.length:=by rw[hb];simp only[List.length_append,hq]
 unfold qB2;simp only[h1];rw[if_neg sM,if_neg oM]
theorem zIf {b:List (List UInt8)}{i:Nat}(h:i<b.length):b.flatten=(b.take i).flatten++b.getD i []++(b.drop (i+1)).flatten:=by
 conv=>lhs;rw[←List.take_append_drop (i+1) b,qDz (d:=[]) h]
 simp
theorem qTy {b p t:List UInt8}{rows:List (List UInt8)}{z:Nat}(hb:b=p++rows.flatten++t)(hz : ∀ x∈rows,x.length=z) : ∀ i,i≤rows.length→jG (b,p.length,0) z i=(rows.take i,(b,(p++(rows.take i).flatten).length,0))
 | 0,_=>by simp[jG]
 | i+1,h=>by
  have ih:=qTy hb hz i oM;have hg:(rows.getD i []).length=z:=by
   have e:rows.getD i []=rows[i]:=by simp[List.getD,show i<rows.length by omega]
   rw[e];exact hz _ (List.getElem_mem _)
  have hb2:b=(p++(rows.take i).flatten)++rows.getD i []++((rows.drop (i+1)).flatten++t):=by
   rw[hb,zIf (i:=i) oM];simp only[List.append_assoc]
  have hr:=qYr hb2 hg;simp only[jG,ih,hr];rw[qDz (d:=[]) oM];simp only[List.flatten_append,List.flatten_cons,List.flatten_nil,List.append_nil,List.length_append,hg,Nat.add_assoc]
theorem zW7 {l:List UInt8}{x:UInt8}:beV (l++[x])=256*beV l+x.toNat:=by simp[beV]
theorem zKn {size:Nat}{n:Int} : ∀ k,k≤size→beV (beI size n k)=m64 n/2^(8*(size-k))%256^k
 | 0,_=>by simp[beI,beV,Nat.mod_one]
 | k+1,h=>by
  have ih:=zKn (size:=size) (n:=n) k oM;rw[qXm,zW7,ih];have e1:8*(size-k)=8*(size-1-k)+8:=oM;have e2:size-(k+1)=size-1-k:=oM;rw[e1,e2,Nat.pow_add,←Nat.div_div_eq_div_mul];generalize m64 n/2^(8*(size-1-k))=q;have e3:(UInt8.ofNat q).toNat=q%256:=by rw[UInt8.toNat_ofNat']
  have e4:q/2^8=q/256:=rfl;have e5:256^(k+1)=256*256^k:=by rw[Nat.pow_succ,Nat.mul_comm]
  rw[e3,e4,e5,Nat.mod_mul,Nat.add_comm]
theorem qKx {size:Nat}{n:Int}:beV (beI size n size)=m64 n%256^size:=by
 rw[zKn size (Nat.le_refl _)];simp
theorem qNl {n:Int}(h:0≤n∧n<18446744073709551616):((m64 n:Nat):Int)=n:=by unfold m64;omega
theorem zXl {s u:Int}{bk:List qY}(hv:RV bk)(hs:Shp s bk)(hu:0≤u∧u<9223372036854775808):dcR (qEc bk u) = .tup [.t (zT bk u),.t (.int .i64 0)]:=by
 have hact:=zKh hv.1;obtain⟨m,hm⟩:=Int.eq_ofNat_of_zero_le hact.1;have hm4:m<4:=oM;have hE:qEc bk u=[UInt8.ofNat m]++beI 8 u 8++bk.flatten.flatten:=by unfold qEc zKc;rw[hm];rfl
 have v1:beV [UInt8.ofNat m]=m:=by
  rcases (show m=0∨m=1∨m=2∨m=3 by omega) with rfl | rfl | rfl | rfl<;>rfl
 have v8:((beV (beI 8 u 8):Nat):Int)=u:=by
  rw[qKx];have:=qNl (n:=u) oM;have e:(256:Nat)^8=18446744073709551616:=by decide
  rw[e];omega
 have h1:qU (qEc bk u,0,0) 1=(((m:Nat):Int),(qEc bk u,1,0)):=by
  have:=qNr (b:=qEc bk u) (p:=[]) (q:=[UInt8.ofNat m]) (t:=beI 8 u 8++bk.flatten.flatten) (k:=1) (by rw[hE];simp) rfl (by rw[v1];omega);rw[v1] at this;exact this
 have h2:qU (qEc bk u,1,0) 8=(u,(qEc bk u,9,0)):=by
  have:=qNr (b:=qEc bk u) (p:=[UInt8.ofNat m]) (q:=beI 8 u 8) (t:=bk.flatten.flatten) (k:=8) hE qO3 oM;rw[v8] at this;exact this
 have hset:qO9 (qEc bk u,0,0)=qWi bk:=by unfold qO9;rw[h1,hm]
 have hU:dcU (qEc bk u,0,0)=u:=by unfold dcU;rw[h1];simp only;rw[h2]
 have hbad : ¬ ((qU (qEc bk u,0,0) 1).2.2.2=0∧4≤qO9 (qEc bk u,0,0)):=by rw[hset];omega
 have hend : ∀ b:List UInt8,qA2 (b,b.length,0)=0:=fun b=>by unfold qA2;rw[if_neg sM]
 rcases zOg hv hs with⟨rfl,hn⟩ | ⟨b0,b1,c0,c1,rfl,hn,l0,l1⟩
 ·have hB:dcB (qEc [] u,0,0)=([],(qEc [] u,(qEc [] u).length,0)):=by
   unfold dcB;rw[hset,hn,h1];simp only;rw[h2];have e:(qEc [] u).length=9:=by unfold qEc;simp[qNb]
   rw[e];rfl
  rw[zGr hbad hB hU,hend,if_neg sM]
 ·have hz:=hs.2.2;have z0 : ∀ x∈b0,x.length=20:=hz 0 oM;have z1 : ∀ x∈b1,x.length=32:=hz 1 oM;have hE2:qEc [b0,b1] u=zKc [b0,b1] u++b0.flatten++b1.flatten:=by unfold qEc;simp
  have r0:=qTy (b:=qEc [b0,b1] u) (p:=zKc [b0,b1] u) (t:=b1.flatten) hE2 z0 (List.length b0) (Nat.le_refl _);rw[List.take_length,qNb] at r0;have r1:=qTy (b:=qEc [b0,b1] u) (p:=zKc [b0,b1] u++b0.flatten) (t:=[]) (by rw[hE2];simp) z1 (List.length b1) (Nat.le_refl _);rw[List.take_length] at r1;have hB:dcB (qEc [b0,b1] u,0,0)=([b0,b1],(qEc [b0,b1] u,(qEc [b0,b1] u).length,0)):=by
   unfold dcB;rw[hset,hn,h1];simp only;rw[h2];have hLen:(qEc [b0,b1] u).length=(zKc [b0,b1] u++List.flatten b0++List.flatten b1).length:=by rw[←hE2]
   simp only[zGs,l0,l1,r0,r1,hLen]
  rw[zGr hbad hB hU,hend,if_neg sM]
def zXk:Ct where
 α:=List qY×Int
 aS x:=[.t (zT x.1 x.2)]
 ins _:=[]
 pre x:=RV x.1
 r x:= .sl 0 0 (qEc x.1 x.2).length
 outs x:=[.live 1 (((qEc x.1 x.2).map qA).map V.t) true false]
 inj:=by
  rintro⟨a,u⟩ ⟨b,v⟩ h _;simp only[List.cons.injEq,V.t.injEq,and_true] at h;obtain⟨rfl,rfl⟩:=xN h;exact⟨rfl,rfl⟩
theorem jTy {bk:List qY}{u:Int}(h:RV bk):zXk.fs [.t (.agg [.sl (bk.map wQ),.int .i64 u])] []=some (.sl 0 0 (qEc bk u).length,[.live 1 (((qEc bk u).map qA).map V.t) true false]):=zXk.eq (bk,u) h
def zXj:Ct where
 α:=List UInt8
 aS x:=[.t (.sl (x.map qA))]
 ins _:=[]
 pre x:=x.length<1000000000
 r x:=dcR x
 outs _:=[]
 inj:=by
  intro a b h _;simp only[List.cons.injEq,V.t.injEq,T.sl.injEq,and_true,jB] at h;subst h;exact⟨rfl,rfl⟩
theorem qTx {s:Rd}{z:Nat} : ∀ n,∀ x∈(jG s z n).1,x.length≤z
 | 0=>by intro x hx;simp[jG] at hx
 | n+1=>by
  intro x hx;simp only[jG,List.mem_append,List.mem_singleton] at hx;rcases hx with hx | rfl
  ·exact qTx n x hx
  ·exact zSp
theorem qM8 {b:List UInt8} : ∃ bk u e,dcR b = .tup [.t (.agg [.sl (bk.map wQ),.int .i64 u]),.t (.int .i64 e)]∧RV bk:=by
 have hnil:RV []:=⟨.nil,sM⟩;unfold dcR;simp only;split
 ·exact⟨[],0,1,rfl,hnil⟩
 ·split
  ·exact⟨[],0,_,rfl,hnil⟩
  ·refine⟨_,_,0,rfl,?_⟩;unfold dcB zGs;split
   ·rename_i b0 b1 h;have hn:=zG8 (s:=qO9 (b,0,0));rw[h] at hn;rcases hn.cases with h | ⟨c0,c1,h,g0,g1,_,_⟩
    ·simp at h
    ·obtain⟨rfl,rfl⟩:b0=c0∧b1=c1:=by simpa using h
     refine RV.of2 (qD9 g0 (yD _)) (qD9 g1 (yD _)) ?_ ?_
     ·intro x hx;have:=qTx _ x hx;omega
     ·intro x hx;have:=qTx _ x hx;omega
   ·exact hnil
theorem zC2 (x:wR.α)(hx:wR.pre x):yC.1.wp tab gl (qF 0 (wR.aS x)) (qF 0 (wR.ins x)) (zD [(6,none),(7,none)] (wR.ins x).length (fun r o=>r=wR.r x∧o=wR.outs x)):=by
 obtain⟨⟨b,a,e⟩,p,n⟩:=x;obtain⟨h1,h2,h3⟩:=hx;simp only[qEg] at h1 h2 h3;by_cases h:p+n≤b.length
 ·have hr:wR.r ((b,a,e),p,n) = .tup [.t (.sl (((b.drop p).take n).map qA)),.t (.int .i64 0)]:=if_pos h;rw[hr];exact zFy tab gl (b,a,e) h1 p n h
 ·have hr:wR.r ((b,a,e),p,n) = .tup [.t (.sl []),.t (.int .i64 2)]:=if_neg h;rw[hr];show yC.1.wp tab gl (qF 0 [.ref 0 0 0,.t (.int .i64 p),.t (.int .i64 n)]) (qF 0 [kP (b,a,e)]) (zD [(6,none),(7,none)] 1 (fun r o=>r = .tup [.t (.sl []),.t (.int .i64 2)]∧o=[kP (b,a,e)]));simp(disch:=omega)only[go_sem,yC,kP,rdT]
theorem zCz (x:kW.α)(hx:kW.pre x):jZ.1.wp tab gl (qF 0 (kW.aS x)) (qF 0 (kW.ins x)) (zD [(4,none)] (kW.ins x).length (fun r o=>r=kW.r x∧o=kW.outs x)):=
 qV7 tab gl x.1.1 x.1.2.1 x.1.2.2 x.2 hx.1 hx.2
abbrev Ev:=Int×Int×List (List UInt8)×List UInt8
def evM (e:Ev):Prop:=zPk e.2.2.1∧e.2.2.2.length<1000000000
def jP3 (r k act:Int):Prop:=act<1∨3<act∨r<0∨11<r∨k<1∨5<k
instance {r k act:Int}:Decidable (jP3 r k act):=by unfold jP3;infer_instance
def okC (c:UInt8):Bool := !decide (c.toNat<32) && !decide (c.toNat>126)
def blL (b x:List UInt8):List UInt8:=b++beI 2 (x.length:Int) 2++x
theorem vU {b x:List UInt8}:(blL b x).length=b.length+2+x.length:=by unfold blL;rw[List.length_append,List.length_append,qT]
def qE6:Ct where
 α:=List UInt8×List UInt8
 aS x:=[.t (.sl (x.1.map qA)),.t (.sl (x.2.map qA))]
 ins _:=[]
 pre x:=x.1.length<100000000∧x.2.length≤65535
 r x:= .sl 0 0 (x.1.length+2+x.2.length)
 outs x:=[.live 1 (((blL x.1 x.2).map qA).map V.t) true false]
 inj:=by
  rintro⟨a,b⟩ ⟨c,d⟩ h _;simp only[List.cons.injEq,V.t.injEq,T.sl.injEq,and_true,jB] at h;obtain⟨rfl,rfl⟩:=h;exact⟨rfl,rfl⟩
theorem qE5 {b x:List UInt8}(h:b.length<100000000∧x.length≤65535):qE6.fs [.t (.sl (b.map qA)),.t (.sl (x.map qA))] []=some (.sl 0 0 (b.length+2+x.length),[.live 1 (((blL b x).map qA).map V.t) true false]):=qE6.eq (b,x) h
theorem zFv (h1:LkC tab 74 yR)(b x:List UInt8)(hb:b.length<100000000)(hx:x.length≤65535) :
  qH6.1.wp tab gl (qF 0 [.t (.sl (b.map qA)),.t (.sl (x.map qA))]) (qF 0 []) (kU [] [(4,none)] 0 (fun r o=>r = .sl 0 0 (b.length+2+x.length)∧o=[.live 1 (((blL b x).map qA).map V.t) true false])):=by
 have hu:=qJ7 (b:=b) (n:=(x.length:Int)) oM;have hl:(b++beI 2 (x.length:Int) 2).length=b.length+2:=by rw[List.length_append,qT]
 have hbl:blL b x=b++beI 2 (x.length:Int) 2++x:=rfl;have hno : ¬ 65535<(x.length:Int):=oM;rw[hbl];generalize b++beI 2 (x.length:Int) 2=B at *;simp(disch:=omega)only[go_sem,qH6,h1,hu,hl,hno,List.take_length]
theorem zFq (h1:LkC tab 22 yR)(b x:List UInt8)(hb:b.length<100000000)(hx:x.length≤65535) :
  qHz.1.wp tab gl (qF 0 [.t (.sl (b.map qA)),.t (.sl (x.map qA))]) (qF 0 []) (kU [] [(4,none)] 0 (fun r o=>r = .sl 0 0 (b.length+2+x.length)∧o=[.live 1 (((blL b x).map qA).map V.t) true false])):=by
 have hu:=qJ7 (b:=b) (n:=(x.length:Int)) oM;have hl:(b++beI 2 (x.length:Int) 2).length=b.length+2:=by rw[List.length_append,qT]
 have hbl:blL b x=b++beI 2 (x.length:Int) 2++x:=rfl;have hno : ¬ 65535<(x.length:Int):=oM;rw[hbl];generalize b++beI 2 (x.length:Int) 2=B at *;simp(disch:=omega)only[go_sem,qHz,h1,hu,hl,hno,List.take_length]
def jH8 (r k:Int)(n m:Nat):Prop:=r<0∨11<r∨k<1∨5<k∨n≠2∨64<m
instance {r k:Int}{n m:Nat}:Decidable (jH8 r k n m):=by unfold jH8;infer_instance
end Go.Eng
end
