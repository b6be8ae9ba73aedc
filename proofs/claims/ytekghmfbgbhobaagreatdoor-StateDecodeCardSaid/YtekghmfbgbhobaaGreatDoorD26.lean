/- A part of an abstract machine, its walks, their tie. -/
import Derived.Test.YtekghmfbgbhobaaGreatDoorD24
import Derived.Test.YtekghmfbgbhobaaGreatDoorD25
import Derived.Test.YtekghmfbgbhobaaGreatDoorD16
import Derived.Test.YtekghmfbgbhobaaGreatDoorD21
set_option linter.all false
section
set_option maxHeartbeats 64000000
set_option maxRecDepth 20000
namespace Go.Eng
variable (tab:Tab) (gl:Gl)
theorem zC7 (h1:LkC tab 74 yE)(h2:LkC tab 42 yT)(h3:LkC tab 231 qA8)(bk:List zB)(u s0 s1:Int)(hv:RV bk) :
  qGu.1.wp tab gl (qE 0 [.t (jN bk u),.t (.agg [.int .i64 s0,.int .i64 s1])]) (qE 0 []) (xU [] [(4,none),(5,none)] 0 (fun r o=>r=zTz bk s0 s1∧o=zTy bk s0 s1)):=by
 have hm:=hv.rm;simp(disch:=omega)only[go_sem,qGu];by_cases b0:zUf s0
 ·have hE:zKq bk s0 s1=1:=by unfold zKq;rw[if_pos (.inl b0)]
  rw[zTz,zTy,hE];unfold zUf at b0;refine qM 1 ?_;by_cases c0:s0<0
  ·simp(disch:=omega)only[go_sem,qG,c0]
  ·simp(disch:=omega)only[go_sem,qG,c0]
 have hb0 : ¬ s0<0 ∧ ¬ 65535<s0:=by unfold zUf at b0;omega
 obtain⟨c0,d0⟩:=hb0;by_cases b1:zUf s1
 ·have hE:zKq bk s0 s1=1:=by unfold zKq;rw[if_pos (.inr b1)]
  rw[zTz,zTy,hE];unfold zUf at b1;refine qM 2 ?_;by_cases c1:s1<0
  ·simp(disch:=omega)only[go_sem,qG,c0,d0,c1]
  ·simp(disch:=omega)only[go_sem,qG,c0,d0,c1]
 have hb1 : ¬ s1<0 ∧ ¬ 65535<s1:=by unfold zUf at b1;omega
 obtain⟨c1,d1⟩:=hb1;refine qM 3 ?_;simp(disch:=omega)only[go_sem,qG,c0,d0,c1,d1];refine qSj 2 (PD (s0=0∨onB bk 0=true) (s1=0∨onB bk 1=true)) (fun k=>match k with | 0=>[(2,.ref 4096 0 0),(3,.ref 4112 0 0),(7,.sl 9100 0 (List.length ([]:List UInt8))),(8,.t (.int .i64 0))] | 1=>[(2,.ref 4096 0 0),(3,.ref 4112 0 0),(7,.sl 9100 0 (List.length (qMr bk 0 s0 16))),(8,.t (.int .i64 1))] | _=>[(2,.ref 4096 0 0),(3,.ref 4112 0 0),(7,.sl 9100 0 (List.length (qMr bk 0 s0 16++qMr bk 1 s1 16))),(8,.t (.int .i64 2))]) (fun k=>match k with | 0=>[(9100,.live 1 ((([]:List UInt8).map qA).map V.t) true false),(4112,.live 1 [.t (.int .i64 s0),.t (.int .i64 s1)] true true),(4096,.live 2 [.t (jN bk u)] true true)] | 1=>[(9100,.live 1 (((qMr bk 0 s0 16).map qA).map V.t) true false),(4112,.live 1 [.t (.int .i64 s0),.t (.int .i64 s1)] true true),(4096,.live 2 [.t (jN bk u)] true true)] | _=>[(9100,.live 1 (((qMr bk 0 s0 16++qMr bk 1 s1 16).map qA).map V.t) true false),(4112,.live 1 [.t (.int .i64 s0),.t (.int .i64 s1)] true true),(4096,.live 2 [.t (jN bk u)] true true)]) ⟨fun h=>absurd h oM,fun h=>absurd h oM⟩ ?_ (fun k hk hP=>?_)
 ·refine qI.cv0 (hv:=[(9100,.live 1 [] true false)]) (ho:=[(4112,.live 1 [.t (.int .i64 s0),.t (.int .i64 s1)] true true),(4096,.live 2 [.t (jN bk u)] true true)]) id ?_ ?_ rfl rfl;all_goals simp(disch:=omega)only[go_sem,id,mcn,List.length_nil]
 ·rcases (show k=0∨k=1∨k=2 by omega) with rfl | rfl | rfl
  ·by_cases z:s0=0
   ·have zz:(s0==0)=true:=by simpa using z
    simp(disch:=omega)only[go_sem,zz];refine qD 16 (fun i=>[(2,.ref 4096 0 0),(3,.ref 4112 0 0),(7,.sl 9100 0 (List.length (qMr bk 0 s0 i))),(8,.t (.int .i64 0)),(9,.t (.int .i64 (i:Nat)))]) (fun i=>[(9100,.live 1 (((qMr bk 0 s0 i).map qA).map V.t) true false),(4112,.live 1 [.t (.int .i64 s0),.t (.int .i64 s1)] true true),(4096,.live 2 [.t (jN bk u)] true true)]) ?_ (fun i hi=>?_)
    ·refine qI.rd id ?_ ?_ rfl;all_goals simp(disch:=omega)only[go_sem,id,zLn,List.append_nil]
    ·have l0:=qFt hv 0 s0 16;have l1:=qFt hv 0 s0 i;by_cases hlt:i<16
     ·have hsh:s0.fdiv (2^i)=s0/2^i:=Int.fdiv_eq_ediv_of_nonneg _ (Int.le_of_lt (Int.pow_pos (by decide)));have hb : ¬ s0/2^i%2=1:=by rw[z];simp
      simp(disch:=omega)only[go_sem,hsh,hb];refine⟨hlt,qI.rd id ?_ ?_ rfl⟩;all_goals simp(disch:=omega)only[go_sem,id,qU0 (bk:=bk) (a:=0) hb]
     ·have e:i=16:=oM;subst e;simp(disch:=omega)only[go_sem];refine⟨⟨fun _=> .inl z,fun h=>absurd h oM⟩,qI.rd id ?_ ?_ rfl⟩;all_goals simp(disch:=omega)only[go_sem,id]
   ·have zz:(s0==0)=false:=by simpa using z
    have c0:=qE1 (u:=u) (a:=0) hv.1 oM;rw[show ((0:Nat):Int)=0 from rfl] at c0;cases ho:onB bk 0
    ·rw[ho] at c0;have hE:zKq bk s0 s1=27:=by
      unfold zKq;rw[if_neg (by rintro (h | h);exact b0 h;exact b1 h),if_pos (.inl ⟨z,ho⟩)]
     rw[zTz,zTy,hE];simp(disch:=omega)only[go_sem,zz,h1,c0]
    ·rw[ho] at c0;have hbl:=hv.1.len ho;have hbn:List.length (bk.getD 0 [])=16:=by simpa [onB] using ho
     simp(disch:=omega)only[go_sem,zz,h1,c0];refine qD 16 (fun i=>[(2,.ref 4096 0 0),(3,.ref 4112 0 0),(7,.sl 9100 0 (List.length (qMr bk 0 s0 i))),(8,.t (.int .i64 0)),(9,.t (.int .i64 (i:Nat)))]) (fun i=>[(9100,.live 1 (((qMr bk 0 s0 i).map qA).map V.t) true false),(4112,.live 1 [.t (.int .i64 s0),.t (.int .i64 s1)] true true),(4096,.live 2 [.t (jN bk u)] true true)]) ?_ (fun i hi=>?_)
     ·refine qI.rd id ?_ ?_ rfl;all_goals simp(disch:=omega)only[go_sem,id,zLn,List.append_nil]
     ·have l0:=qFt hv 0 s0 16;have l1:=qFt hv 0 s0 i;by_cases hlt:i<16
      ·have hsh:s0.fdiv (2^i)=s0/2^i:=Int.fdiv_eq_ediv_of_nonneg _ (Int.le_of_lt (Int.pow_pos (by decide)));by_cases hb:s0/2^i%2=1
       ·have hvl:=hm.val 0 i;have hx:(bk.getD 0 []).getD i []=zNx bk 0 i:=rfl;simp(disch:=omega)only[go_sem,hsh,hb,hx];refine⟨hlt,qI.rd (fun j=>if j=9100 then 69776 else j) ?_ ?_ rfl⟩;all_goals simp(disch:=omega)only[go_sem,zLm (bk:=bk) (a:=0) hb,List.append_assoc]
        all_goals try omega
       ·simp(disch:=omega)only[go_sem,hsh,hb];refine⟨hlt,qI.rd id ?_ ?_ rfl⟩;all_goals simp(disch:=omega)only[go_sem,id,qU0 (bk:=bk) (a:=0) hb]
      ·have e:i=16:=oM;subst e;simp(disch:=omega)only[go_sem];refine⟨⟨fun _=>(by first | exact .inr ho | trivial),fun h=>absurd h oM⟩,qI.rd id ?_ ?_ rfl⟩;all_goals simp(disch:=omega)only[go_sem,id]
  ·by_cases z:s1=0
   ·have zz:(s1==0)=true:=by simpa using z
    simp(disch:=omega)only[go_sem,zz];refine qD 16 (fun i=>[(2,.ref 4096 0 0),(3,.ref 4112 0 0),(7,.sl 9100 0 (List.length (qMr bk 0 s0 16++qMr bk 1 s1 i))),(8,.t (.int .i64 1)),(9,.t (.int .i64 (i:Nat)))]) (fun i=>[(9100,.live 1 (((qMr bk 0 s0 16++qMr bk 1 s1 i).map qA).map V.t) true false),(4112,.live 1 [.t (.int .i64 s0),.t (.int .i64 s1)] true true),(4096,.live 2 [.t (jN bk u)] true true)]) ?_ (fun i hi=>?_)
    ·refine qI.rd id ?_ ?_ rfl;all_goals simp(disch:=omega)only[go_sem,id,zLn,List.append_nil]
    ·have l0:=qFt hv 0 s0 16;have l1:=qFt hv 1 s1 i;by_cases hlt:i<16
     ·have hsh:s1.fdiv (2^i)=s1/2^i:=Int.fdiv_eq_ediv_of_nonneg _ (Int.le_of_lt (Int.pow_pos (by decide)));have hb : ¬ s1/2^i%2=1:=by rw[z];simp
      simp(disch:=omega)only[go_sem,hsh,hb];refine⟨hlt,qI.rd id ?_ ?_ rfl⟩;all_goals simp(disch:=omega)only[go_sem,id,qU0 (bk:=bk) (a:=1) hb]
     ·have e:i=16:=oM;subst e;simp(disch:=omega)only[go_sem];refine⟨⟨fun _=>hP.1 oM,fun _=> .inl z⟩,qI.rd id ?_ ?_ rfl⟩;all_goals simp(disch:=omega)only[go_sem,id]
   ·have zz:(s1==0)=false:=by simpa using z
    have c1:=qE1 (u:=u) (a:=1) hv.1 oM;rw[show ((1:Nat):Int)=1 from rfl] at c1;cases ho:onB bk 1
    ·rw[ho] at c1;have hE:zKq bk s0 s1=27:=by
      unfold zKq;rw[if_neg (by rintro (h | h);exact b0 h;exact b1 h),if_pos (.inr ⟨z,ho⟩)]
     rw[zTz,zTy,hE];simp(disch:=omega)only[go_sem,zz,h1,c1]
    ·rw[ho] at c1;have hbl:=hv.1.len ho;have hbn:List.length (bk.getD 1 [])=16:=by simpa [onB] using ho
     simp(disch:=omega)only[go_sem,zz,h1,c1];refine qD 16 (fun i=>[(2,.ref 4096 0 0),(3,.ref 4112 0 0),(7,.sl 9100 0 (List.length (qMr bk 0 s0 16++qMr bk 1 s1 i))),(8,.t (.int .i64 1)),(9,.t (.int .i64 (i:Nat)))]) (fun i=>[(9100,.live 1 (((qMr bk 0 s0 16++qMr bk 1 s1 i).map qA).map V.t) true false),(4112,.live 1 [.t (.int .i64 s0),.t (.int .i64 s1)] true true),(4096,.live 2 [.t (jN bk u)] true true)]) ?_ (fun i hi=>?_)
     ·refine qI.rd id ?_ ?_ rfl;all_goals simp(disch:=omega)only[go_sem,id,zLn,List.append_nil]
     ·have l0:=qFt hv 0 s0 16;have l1:=qFt hv 1 s1 i;by_cases hlt:i<16
      ·have hsh:s1.fdiv (2^i)=s1/2^i:=Int.fdiv_eq_ediv_of_nonneg _ (Int.le_of_lt (Int.pow_pos (by decide)));by_cases hb:s1/2^i%2=1
       ·have hvl:=hm.val 1 i;have hx:(bk.getD 1 []).getD i []=zNx bk 1 i:=rfl;simp(disch:=omega)only[go_sem,hsh,hb,hx];refine⟨hlt,qI.rd (fun j=>if j=9100 then 69776 else j) ?_ ?_ rfl⟩;all_goals simp(disch:=omega)only[go_sem,zLm (bk:=bk) (a:=1) hb,List.append_assoc]
        all_goals try omega
       ·simp(disch:=omega)only[go_sem,hsh,hb];refine⟨hlt,qI.rd id ?_ ?_ rfl⟩;all_goals simp(disch:=omega)only[go_sem,id,qU0 (bk:=bk) (a:=1) hb]
      ·have e:i=16:=oM;subst e;simp(disch:=omega)only[go_sem];refine⟨⟨fun _=>hP.1 oM,fun _=>(by first | exact .inr ho | trivial)⟩,qI.rd id ?_ ?_ rfl⟩;all_goals simp(disch:=omega)only[go_sem,id]
  ·have l0:=qFt hv 0 s0 16;have l1:=qFt hv 1 s1 16;have p0:=hP.1 oM;have p1:=hP.2 oM;have hE:zKq bk s0 s1=0:=by
    unfold zKq;rw[if_neg (by rintro (h | h);exact b0 h;exact b1 h),if_neg];rintro (⟨h1,h2⟩ | ⟨h1,h2⟩)
    ·rcases p0 with h | h
     ·exact h1 h
     ·rw[h] at h2;cases h2
    ·rcases p1 with h | h
     ·exact h1 h
     ·rw[h] at h2;cases h2
   have hv2:(jA3 bk s0 s1).length≤2048:=by unfold jA3;rw[List.length_append];omega
   have hh2:(zHz s0 s1).length=4:=by unfold zHz;rw[List.length_append,qA5,qA5]
   have hvs:qMr bk 0 s0 16++qMr bk 1 s1 16=jA3 bk s0 s1:=rfl;rw[zTz,zTy,if_pos hE,if_pos hE];have hf:(yB 5 [zHz s0 s1,jA3 bk s0 s1]).length<1000000000:=by
    simp only[yB,List.flatMap_cons,List.flatMap_nil,List.length_cons,List.length_append,List.length_nil,zAm];omega
   have hq:=zVd hf;have hhs:beI 2 s0 2++beI 2 s1 2=zHz s0 s1:=rfl;have t2:List.take 2 (beI 2 s0 2)=beI 2 s0 2:=List.take_of_length_le (by rw[qA5];exact Nat.le_refl _);have t4:List.take 4 (zHz s0 s1)=zHz s0 s1:=List.take_of_length_le (by rw[hh2];exact Nat.le_refl _);have hu:=zNr (b:=[]) (n:=s0) (by decide);simp only[List.map_nil,List.length_nil,List.nil_append] at hu;have hu2:=zNr (b:=beI 2 s0 2) (n:=s1) (by rw[qA5];omega);rw[qA5,hhs] at hu2;have tv:List.take (jA3 bk s0 s1).length (jA3 bk s0 s1)=jA3 bk s0 s1:=List.take_of_length_le (Nat.le_refl _);simp(disch:=omega)only[go_sem,hvs,h2,h3,hu,hu2,hq,tv,t2,t4,hh2,qA5];all_goals try rfl
theorem zVz (n:Nat):n &&& 2=n/2%2*2:=by
 have h1:(n &&& 2)/2=n/2%2:=by
  rw[Nat.and_div_two];exact Nat.and_one_is_mod _
 have h2:(n &&& 2)%2=0:=by
  have:=Nat.and_mod_two_pow (a:=n) (b:=2) (n:=1);simpa using this
 omega
theorem jV0 {x:Int}:zAo .and .i64 x .i64 2=some (.int .i64 (x/2%2*2)):=by
 have h2:((BitVec.ofInt 64 x &&& BitVec.ofInt 64 2).toNat:Int)=x/2%2*2:=by
  rw[BitVec.toNat_and,BitVec.toNat_ofInt];have e2:(BitVec.ofInt 64 2).toNat=2:=by decide
  rw[e2,zVz];have e3:((2^64:Nat):Int)=18446744073709551616:=by decide
  rw[e3];omega
 change some (T.int IntKind.i64 (IntKind.i64.wrap ((BitVec.ofInt 64 x &&& BitVec.ofInt 64 2).toNat:Int)))=_;rw[h2,qBd oM]
attribute [go_sem ↓] jV0
def qM5:Ct where
 α:=List zB×Int×Int×Int
 aS x:=[.t (jN x.1 x.2.1),.t (.agg [.int .i64 x.2.2.1,.int .i64 x.2.2.2])]
 ins _:=[]
 pre x:=RV x.1
 r x:=zTz x.1 x.2.2.1 x.2.2.2
 outs x:=zTy x.1 x.2.2.1 x.2.2.2
 inj:=by
  rintro⟨a,u,l,i⟩ ⟨b,v,l',i'⟩ h _;simp only[List.cons.injEq,V.t.injEq,T.int.injEq,T.agg.injEq,true_and,and_true] at h;obtain⟨h1,rfl,rfl⟩:=h;obtain⟨rfl,rfl⟩:=qCb h1;exact⟨rfl,rfl⟩
theorem Ses.ok0:zSm.Ok:=by refine⟨?_,?_,?_,?_,?_⟩<;>simp[zSm]
theorem jXs {l:List Ses}:qRz 8 (l.map jL)=true:=by simp only[qRz,List.all_map,List.all_eq_true];intro x _;rfl
theorem zIx {l:List Ix}:qRz 8 (l.map ixA)=true:=by simp only[qRz,List.all_map,List.all_eq_true];intro x _;rfl
theorem jXr {l:List Obj}:qRz 9 (l.map wI)=true:=by simp only[qRz,List.all_map,List.all_eq_true];intro x _;rfl
theorem zLv {l:List Lv}:qRz 2 (l.map lvA)=true:=by simp only[qRz,List.all_map,List.all_eq_true];intro x _;rfl
theorem zPi {bk:List zB}{u s0 s1:Int}(h:RV bk):(∃ e:Int,e≠0∧qM5.fs [.t (.agg [.sl (bk.map yS),.int .i64 u]),.t (.agg [.int .i64 s0,.int .i64 s1])] []=some (.tup [.nil,.t (.int .i64 e)],[]))∨
  ∃ y:List UInt8,y.length=32∧qM5.fs [.t (.agg [.sl (bk.map yS),.int .i64 u]),.t (.agg [.int .i64 s0,.int .i64 s1])] []=some (.tup [.sl 0 0 32,.t (.int .i64 0)],[.live 1 ((y.map qA).map V.t) true false]):=by
 have he:qM5.fs [.t (.agg [.sl (bk.map yS),.int .i64 u]),.t (.agg [.int .i64 s0,.int .i64 s1])] []=some (zTz bk s0 s1,zTy bk s0 s1):=qM5.eq (bk,u,s0,s1) h;by_cases c:zKq bk s0 s1=0
 ·exact .inr ⟨_,qS,he.trans (by rw[zTz,if_pos c,zTy,if_pos c];rfl)⟩
 ·exact .inl ⟨_,c,he.trans (by rw[zTz,if_neg c,zTy,if_neg c])⟩
theorem zQh {t:Nat}{fs:List (List UInt8)}(ht:t<256)(h1:fs.length≤20)(h2 : ∀ x∈fs,x.length≤4000) : ∃ y:List UInt8,y.length≤200000∧qAw.fs [.t (.int .i64 t),.t (.sl (fs.map bsT))] []=some (.sl 0 0 y.length,[.live 1 ((y.map qA).map V.t) true false]):=by
 have hl:=qL8 (t:=t) h2;have:(4+4000)*fs.length≤(4+4000)*20:=Nat.mul_le_mul_left _ h1;exact⟨yB t fs,oM,qQk ⟨ht,oM⟩⟩
theorem qTp {s:St}(h:s.ses.length=3){k:Int}(h0:0≤k)(h2:k≤2) : ∃ x,s.ses[k.toNat]?=some x∧x∈s.ses:=by
 obtain⟨x,hg,hm,_⟩:=qN (l:=s.ses) (k:=k.toNat) oM;exact⟨x,hg,hm⟩
def St.sput (s:St)(k:Int)(x:Ses):St := { s with ses:=s.ses.set k.toNat x }
theorem St.sput_ok {s:St}(h:s.Ok){k:Int}{x:Ses}(hx:x.Ok):(s.sput k x).Ok:=by
 refine { h with ses:=⟨by simp[St.sput,h.ses.1],fun y hy=>?_⟩ };rcases List.mem_or_eq_of_mem_set hy with h1 | rfl
 ·exact h.ses.2 y h1
 ·exact hx
theorem St.sput_go {s:St}(h:s.Ok){k:Int}{x:Ses}(hx:x.Ok):s.Go 0 (s.sput k x):=⟨St.sput_ok h hx,fun m hm=>by rw[Int.add_zero];exact hm⟩
theorem zFr  (s:St)(h:Int)(hp:s.ses.length=3∧tmI h) :
  xY.1.wp tab gl (qE 0 [.t (stA s),.t (.int .i64 h)]) (qE 0 []) (qX [(4,none)] 0 (qI4.K (s,h))):=by
 obtain⟨hp,hh⟩:=hp;by_cases c1:h<768
 ·simp(disch:=omega)only[go_sem,xY,stA,c1];exact zX1 (-1) ⟨.inl rfl,by rw[zNb,if_pos (.inl c1)]⟩ rfl rfl
 by_cases c2:3≤h-768
 ·simp(disch:=omega)only[go_sem,xY,stA,c1,c2,hp];exact zX1 (-1) ⟨.inl rfl,by rw[zNb,if_pos (.inr c2)]⟩ rfl rfl
 obtain⟨x,hg,hm⟩:=qTp hp (k:=h-768) oM oM;have hd:s.ses.getD (h-768).toNat zSm=x:=by rw[List.getD_eq_getElem?_getD,hg];rfl
 have hn : ¬ (h<768∨3≤h-768):=oM;by_cases c3:x.kd=0
 ·simp(disch:=omega)only[go_sem,xY,stA,c1,c2,hp,hg,c3,oms,jL];exact zX1 (-1) ⟨.inl rfl,by rw[zNb,if_neg hn,hd,if_pos c3]⟩ rfl rfl
 ·simp(disch:=omega)only[go_sem,xY,stA,c1,c2,hp,hg,c3,oms,jL];exact zX1 (h-768) ⟨.inr oM,by rw[zNb,if_neg hn,hd,if_neg c3]⟩ rfl rfl
theorem zIz  (s:St)(k:Int)(x:Ses)(hp:s.ses.length=3∧0≤k∧k≤2) :
  qJ2.1.wp tab gl (qE 0 [.t (stA s),.t (.int .i64 k),.t (jL x)]) (qE 0 []) (qX [(6,(some (30,true)))] 0 (qB5.K (s,k,x))):=by
 obtain⟨q1,q2,q3⟩:=hp;obtain⟨y,hg,hm⟩:=qTp q1 q2 q3;simp(maxSteps:=9^9)(disch:=try exact dS)only[go_sem,qJ2,stA,jL,q1,q2,q3,jXs,hg,oms];exact jPf (by rw[List.take_of_length_le (by simp[q1])];simp only[stA,List.map_set,jL]) rfl
theorem zFp {g1}(h1:LkE tab 182 qI4 g1)(s:St)(h:Int)(hp:s.Ok∧tmI h) :
  qD0.1.wp tab gl (qE 0 [.t (stA s),.t (.int .i64 h)]) (qE 0 []) (qX [(4,(some (8,true))),(5,none)] 0 (qCr.K (s,h))):=by
 obtain⟨k,⟨hk,hq⟩,e⟩:=zS3 (g:=g1) (h:=h) ⟨hp.1.ses.1,hp.2⟩;simp only[stA] at e;rcases hk with rfl | ⟨k0,k1,k2⟩
 ·simp(disch:=omega)only[go_sem,qD0,stA,h1,e];exact jH0 zSm 8 ⟨Ses.ok0,oM⟩ rfl rfl
 ·obtain⟨x,hg,hm⟩:=qTp hp.1.ses.1 k0 k1;simp(disch:=omega)only[go_sem,qD0,stA,h1,e,k0,hp.1.ses.1,hg,oms,jL];exact jH0 x 0 ⟨hp.1.ses.2 x hm,fun _=>⟨oM,oM⟩⟩ rfl rfl
theorem zCa {g1}(h1:LkE tab 182 qI4 g1){g2}(h2:LkE tab 166 qB5 g2)(s:St)(h:Int)(hp:s.Ok∧tmI h) :
  qCy.1.wp tab gl (qE 0 [.t (stA s),.t (.int .i64 h)]) (qE 0 []) (qX [(4,(some (30,true))),(5,none)] 0 (qKw.K (s,h))):=by
 obtain⟨k,⟨hk,hq⟩,e⟩:=zS3 (g:=g1) (h:=h) ⟨hp.1.ses.1,hp.2⟩;rcases hk with rfl | ⟨k0,k1,k2⟩
 ·simp only[stA] at e;simp(disch:=omega)only[go_sem,qCy,stA,h1,e];exact jHh default 8 ⟨oM,oM⟩ rfl rfl
 ·have e2:=qZx (g:=g2) (s:=s) (k:=k) (x:=zSm) ⟨hp.1.ses.1,k0,k1⟩;have hS:=St.sput_go hp.1 (k:=k) Ses.ok0;simp only[stA,jL,zSm,List.map_nil] at e e2;simp(disch:=omega)only[go_sem,qCy,stA,h1,e,k0,h2,e2];exact jHh (s.sput k zSm) 0 ⟨fun _=>hS,fun _=>rfl⟩ rfl rfl
theorem qRl {g1}(h1:LkE tab 182 qI4 g1)(s:St)(h:Int)(hp:s.ses.length=3∧tmI h) :
  vJ.1.wp tab gl (qE 0 [.t (stA s),.t (.int .i64 h)]) (qE 0 []) (qX [(4,none)] 0 (qIy.K (s,h))):=by
 obtain⟨k,⟨hk,hq⟩,e⟩:=zS3 (g:=g1) (h:=h) hp;simp only[stA] at e;rcases hk with rfl | ⟨k0,k1,k2⟩
 ·simp(disch:=omega)only[go_sem,vJ,stA,h1,e];exact jDv (-1) (.inl rfl) rfl rfl
 ·obtain⟨x,hg,hm⟩:=qTp hp.1 k0 k1;by_cases c:x.kd=1
  ·simp(disch:=omega)only[go_sem,vJ,stA,h1,e,k0,hp.1,hg,oms,jL,c];exact jDv (-1) (.inl rfl) rfl rfl
  ·simp(disch:=omega)only[go_sem,vJ,stA,h1,e,k0,hp.1,hg,oms,jL,c];exact jDv k (.inr ⟨k0,k1⟩) rfl rfl
theorem qRm (h1:LkC tab 246 qZo){g2}(h2:LkE tab 249 qIp g2)(a:Asr)(hp:a.B) :
  jV.1.wp tab gl (qE 0 [.t (vN a)]) (qE 0 []) (qX [(2,none)] 0 (qPf.K a)):=by
 obtain⟨x1,_,e1⟩:=zJ7 (g:=g2) hp;obtain⟨x2,_,e2⟩:=zJ7 (g:=g2) (a := { a with dg:=z32 }) ⟨by simp[z32],hp.2⟩;obtain⟨kd,s0,s1,dg,n,op,od,nm,rf,br⟩:=a;simp only[vN] at *;have t1:List.take 32 z32=z32:=rfl;have lz:=qTa;by_cases c1:kd=6
 ·subst c1;simp(disch:=omega)only[go_sem,jV,vN];exact zTp 19 trivial rfl rfl
 by_cases c2:kd=9
 ·subst c2;simp(disch:=omega)only[go_sem,jV,vN];exact zTp 19 trivial rfl rfl
 by_cases c3:kd=1
 ·subst c3;by_cases c4:dg.length=0
  ·simp(disch:=omega)only[go_sem,jV,vN,c4,h1,zRl,h2,e2,t1,lz];repeat refine aiG ?_
   exact zTp _ trivial rfl rfl
  ·simp(disch:=omega)only[go_sem,jV,vN,c4,h2,e1];exact zTp _ trivial rfl rfl
 ·simp(disch:=omega)only[go_sem,jV,vN,c1,c2,c3,h2,e1];exact zTp _ trivial rfl rfl
theorem zIy  (l:List Int)(n:Int)(hp:l.length≤1000000) :
  qJ1.1.wp tab gl (qE 0 [.t (.sl (l.map iT)),.t (.int .i64 n)]) (qE 0 []) (qX [(4,none)] 0 (qIs.K (l,n))):=by
 simp(disch:=omega)only[go_sem,qJ1];refine zD (σ:=Nat) (fun k=>k≤l.length) (fun k=>l.length-k) (fun k=>[(0,.t (.sl (l.map iT))),(1,.t (.int .i64 n)),(5,.t (.int .i64 k))]) (fun _=>[]) 0 oM (qI.rd id ?_ ?_ rfl) ?_
 ·simp(disch:=omega)only[go_sem,id]
 ·simp(disch:=omega)only[go_sem,id]
 intro k hk;by_cases hlt:k<l.length
 ·obtain⟨x,hg,hm,_⟩:=qN hlt;by_cases c:x=n
  ·subst c;simp(disch:=omega)only[go_sem,hlt,hg,oms,iT];exact jH8 true trivial rfl rfl
  ·simp(disch:=omega)only[go_sem,hlt,hg,oms,iT,c];refine qDd.of (k+1) oM oM (qI.rd id ?_ ?_ rfl);all_goals simp(disch:=omega)only[go_sem,id]
 ·simp(disch:=omega)only[go_sem,hlt];exact jH8 false trivial rfl rfl
theorem qXb  (o a b:Int) :
  qDg.1.wp tab gl (qE 0 [.t (.int .i64 o),.t (.int .i64 a),.t (.int .i64 b)]) (qE 0 []) (qX [(6,none)] 0 (qNi.K (o,a,b))):=by
 simp +contextual(disch:=omega)only[go_sem,qDg,↓qB,↓qC,qU]
 (repeat' (first | apply And.intro | intro _))<;>(try rfl)
 all_goals exact jN4 _ trivial rfl rfl
theorem qSx (h1:LkC tab 244 qM5)(h2:LkC tab 20 xO)(s:St)(x:Ses)(a:Asr)(hp:s.Ok∧x.Ok∧a.B) :
  zH.1.wp tab gl (qE 0 [.t (stA s),.t (jL x),.t (vN a)]) (qE 0 []) (qX [(6,(some (8,true))),(7,(some (10,true))),(8,none)] 0 (qOy.K (s,x,a))):=by
 obtain⟨hs,hx,ha⟩:=hp;obtain⟨xk,xn,xd,xu,xl,xc,xt,xv⟩:=x;obtain⟨kd,s0,s1,dg,n,op,od,nm,rf,br⟩:=a;have hrk:=hs.bk.rv;have hy : ∀ (u:Int),Ses.Ok ⟨xk,xn,xd,u,xl,xc,xt,xv⟩:=fun u=>hx
 have hb : ∀ d:List UInt8,d.length=32→Asr.B ⟨kd,s0,s1,d,n,op,od,nm,rf,br⟩:=fun d hd=>⟨by simp only;omega,ha.2⟩
 by_cases k1:xk=2
 ·subst k1;rcases @zPi s.bk s.u s0 s1 hrk with⟨e,he,e1⟩ | ⟨y,hy2,e1⟩
  ·simp +contextual(maxSteps:=9^9)(disch:=try exact dS)only[go_sem,zH,stA,jL,vN,h1,h2,e1,he,↓qB,↓qC,qU];repeat refine aiG ?_
   exact qWn _ _ e ⟨hx,ha⟩ rfl rfl
  ·have e2:=kX (a:=dg) (b:=y) ⟨by have:=ha.1;simp only at this;omega,oM⟩;have ty:List.take 32 y=y:=List.take_of_length_le oM;by_cases c1:dg.length=0
   ·obtain rfl:dg=[]:=List.length_eq_zero_iff.1 c1;by_cases c3:xu = -1
    ·subst c3;simp +contextual(maxSteps:=9^9)(disch:=try exact dS)only[go_sem,zH,stA,jL,vN,h1,h2,e1,ty,hy2,↓qB,↓qC,qU]
     (repeat' (first | apply And.intro | intro _))<;>(try rfl)
     all_goals first | exact qWn ⟨2,xn,xd,_,xl,xc,xt,xv⟩ ⟨kd,s0,s1,y,n,op,od,nm,rf,br⟩ 0 ⟨hy _,hb y hy2⟩ rfl rfl | skip
    ·by_cases c4:xu=s.u
     ·subst c4;simp +contextual(maxSteps:=9^9)(disch:=try exact dS)only[go_sem,zH,stA,jL,vN,h1,h2,e1,ty,hy2,c3,↓qB,↓qC,qU]
      (repeat' (first | apply And.intro | intro _))<;>(try rfl)
      all_goals first | exact qWn ⟨2,xn,xd,_,xl,xc,xt,xv⟩ ⟨kd,s0,s1,y,n,op,od,nm,rf,br⟩ 0 ⟨hy _,hb y hy2⟩ rfl rfl | skip
     ·simp +contextual(maxSteps:=9^9)(disch:=try exact dS)only[go_sem,zH,stA,jL,vN,h1,h2,e1,ty,hy2,c3,c4,↓qB,↓qC,qU]
      (repeat' (first | apply And.intro | intro _))<;>(try rfl)
      all_goals first | exact qWn _ _ 12 ⟨hx,ha⟩ rfl rfl | skip
   ·by_cases c2:dg=y
    ·rw[decide_eq_true c2] at e2;by_cases c3:xu = -1
     ·subst c3;simp +contextual(maxSteps:=9^9)(disch:=try exact dS)only[go_sem,zH,stA,jL,vN,h1,h2,e1,e2,ty,hy2,c1,↓qB,↓qC,qU]
      (repeat' (first | apply And.intro | intro _))<;>(try rfl)
      all_goals first | exact qWn ⟨2,xn,xd,_,xl,xc,xt,xv⟩ ⟨kd,s0,s1,y,n,op,od,nm,rf,br⟩ 0 ⟨hy _,hb y hy2⟩ rfl rfl | skip
     ·by_cases c4:xu=s.u
      ·subst c4;simp +contextual(maxSteps:=9^9)(disch:=try exact dS)only[go_sem,zH,stA,jL,vN,h1,h2,e1,e2,ty,hy2,c1,c3,↓qB,↓qC,qU]
       (repeat' (first | apply And.intro | intro _))<;>(try rfl)
       all_goals first | exact qWn ⟨2,xn,xd,_,xl,xc,xt,xv⟩ ⟨kd,s0,s1,y,n,op,od,nm,rf,br⟩ 0 ⟨hy _,hb y hy2⟩ rfl rfl | skip
      ·simp +contextual(maxSteps:=9^9)(disch:=try exact dS)only[go_sem,zH,stA,jL,vN,h1,h2,e1,e2,ty,hy2,c1,c3,c4,↓qB,↓qC,qU]
       (repeat' (first | apply And.intro | intro _))<;>(try rfl)
       all_goals first | exact qWn _ _ 12 ⟨hx,ha⟩ rfl rfl | skip
    ·rw[decide_eq_false c2] at e2;simp +contextual(maxSteps:=9^9)(disch:=try exact dS)only[go_sem,zH,stA,jL,vN,h1,h2,e1,e2,ty,hy2,c1,↓qB,↓qC,qU]
     (repeat' (first | apply And.intro | intro _))<;>(try rfl)
     all_goals first | exact qWn _ _ 16 ⟨hx,ha⟩ rfl rfl | skip
 ·by_cases c1:dg.length=0
  ·obtain rfl:dg=[]:=List.length_eq_zero_iff.1 c1;rcases @zPi s.bk s.u s0 s1 hrk with⟨e,he,e1⟩ | ⟨y,hy2,e1⟩
   ·simp +contextual(maxSteps:=9^9)(disch:=try exact dS)only[go_sem,zH,stA,jL,vN,h1,h2,e1,he,k1,↓qB,↓qC,qU];repeat refine aiG ?_
    exact qWn _ _ e ⟨hx,ha⟩ rfl rfl
   ·have ty:List.take 32 y=y:=List.take_of_length_le oM;simp +contextual(maxSteps:=9^9)(disch:=try exact dS)only[go_sem,zH,stA,jL,vN,h1,h2,e1,k1,ty,hy2,↓qB,↓qC,qU];repeat refine aiG ?_
    exact qWn ⟨xk,xn,xd,xu,xl,xc,xt,xv⟩ ⟨kd,s0,s1,y,n,op,od,nm,rf,br⟩ 0 ⟨hx,hb y hy2⟩ rfl rfl
  ·simp +contextual(maxSteps:=9^9)(disch:=try exact dS)only[go_sem,zH,stA,jL,vN,h1,h2,k1,c1,↓qB,↓qC,qU];repeat refine aiG ?_
   exact qWn ⟨xk,xn,xd,xu,xl,xc,xt,xv⟩ ⟨kd,s0,s1,dg,n,op,od,nm,rf,br⟩ 0 ⟨hx,ha⟩ rfl rfl
theorem zCb {g1}(h1:LkE tab 233 qK3 g1)(h2:LkC tab 20 xO){g3}(h3:LkE tab 213 qIs g3){g4}(h4:LkE tab 281 qNh g4)(s:St)(a:Asr)(hp:s.Ok∧s.cn 1000000∧a.B) :
  qGl.1.wp tab gl (qE 0 [.t (stA s),.t (vN a)]) (qE 0 []) (qX [(4,none)] 0 (qNw.K (s,a))):=by
 obtain⟨hs,hc,ha⟩:=hp;simp(disch:=omega)only[go_sem,qGl,stA,vN];refine zD (σ:=Nat) (fun k=>k≤s.a.ix.length) (fun k=>s.a.ix.length-k) (fun k=>[(2,.ref 4096 0 0),(3,.ref 4112 0 0),(5,.t (.int .i64 k))]) (fun k=>[(4112,.live 10 [.t (vN a)] true true),(4096,.live 30 [.t (stA s)] true true)]) 0 oM (qI.rd id ?_ ?_ rfl) ?_
 ·simp(disch:=omega)only[go_sem,id,stA,vN]
 ·simp(disch:=omega)only[go_sem,id,stA,vN]
 intro k hk;by_cases hlt:k<s.a.ix.length
 ·obtain⟨x,hg,hm,_⟩:=qN hlt;have hx6:=hs.a.ix.1;have hx:=hs.a.ix.2 x hm;have hx5:=hx.2.2.2.2.1;have hx7:=hx.2.2.2.2.2.2.1;obtain⟨b,hb,e1⟩:=zZu (g:=g1) (x:=x) oM;have e2:=kX (a:=b) (b:=a.nm) ⟨oM,by have:=ha.2.2.1;omega⟩;obtain⟨r,_,e3⟩:=zKu (g:=g3) (l:=s.rl) (n:=x.n) (by have:=hc.2.2.2.2.2.1;omega);obtain⟨v,_,e4⟩:=jHk (g:=g4) (o:=a.op) (a:=x.da) (b:=a.od) ⟨oM,by have:=ha.2.1;omega⟩;generalize decide (b=a.nm)=d at *;simp only[ixA] at e1;simp +contextual(disch:=omega)only[go_sem,stA,vN,hlt,hg,oms,ixA,h1,h2,h3,h4,e1,e2,e3,e4,↓qB,↓qC,qU]
  (repeat' (first | apply And.intro | intro _))<;>(try rfl)
  all_goals first | exact jIq _ trivial rfl rfl | skip
  refine qDd.of (k+1) oM oM (qI.rd id ?_ ?_ rfl);all_goals simp(disch:=omega)only[go_sem,id,stA,vN]
 ·simp(disch:=omega)only[go_sem,stA,vN,hlt];exact jIq 7 trivial rfl rfl
theorem qT8 (h1:LkC tab 231 qA8)(d rf:List UInt8)(hp:d.length≤4000∧rf.length≤4000) :
  qCk.1.wp tab gl (qE 0 [.t (.sl (d.map qA)),.t (.sl (rf.map qA))]) (qE 0 []) (qX [(4,none)] 0 (qKq.K (d,rf))):=by
 obtain⟨z,hz,e⟩:=qQn (t:=9) (fs:=[d,rf]) oM sM (by intro x hx;simp only[List.mem_cons,List.not_mem_nil,or_false] at hx;rcases hx with rfl | rfl;omega;omega);simp only[mcn,bsT] at e;rw[show ((9:Nat):Int)=9 from rfl] at e;simp(disch:=omega)only[go_sem,qCk,h1,e,List.take_length];exact jNq z hz rfl rfl
theorem zFq {g1}(h1:LkE tab 19 qDo g1)(h2:LkC tab 246 qZo){g3}(h3:LkE tab 166 qB5 g3)(s:St)(k:Int)(hp:s.Ok∧s.cn 1000000) :
  qBv.1.wp tab gl (qE 0 [.t (stA s),.t (.int .i64 k)]) (qE 0 []) (qX [(4,(some (30,true))),(5,none),(6,none)] 0 (qOn.K (s,k))):=by
 obtain⟨hs,hc⟩:=hp;have hc5:=hc.2.2.2.2.1;by_cases c1:k<1
 ·simp(maxSteps:=9^9)(disch:=try exact dS)only[go_sem,qBv,stA,c1];exact zWb default 0 1 oM rfl rfl
 by_cases c2:3<k
 ·simp(maxSteps:=9^9)(disch:=try exact dS)only[go_sem,qBv,stA,c1,c2];exact zWb default 0 1 oM rfl rfl
 obtain⟨t,b,⟨ht,hb⟩,e1⟩:=zR0 (g:=g1) (s:=s) (n:=16) ⟨hs.a.en,⟨hs.dr,oM⟩,oM,oM⟩;have lb:b.length=16:=by rw[hb];exact qEc
 have tz:List.take 32 z32=z32:=rfl;have lz:=qTa;subst ht;simp(maxSteps:=9^9)(disch:=try exact dS)only[go_sem,qBv,stA,c1,c2];refine zD (σ:=Nat) (fun j=>j≤3) (fun j=>3-j) (fun j=>[(1,.t (.int .i64 k)),(2,.ref 4096 0 0),(4,.ref 4112 0 0),(7,.t (.int .i64 j))]) (fun j=>[(4112,.live 30 [.agg [.nil,.nil,.nil,.t (.int .i64 0),.t (.int .i64 0),.t (.int .i64 0),.t (.int .i64 0),.t (.bool false),.nil,.t (.int .i64 0),.t (.int .i64 0),.nil,.t (.int .i64 0),.t (.int .i64 0),.t (.int .i64 0),.t (.int .i64 0),.t (.int .i64 0),.t (.int .i64 0),.nil,.t (.bool false),.t (.bool false),.nil,.t (.int .i64 0),.t (.int .i64 0),.t (.bool false),.t (.int .i64 0),.nil,.nil,.nil,.nil]] true true),(4096,.live 30 [.t (stA s)] true true)]) 0 oM (qI.rd id ?_ ?_ rfl) ?_
 ·simp(maxSteps:=9^9)(disch:=try exact dS)only[go_sem,id,stA]
 ·simp(maxSteps:=9^9)(disch:=try exact dS)only[go_sem,id,stA]
 intro j hj;by_cases hlt:j<3
 ·obtain⟨x,hg,hm⟩:=qTp hs.ses.1 (k:=j) oM oM;rw[Int.toNat_natCast] at hg;by_cases c3:x.kd=0
  ·have e2:=qZx (g:=g3) (s := { s with dr:=s.dr+1 }) (k:=(j:Int)) (x:=⟨k,b,z32,-1,31,0,0,false⟩) ⟨hs.ses.1,oM,oM⟩;have o1:St.Ok { s with dr:=s.dr+1 } := { hs with dr:=by have:=hs.dr;show 0≤s.dr+1;omega };have o2:=St.sput_ok (k:=(j:Int)) (x:=⟨k,b,z32,-1,31,0,0,false⟩) o1 (by simp only[Ses.Ok];omega);simp only[stA,jL] at e1 e2;simp(maxSteps:=9^9)(disch:=try exact dS)only[go_sem,stA,hs.ses.1,hlt,hg,oms,jL,c3,h1,h2,h3,zRl,e1,e2,tz,lz];exact⟨rfl,zWb (St.sput { s with dr:=s.dr+1 } j ⟨k,b,z32,-1,31,0,0,false⟩) (768+j) 0 (fun _=>⟨⟨o2,fun m hm=>by unfold St.cn at *;simp only[St.sput];omega⟩,oM⟩) rfl rfl⟩
  ·simp(maxSteps:=9^9)(disch:=try exact dS)only[go_sem,stA,hs.ses.1,hlt,hg,oms,jL,c3];refine qDd.of (j+1) oM oM (qI.rd id ?_ ?_ rfl);all_goals simp(maxSteps:=9^9)(disch:=try exact dS)only[go_sem,id,stA]
 ·simp(maxSteps:=9^9)(disch:=try exact dS)only[go_sem,stA,hs.ses.1,hlt];exact zWb default 0 25 oM rfl rfl
theorem qYm {g1}(h1:LkE tab 248 qIy g1){g2}(h2:LkE tab 249 qIp g2){g3}(h3:LkE tab 250 qG0 g3){g4}(h4:LkE tab 166 qB5 g4)(s:St)(h:Int)(nm rf:List UInt8)(n:Int)(hp:s.Ok∧nm.length≤4000∧rf.length≤4000∧tmI h) :
  yI.1.wp tab gl (qE 0 [.t (stA s),.t (.int .i64 h),.t (.sl (nm.map qA)),.t (.sl (rf.map qA)),.t (.int .i64 n)]) (qE 0 []) (qX [(10,(some (30,true))),(11,none)] 0 (qO0.K (s,h,nm,rf,n))):=by
 obtain⟨hs,q1,q2,q3⟩:=hp;obtain⟨k,hk,e1⟩:=zRk (g:=g1) (h:=h) ⟨hs.ses.1,q3⟩;obtain⟨w,_,e2⟩:=zJ7 (g:=g2) (a:=⟨6,0,0,[],0,0,[],nm,rf,[]⟩) ⟨sM,sM,q1,q2,sM,sM⟩;rcases hk with rfl | ⟨k0,k1⟩
 ·simp only[stA] at e1;simp(maxSteps:=9^9)(disch:=try exact dS)only[go_sem,yI,stA,h1,e1];exact qWu default 8 oM rfl rfl
 by_cases c1:n<0
 ·simp only[stA] at e1;simp(maxSteps:=9^9)(disch:=try exact dS)only[go_sem,yI,stA,h1,e1,k0,c1];exact qWu default 1 oM rfl rfl
 by_cases c2:1048576<n
 ·simp only[stA] at e1;simp(maxSteps:=9^9)(disch:=try exact dS)only[go_sem,yI,stA,h1,e1,k0,c1,c2];exact qWu default 1 oM rfl rfl
 obtain⟨x,hg,hm⟩:=qTp hs.ses.1 k0 k1;have hx:=hs.ses.2 x hm;have hck:=hs.clk;obtain⟨y,hy,e3⟩:=zDz (g:=g3) (d:=x.dg) (a:=⟨6,0,0,[],0,0,[],nm,rf,[]⟩) ⟨by have:=hx.2.2.1;omega,sM,sM,q1,q2,sM,sM⟩;have put : ∀ dl:Int,(0≤dl∧dl≤1100000000000000) → ∃ t:St,s.Go 0 t∧qB5.fs g4 [.t (stA s),.t (.int .i64 k),.t (jL { x with dg:=y,dl:=dl })] []=some (.t (stA t),[]):=by
  intro dl hd;exact⟨_,St.sput_go hs (k:=k) (x := { x with dg:=y,dl:=dl }) ⟨hx.1,hx.2.1,hy,hx.2.2.2.1,hd⟩,qZx ⟨hs.ses.1,k0,k1⟩⟩
 obtain⟨t1,g5,f1⟩:=put x.dl hx.2.2.2.2;obtain⟨t2,g6,f2⟩:=put (s.clk+n) oM;simp only[stA,jL,vN,List.map_nil] at e1 e2 e3 f1 f2;by_cases c3:n=0
 ·simp +contextual(maxSteps:=9^9)(disch:=try exact dS)only[go_sem,yI,stA,h1,e1,k0,c1,c2,h2,e2,h3,e3,hg,oms,jL,h4,f1,c3,↓qB,↓qC,qU]
  (repeat' (first | apply And.intro | intro _))<;>(try rfl)
  ·exact qWu default w (fun e=>absurd e ‹_›) rfl rfl
  ·exact qWu t1 0 (fun _=>g5) rfl rfl
 ·obtain⟨xk,xn,xd,xu,xl,xc,xt,xv⟩:=x;simp only at *;by_cases c4:xt=0
  ·subst c4;simp +contextual(maxSteps:=9^9)(disch:=try exact dS)only[go_sem,yI,stA,h1,e1,k0,c1,c2,h2,e2,h3,e3,hg,oms,jL,h4,f2,c3,↓qB,↓qC,qU]
   (repeat' (first | apply And.intro | intro _))<;>(try rfl)
   ·exact qWu default w (fun e=>absurd e ‹_›) rfl rfl
   ·exact qWu t2 0 (fun _=>g6) rfl rfl
  ·by_cases c5:s.clk+n<xt
   ·simp +contextual(maxSteps:=9^9)(disch:=try exact dS)only[go_sem,yI,stA,h1,e1,k0,c1,c2,h2,e2,h3,e3,hg,oms,jL,h4,f2,c3,c4,c5,↓qB,↓qC,qU]
    (repeat' (first | apply And.intro | intro _))<;>(try rfl)
    ·exact qWu default w (fun e=>absurd e ‹_›) rfl rfl
    ·exact qWu t2 0 (fun _=>g6) rfl rfl
   ·simp +contextual(maxSteps:=9^9)(disch:=try exact dS)only[go_sem,yI,stA,h1,e1,k0,c1,c2,h2,e2,h3,e3,hg,oms,jL,h4,f1,c3,c4,c5,↓qB,↓qC,qU]
    (repeat' (first | apply And.intro | intro _))<;>(try rfl)
    ·exact qWu default w (fun e=>absurd e ‹_›) rfl rfl
    ·exact qWu t1 0 (fun _=>g5) rfl rfl
theorem qXa {g1}(h1:LkE tab 248 qIy g1){g2}(h2:LkE tab 221 qI0 g2){g3}(h3:LkE tab 174 qKq g3){g4}(h4:LkE tab 251 qPd g4){g5}(h5:LkE tab 223 qCs g5){g6}(h6:LkE tab 250 qG0 g6){g7}(h7:LkE tab 166 qB5 g7)(s:St)(h:Int)(k:Pu)(rf sg:List UInt8)(hp:s.Ok∧k.Ok∧rf.length≤4000∧sg.length≤4000∧tmI h) :
  vW.1.wp tab gl (qE 0 [.t (stA s),.t (.int .i64 h),.t (puA k),.t (.sl (rf.map qA)),.t (.sl (sg.map qA))]) (qE 0 []) (qX [(10,(some (30,true))),(11,none)] 0 (qM9.K (s,h,k,rf,sg))):=by
 obtain⟨hs,hk,q1,q2,q3⟩:=hp;have hk':=hk;obtain⟨p1,p2,p3,p4,p5⟩:=hk';obtain⟨j,hj,e1⟩:=zRk (g:=g1) (h:=h) ⟨hs.ses.1,q3⟩;obtain⟨w,_,e2⟩:=zRn (g:=g2) (p:=k) ⟨oM,oM⟩;rcases hj with rfl | ⟨k0,k1⟩
 ·simp only[stA] at e1;simp(maxSteps:=9^9)(disch:=try exact dS)only[go_sem,vW,stA,puA,h1,e1];exact qVh default 8 oM rfl rfl
 obtain⟨x,hg,hm⟩:=qTp hs.ses.1 k0 k1;have hx:=hs.ses.2 x hm;obtain⟨m,hm2,e3⟩:=zYx (g:=g3) (d:=x.dg) (rf:=rf) ⟨by have:=hx.2.2.1;omega,oM⟩;obtain⟨v,vb,_,e4⟩:=jMr (g:=g4) (p:=k.un) (m:=m) (sg:=sg) ⟨oM,oM,q2⟩;obtain⟨nn,hnn,e5⟩:=qWf (g:=g5) (p:=k) ⟨oM,oM⟩;obtain⟨y,hy,e6⟩:=zDz (g:=g6) (d:=x.dg) (a:=⟨9,0,0,[],0,0,[],nn,rf,[]⟩) ⟨by have:=hx.2.2.1;omega,sM,sM,by simp only;omega,q1,sM,sM⟩;have e7:=qZx (g:=g7) (s:=s) (k:=j) (x := { x with dg:=y }) ⟨hs.ses.1,k0,k1⟩;have hgo:=St.sput_go hs (k:=j) (x := { x with dg:=y }) ⟨hx.1,hx.2.1,hy,hx.2.2.2⟩;obtain⟨xk,xn,xd,xu,xl,xc,xt,xv⟩:=x;obtain⟨pk,par,pht,ppo,pun⟩:=k;simp only[stA,jL,vN,puA,List.map_nil] at *;by_cases c2:pk=2
 rotate_left
 ·simp +contextual(maxSteps:=9^9)(disch:=try exact dS)only[go_sem,vW,stA,puA,h1,e1,k0,h2,e2,c2,↓qB,↓qC,qU]
  (repeat' (first | apply And.intro | intro _))<;>(try rfl)
  all_goals first | exact qVh default w (fun e=>absurd e ‹_›) rfl rfl | exact qVh default 19 oM rfl rfl
 subst c2;by_cases c1:xk=2
 ·subst c1;simp +contextual(maxSteps:=9^9)(disch:=try exact dS)only[go_sem,vW,stA,puA,h1,e1,k0,h2,e2,hg,oms,jL,h3,e3,h4,e4,h5,e5,h6,e6,h7,e7,↓qB,↓qC,qU]
  (repeat' (first | apply And.intro | intro _))<;>(try rfl)
  all_goals first | exact qVh default w (fun e=>absurd e ‹_›) rfl rfl | exact qVh default 4 oM rfl rfl | exact qVh default 17 oM rfl rfl | exact qVh _ 0 (fun _=>hgo) rfl rfl
 ·simp +contextual(maxSteps:=9^9)(disch:=try exact dS)only[go_sem,vW,stA,puA,h1,e1,k0,h2,e2,hg,oms,jL,h3,e3,h4,e4,h5,e5,h6,e6,h7,e7,c1,↓qB,↓qC,qU]
  (repeat' (first | apply And.intro | intro _))<;>(try rfl)
  all_goals first | exact qVh default w (fun e=>absurd e ‹_›) rfl rfl | exact qVh default 4 oM rfl rfl | exact qVh default 17 oM rfl rfl | exact qVh _ 0 (fun _=>hgo) rfl rfl
theorem jWh {α:Type}{l:List α}(h:(l.length:Int)=0):l=[]:=List.length_eq_zero_iff.1 oM
theorem qQp {α:Type}{l:List α}(h:(l.length:Int)=1) : ∃ a,l=[a]:=List.length_eq_one_iff.1 oM
theorem jC3 {α:Type}{l:List α}(h:(l.length:Int)=2) : ∃ a b,l=[a,b]:=by
 match l,h with
 | [a,b],_=>exact⟨a,b,rfl⟩
 | [],h=>simp at h
 | [_],h=>simp at h
 | _::_::_::_,h=>simp at h;omega
theorem zVr {α:Type}{l:List α}(h:(l.length:Int)=3) : ∃ a b c,l=[a,b,c]:=by
 match l,h with
 | [a,b,c],_=>exact⟨a,b,c,rfl⟩
 | [],h=>simp at h
 | [_],h=>simp at h
 | [_,_],h=>simp at h
 | _::_::_::_::_,h=>simp at h;omega
theorem Obj.ok0:(default:Obj).Ok:=by refine⟨⟨?_,?_,?_,?_,?_⟩,⟨?_,?_,?_⟩,?_⟩<;>simp[default,instInhabitedObj.default,instInhabitedPu.default,instInhabitedSn.default]
def zZ5:Obj:=⟨⟨0,0,0,[],[]⟩,⟨[],[],[]⟩,0⟩
theorem zRd:zZ5.Ok:=by refine⟨⟨?_,?_,?_,?_,?_⟩,⟨?_,?_,?_⟩,?_⟩<;>simp[zZ5]
def St.oput (s:St)(k:Int)(x:Obj):St := { s with obs:=s.obs.set k.toNat x }
theorem St.oput_ok {s:St}(h:s.Ok){k:Int}{x:Obj}(hx:x.Ok):(s.oput k x).Ok:=by
 refine { h with obs:=⟨by simp[St.oput,h.obs.1],fun y hy=>?_⟩ };rcases List.mem_or_eq_of_mem_set hy with h1 | rfl
 ·exact h.obs.2 y h1
 ·exact hx
theorem St.go_rfl {s:St}(h:s.Ok){k:Int}(hk:0≤k):s.Go k s:=⟨h,St.up.rfl' hk⟩
theorem St.Go.le {s t:St}{k l:Int}(h:s.Go k t)(e:k≤l):s.Go l t:=⟨h.1,h.2.le e⟩
theorem St.oput_go {s:St}(h:s.Ok){k:Int}{x:Obj}(hx:x.Ok):s.Go 0 (s.oput k x):=⟨St.oput_ok h hx,fun m hm=>by rw[Int.add_zero];exact hm⟩
def St.more (s:St):St := { s with dr:=s.dr+1 }
theorem St.more_go {s:St}(h:s.Ok):s.Go 1 s.more:=⟨{ h with dr:=by have:=h.dr;show 0≤s.dr+1;omega },fun m hm=>by unfold St.cn at *;simp only[St.more];omega⟩
theorem jKq {g:EF qDo}{s:St}(h:s.Ok)(hc:s.cn 1000000){n:Int}(hn:1≤n∧n≤1024) : ∃ b:List UInt8,b.length=n.toNat∧qDo.fs g [.t (stA s),.t (.int .i64 n)] []=some (.tup [.t (stA s.more),.t (.sl (b.map qA))],[]):=by
 obtain⟨t,b,⟨rfl,rfl⟩,e⟩:=zR0 (g:=g) (s:=s) (n:=n) ⟨h.a.en,⟨h.dr,by have:=hc.2.2.2.2.1;omega⟩,hn⟩;exact⟨_,qEc,e⟩
theorem qJd {g:EF qA9}{s:St}{e:Int} : ∃ r:Rs,qA9.fs g [.t (stA s),.t (.int .i64 e)] []=some (.tup [.t (stA s),.t (rsA r)],[]):=by
 obtain⟨t,r,rfl,h⟩:=jKm (g:=g) (s:=s) (e:=e);exact⟨r,h⟩
theorem qUa  (q:Rq)(hp:3≤q.ns.length∧1≤q.bl.length ∧ ∀ x∈q.bl,x.length≤1024) :
  qCm.1.wp tab gl (qE 0 [.t (rqA q)]) (qE 0 []) (qX [(2,(some (5,true)))] 0 (qLk.K q)):=by
 obtain⟨q1,q2,q3⟩:=hp;obtain⟨co,hh,au,ns,bl⟩:=q;simp only at q1 q2 q3;obtain⟨n0,g0,_,_⟩:=qN (l:=ns) (k:=0) oM;obtain⟨n1,g1,_,_⟩:=qN (l:=ns) (k:=1) oM;obtain⟨n2,g2,_,_⟩:=qN (l:=ns) (k:=2) oM;obtain⟨b0,g3,m3,_⟩:=qN (l:=bl) (k:=0) oM;have:=q3 b0 m3;simp(disch:=omega)only[go_sem,qCm,rqA,g0,g1,g2,g3,oms,iT];exact⟨rfl,jQi ⟨n0,n1,n2,b0,[]⟩ ⟨this,rfl⟩ rfl rfl⟩
theorem qYt  (s:St)(e:Int) :
  qEr.1.wp tab gl (qE 0 [.t (stA s),.t (.int .i64 e)]) (qE 0 []) (qX [(4,(some (30,true))),(5,(some (4,true)))] 0 (qA9.K (s,e))):=by
 simp(disch:=omega)only[go_sem,qEr,stA];exact jPn s ⟨e,[],[],[]⟩ rfl rfl rfl
theorem zFv  (s:St)(hp:s.obs.length=3) :
  qH6.1.wp tab gl (qE 0 [.t (stA s)]) (qE 0 []) (qX [(2,none)] 0 (qK1.K s)):=by
 simp(disch:=omega)only[go_sem,qH6,stA];refine zD (σ:=Nat) (fun k=>k≤3) (fun k=>3-k) (fun k=>[(1,.ref 4096 0 0),(3,.t (.int .i64 k))]) (fun k=>[(4096,.live 30 [.t (stA s)] true true)]) 0 oM (qI.rd id ?_ ?_ rfl) ?_
 ·simp(disch:=omega)only[go_sem,id,stA]
 ·simp(disch:=omega)only[go_sem,id,stA]
 intro k hk;by_cases hlt:k<3
 ·obtain⟨x,hg,hm,_⟩:=qN (l:=s.obs) (k:=k) oM;by_cases c:x.p.kd=0
  ·simp(disch:=omega)only[go_sem,stA,hp,hlt,hg,oms,wI,c];exact jH1 k (.inr oM) rfl rfl
  ·simp(disch:=omega)only[go_sem,stA,hp,hlt,hg,oms,wI,c];refine qDd.of (k+1) oM oM (qI.rd id ?_ ?_ rfl);all_goals simp(disch:=omega)only[go_sem,id,stA]
 ·simp(disch:=omega)only[go_sem,stA,hp,hlt];exact jH1 (-1) (.inl rfl) rfl rfl
theorem zI1  (s:St)(k:Int)(x:Obj)(hp:s.obs.length=3∧0≤k∧k≤2) :
  qKa.1.wp tab gl (qE 0 [.t (stA s),.t (.int .i64 k),.t (wI x)]) (qE 0 []) (qX [(6,(some (30,true)))] 0 (qIz.K (s,k,x))):=by
 obtain⟨q1,q2,q3⟩:=hp;obtain⟨y,hg,hm,_⟩:=qN (l:=s.obs) (k:=k.toNat) oM;simp(maxSteps:=9^9)(disch:=try exact dS)only[go_sem,qKa,stA,wI,q1,q2,q3,jXr,hg,oms];exact jPg (by rw[List.take_of_length_le (by simp[q1])];simp only[stA,List.map_set,wI]) rfl
theorem qYs {g1}(h1:LkE tab 142 qAi g1)(s:St)(q:Rq)(hp:s.Ok∧1≤q.hs.length∧0≤slP s.obs q.h0 0) :
  qEq.1.wp tab gl (qE 0 [.t (stA s),.t (rqA q)]) (qE 0 []) (qX [(4,(some (9,true)))] 0 (qFe.K (s,q))):=by
 obtain⟨hs,hq,h0⟩:=hp;obtain⟨co,hh,au,ns,bl⟩:=q;simp only[Rq.h0] at hq h0;obtain⟨x,g0,_,hd⟩:=qN (l:=hh) (k:=0) oM;have hx:hh.getD 0 0=x:=by rw[List.getD_eq_getElem?_getD,g0];rfl
 rw[hx] at h0;have l2:=hs.obs;have e:=qMt (g:=g1) (h:=x) (s:=s) oM;have r2 := @zNk s.obs x 0;obtain⟨y,hg,hm,_⟩:=qN (l:=s.obs) (k:=(slP s.obs x 0).toNat) oM;simp only[stA] at e;generalize slP s.obs x 0=j at *;simp(disch:=omega)only[go_sem,qEq,stA,rqA,g0,oms,iT,h1,e,hg,wI,h0];all_goals first | exact jJp y (l2.2 y hm) rfl rfl | exact⟨rfl,jJp y (l2.2 y hm) rfl rfl⟩
theorem qXc {g1}(h1:LkE tab 237 qLk g1)(h2:LkC tab 191 qAw)(h3:LkC tab 43 qB1){g4}(h4:LkE tab 169 qIw g4){g5}(h5:LkE tab 238 qA9 g5){g6}(h6:LkE tab 239 qK1 g6){g7}(h7:LkE tab 240 qIz g7){g8}(h8:LkE tab 171 qCt g8){g9}(h9:LkE tab 223 qCs g9)(s:St)(q:Rq)(hp:(s.Ok∧s.cn 1000000)∧q.Ok∧q.Al s∧q.co=9) :
  kH.1.wp tab gl (qE 0 [.t (stA s),.t (rqA q)]) (qE 0 []) (qX [(4,(some (30,true))),(5,(some (4,true)))] 0 (qOu.K (s,q))):=by
 obtain⟨⟨hs,hc⟩,⟨_,q2,_,q4,q5⟩,al,rfl'⟩:=hp;obtain⟨co,hh,au,ns,bl⟩:=q;simp only at rfl' q2 q4 q5;subst rfl';rw[show qG6 9=(1,1,3,3) from rfl] at q2 q4 q5;obtain⟨h0,rfl⟩:=qQp q2.1;obtain⟨n0,n1',n2',rfl⟩:=zVr q4.1;obtain⟨b0,b1,b2,rfl⟩:=zVr (l:=bl) (by rcases q5.1 with h | h;exact h;exact absurd h.1 (by decide));have bb:=q5.2;have hb0:=bb b0 sM;have hb1:=bb b1 sM;have hb2:=bb b2 sM;have ha:=al.1 rfl;simp only[Rq.h0,List.getD_cons_zero] at ha;obtain⟨p,⟨lp,pun⟩,e1⟩:=jAy (g:=g1) (q:=⟨9,[h0],au,[n0,n1',n2'],[b0,b1,b2]⟩) ⟨sM,sM,bb⟩;obtain⟨sd,gsd,msd,_⟩:=qN (l:=s.a.sd) (k:=h0.toNat) (by have:=hs.a.sd.1;omega);have lsd:=hs.a.sd.2 sd msd;obtain⟨fb,lf,e2⟩:=zQh (t:=0) (fs:=[[u8I p.kd,u8I p.ar,u8I p.ht],p.po,b2]) oM sM soM;obtain⟨se,lse,e3⟩:=zMf (k:=sd) (l:=[112,114,105,109,97,114,121]) (c:=fb) (n:=32) ⟨oM,sM,oM,oM,oM⟩;obtain⟨pb,sn,e,hok,e4⟩:=zQ5 (g:=g4) (s:=se) (p:=p) (au:=b1) (da:=b2) ⟨oM,oM,oM,oM⟩;obtain⟨r0,e5⟩:=qJd (g:=g5) (s:=s) (e:=e);obtain⟨k,hk,e6⟩:=zZn (g:=g6) (s:=s) hs.obs.1;obtain⟨r1,e7⟩:=qJd (g:=g5) (s:=s) (e:=25);have hG : ∀ {k:Int},0≤k→s.Go k s:=fun hk=>St.go_rfl hs hk
 by_cases c:e=0
 rotate_left
 ·simp only[mcn,bsT,stA,rqA,puA,snA,iT,rsA] at e1 e2 e3 e4 e5;rw[show ((0:Nat):Int)=0 from rfl] at e2;rw[show ((32:Nat):Int)=32 from rfl] at e3;simp(maxSteps:=9^9)(disch:=try exact dS)only[go_sem,kH,stA,rqA,puA,mcn,iT,h1,h2,h3,h4,h5,e1,e2,e3,e4,e5,gsd,ha.1,u8w,c,List.take_length];exact⟨rfl,rfl,jDt s r0 (hG oM) rfl rfl⟩
 obtain⟨po1,sn1⟩:=hok c;subst c;rcases hk with rfl | ⟨k0,k1⟩
 ·simp only[mcn,bsT,stA,rqA,puA,snA,iT,rsA] at e1 e2 e3 e4 e6 e7;rw[show ((0:Nat):Int)=0 from rfl] at e2;rw[show ((32:Nat):Int)=32 from rfl] at e3;simp(maxSteps:=9^9)(disch:=try exact dS)only[go_sem,kH,stA,rqA,puA,mcn,iT,h1,h2,h3,h4,h5,h6,e1,e2,e3,e4,e6,e7,gsd,ha.1,u8w,List.take_length];exact⟨rfl,rfl,jDt s r1 (hG oM) rfl rfl⟩
 ·have e8:=zRm (g:=g7) (s:=s) (k:=k) (x:=⟨pb,sn,h0⟩) ⟨hs.obs.1,k0,k1⟩;have hgo:=St.oput_go hs (k:=k) (x:=⟨pb,sn,h0⟩) ⟨po1,sn1,ha⟩;obtain⟨x,lx,e9⟩:=qWg (g:=g8) (p:=pb) ⟨by have:=po1.2.2.2.1;omega,by have:=po1.2.2.2.2;omega⟩;obtain⟨y,ly,e10⟩:=qWf (g:=g9) (p:=pb) ⟨by have:=po1.2.2.2.1;omega,by have:=po1.2.2.2.2;omega⟩;simp only[mcn,bsT,stA,rqA,puA,snA,wI,iT,rsA] at e1 e2 e3 e4 e6 e8 e9 e10;rw[show ((0:Nat):Int)=0 from rfl] at e2;rw[show ((32:Nat):Int)=32 from rfl] at e3;simp(maxSteps:=9^9)(disch:=try exact dS)only[go_sem,kH,stA,rqA,puA,mcn,iT,h1,h2,h3,h4,h6,h7,h8,h9,e1,e2,e3,e4,e6,e8,e9,e10,gsd,ha.1,u8w,List.take_length,k0];repeat refine aiG ?_
  exact jDt (s.oput k ⟨pb,sn,h0⟩) ⟨0,[512+k],[x,y],[]⟩ (hgo.le oM) rfl rfl
theorem qYq {g1}(h1:LkE tab 241 qFe g1){g2}(h2:LkE tab 238 qA9 g2){g3}(h3:LkE tab 19 qDo g3){g4}(h4:LkE tab 237 qLk g4){g5}(h5:LkE tab 169 qIw g5){g6}(h6:LkE tab 171 qCt g6){g7}(h7:LkE tab 170 qLe g7)(s:St)(q:Rq)(hp:(s.Ok∧s.cn 1000000)∧q.Ok∧q.Al s∧q.co=10) :
  xH.1.wp tab gl (qE 0 [.t (stA s),.t (rqA q)]) (qE 0 []) (qX [(4,(some (30,true))),(5,(some (4,true)))] 0 (qNj.K (s,q))):=by
 obtain⟨⟨hs,hc⟩,hq,al,rfl'⟩:=hp;have hq':=hq;obtain⟨_,q2,_,q4,q5⟩:=hq';obtain⟨co,hh,au,ns,bl⟩:=q;simp only at rfl' q2 q4 q5;subst rfl';rw[show qG6 10=(1,1,3,3) from rfl] at q2 q4 q5;obtain⟨h0,rfl⟩:=qQp q2.1;obtain⟨n0,n1',n2',rfl⟩:=zVr q4.1;obtain⟨b0,b1,b2,rfl⟩:=zVr (l:=bl) (by rcases q5.1 with h | h;exact h;exact absurd h.1 (by decide));have bb:=q5.2;have hb1:=bb b1 sM;have hb2:=bb b2 sM;have ha:=al.2.1 (.inl rfl);obtain⟨x,hx,e1⟩:=zEo (g:=g1) (s:=s) (q:=⟨10,[h0],au,[n0,n1',n2'],[b0,b1,b2]⟩) ⟨hs,sM,ha⟩;obtain⟨r0,e2⟩:=qJd (g:=g2) (s:=s) (e:=19);obtain⟨rn,lrn,e3⟩:=jKq (g:=g3) hs hc (n:=32) oM;obtain⟨p,⟨lp,pun⟩,e4⟩:=jAy (g:=g4) (q:=⟨10,[h0],au,[n0,n1',n2'],[b0,b1,b2]⟩) ⟨sM,sM,bb⟩;obtain⟨pb,sn,e,hok,e5⟩:=zQ5 (g:=g5) (s:=rn) (p:=p) (au:=b1) (da:=b2) ⟨by rw[lrn];decide,oM,oM,oM⟩;obtain⟨r1,e6⟩:=qJd (g:=g2) (s:=s) (e:=e);have hG : ∀ {k:Int},0≤k→s.Go k s:=fun hk=>St.go_rfl hs hk
 by_cases c1:x.p.kd=1
 rotate_left
 ·simp only[mcn,bsT,stA,rqA,wI,iT,rsA] at e1 e2;simp(maxSteps:=9^9)(disch:=try exact dS)only[go_sem,xH,stA,rqA,wI,mcn,iT,h1,h2,e1,e2,c1];exact jBy s r0 (hG oM) rfl rfl
 by_cases c:e=0
 rotate_left
 ·simp only[mcn,bsT,stA,St.more,rqA,wI,iT,rsA,puA,snA] at e1 e3 e4 e5 e6;simp(maxSteps:=9^9)(disch:=try exact dS)only[go_sem,xH,stA,rqA,wI,puA,mcn,iT,h1,h2,h3,h4,h5,e1,e3,e4,e5,e6,c1,c];repeat refine aiG ?_
  exact jBy s r1 (hG oM) rfl rfl
 obtain⟨po1,sn1⟩:=hok c;subst c;obtain⟨y,ly,e7⟩:=qWg (g:=g6) (p:=pb) ⟨by have:=po1.2.2.2.1;omega,by have:=po1.2.2.2.2;omega⟩;obtain⟨z,lz,e8⟩:=jAc (g:=g7) (s:=x.s) (p:=pb) (z:=sn) ⟨hx.2.1,po1,sn1⟩;have hgo:=St.more_go hs;simp only[mcn,bsT,stA,St.more,rqA,wI,iT,rsA,puA,snA] at e1 e3 e4 e5 e7 e8;simp(maxSteps:=9^9)(disch:=try exact dS)only[go_sem,xH,stA,rqA,wI,puA,snA,mcn,iT,h1,h3,h4,h5,h6,h7,e1,e3,e4,e5,e7,e8,c1,List.take_length];repeat refine aiG ?_
 exact jBy s.more ⟨0,[],[y,z],[]⟩ (hgo.le oM) rfl rfl
theorem zFt {g1}(h1:LkE tab 241 qFe g1){g2}(h2:LkE tab 238 qA9 g2){g3}(h3:LkE tab 208 qLf g3){g4}(h4:LkE tab 242 qOo g4){g5}(h5:LkE tab 239 qK1 g5){g6}(h6:LkE tab 240 qIz g6){g7}(h7:LkE tab 223 qCs g7)(s:St)(q:Rq)(hp:(s.Ok∧s.cn 1000000)∧q.Ok∧q.Al s∧q.co=11) :
  wW.1.wp tab gl (qE 0 [.t (stA s),.t (rqA q)]) (qE 0 []) (qX [(4,(some (30,true))),(5,(some (4,true)))] 0 (qOe.K (s,q))):=by
 obtain⟨⟨hs,hc⟩,hq,al,rfl'⟩:=hp;have hq':=hq;obtain⟨_,q2,_,q4,q5⟩:=hq';obtain⟨co,hh,au,ns,bl⟩:=q;simp only at rfl' q2 q4 q5;subst rfl';rw[show qG6 11=(1,1,0,2) from rfl] at q2 q4 q5;obtain⟨h0,rfl⟩:=qQp q2.1;obtain rfl:=jWh q4.1;obtain⟨b0,b1,rfl⟩:=jC3 (l:=bl) (by rcases q5.1 with h | h;exact h;exact absurd h.1 (by decide));have bb:=q5.2;have hb0:=bb b0 sM;have hb1:=bb b1 sM;have ha:=al.2.1 (.inr (.inl rfl));obtain⟨x,hx,e1⟩:=zEo (g:=g1) (s:=s) (q:=⟨11,[h0],au,[],[b0,b1]⟩) ⟨hs,sM,ha⟩;obtain⟨r0,e2⟩:=qJd (g:=g2) (s:=s) (e:=19);obtain⟨pb,e,hok,e3⟩:=jAd (g:=g3) (b:=b0) oM;obtain⟨r1,e4⟩:=qJd (g:=g2) (s:=s) (e:=e);have hG : ∀ {k:Int},0≤k→s.Go k s:=fun hk=>St.go_rfl hs hk
 by_cases c1:x.p.kd=1
 rotate_left
 ·simp only[mcn,bsT,stA,rqA,wI,iT,rsA] at e1 e2;simp(maxSteps:=9^9)(disch:=try exact dS)only[go_sem,wW,stA,rqA,wI,mcn,iT,h1,h2,e1,e2,c1];exact zQ0 s r0 (hG oM) rfl rfl
 by_cases c:e=0
 rotate_left
 ·simp only[mcn,bsT,stA,rqA,wI,iT,rsA,puA] at e1 e3 e4;simp(maxSteps:=9^9)(disch:=try exact dS)only[go_sem,wW,stA,rqA,wI,puA,mcn,iT,bsT,h1,h2,h3,e1,e3,e4,c1,c];exact zQ0 s r1 (hG oM) rfl rfl
 have po1:=hok c;subst c;obtain⟨sn,e',hok2,e5⟩:=jJw (g:=g4) (s:=x.s) (p:=pb) (b:=b1) ⟨hx.2.1,po1,oM⟩;obtain⟨r2,e6⟩:=qJd (g:=g2) (s:=s) (e:=e');by_cases c:e'=0
 rotate_left
 ·simp only[mcn,bsT,stA,rqA,wI,iT,rsA,puA,snA] at e1 e3 e5 e6;simp(maxSteps:=9^9)(disch:=try exact dS)only[go_sem,wW,stA,rqA,wI,puA,snA,mcn,iT,bsT,h1,h2,h3,h4,e1,e3,e5,e6,c1,c];repeat refine aiG ?_
  exact zQ0 s r2 (hG oM) rfl rfl
 have sn1:=hok2 c;subst c;obtain⟨k,hk,e7⟩:=zZn (g:=g5) (s:=s) hs.obs.1;obtain⟨r3,e8⟩:=qJd (g:=g2) (s:=s) (e:=25);rcases hk with rfl | ⟨k0,k1⟩
 ·simp only[mcn,bsT,stA,rqA,wI,iT,rsA,puA,snA] at e1 e3 e5 e7 e8;simp(maxSteps:=9^9)(disch:=try exact dS)only[go_sem,wW,stA,rqA,wI,puA,snA,mcn,iT,bsT,h1,h2,h3,h4,h5,e1,e3,e5,e7,e8,c1];repeat refine aiG ?_
  exact zQ0 s r3 (hG oM) rfl rfl
 have e9:=zRm (g:=g6) (s:=s) (k:=k) (x:=⟨pb,sn,x.h⟩) ⟨hs.obs.1,k0,k1⟩;have hgo:=St.oput_go hs (k:=k) (x:=⟨pb,sn,x.h⟩) ⟨po1,sn1,hx.2.2⟩;obtain⟨y,ly,e10⟩:=qWf (g:=g7) (p:=pb) ⟨by have:=po1.2.2.2.1;omega,by have:=po1.2.2.2.2;omega⟩;simp only[mcn,bsT,stA,rqA,wI,iT,rsA,puA,snA] at e1 e3 e5 e7 e9 e10;simp(maxSteps:=9^9)(disch:=try exact dS)only[go_sem,wW,stA,rqA,wI,puA,snA,mcn,iT,bsT,h1,h3,h4,h5,h6,h7,e1,e3,e5,e7,e9,e10,c1,k0];repeat refine aiG ?_
 exact zQ0 (s.oput k ⟨pb,sn,x.h⟩) ⟨0,[512+k],[y],[]⟩ (hgo.le oM) rfl rfl
theorem jVw {α:Type}{l:List α}(h:(l.length:Int)=4) : ∃ a b c d,l=[a,b,c,d]:=by
 match l,h with
 | [a,b,c,d],_=>exact⟨a,b,c,d,rfl⟩
 | [],h=>simp at h
 | [_],h=>simp at h
 | [_,_],h=>simp at h
 | [_,_,_],h=>simp at h
 | _::_::_::_::_::_,h=>simp at h;omega
theorem BkS.ext {act:Int}{bk:List zB}(h:BkS act bk)(i:Nat)(ds:List (List UInt8)):BkS act (qSf bk i ds):=by
 rcases h with rfl | ⟨h1,h2⟩
 ·exact .inl rfl
 ·exact .inr ⟨h1,h2.ext i ds⟩
theorem BkS.rst {act:Int}{bk:List zB}(h:BkS act bk)(i:Nat):BkS act (zIa bk i):=by
 rcases h with rfl | ⟨h1,b0,b1,rfl,h0,h3,z0,z1⟩
 ·exact .inl rfl
 ·refine .inr ⟨h1,_,_,rfl,jY.trans h0,jY.trans h3,?_,?_⟩
  ·unfold qWo;split
   ·exact zBp z0 (by simp[szA])
   ·exact z0
  ·unfold qWo;split
   ·exact zBp z1 (by simp[szA])
   ·exact z1
theorem zZi {act:Int}{bk:List zB}(h:BkS act bk){u:Int}(hu:0≤u){lo i:Int}{ds:List (List UInt8)} : ∃ (bk':List zB) (u' e:Int),(e=0→BkS act bk'∧0≤u'∧u'≤u+1)∧qTf bk u lo i ds = .tup [.t (.agg [.sl (bk'.map yS),.int .i64 u']),.t (.int .i64 e)]:=by
 unfold qTf;split
 ·exact⟨_,_,_,fun _=>⟨h.ext _ _,oM,oM⟩,rfl⟩
 ·rename_i c;exact⟨[],0,_,fun e=>absurd e c,rfl⟩
theorem jOd {act:Int}{bk:List zB}(h:BkS act bk){u:Int}(hu:0≤u∧u<1000000000){lo i:Int}{ds:List (List UInt8)}(hd:ds.length≤8 ∧ ∀ d∈ds,d.length≤4000) : ∃ (bk':List zB) (u' e:Int),(e=0→BkS act bk'∧0≤u'∧u'≤u+1)∧qF1.fs [.t (.agg [.sl (bk.map yS),.int .i64 u]),.t (.int .i64 lo),.t (.int .i64 i),.t (.sl (ds.map bsT))] []=some (.tup [.t (.agg [.sl (bk'.map yS),.int .i64 u']),.t (.int .i64 e)],[]):=by
 obtain⟨bk',u',e,h1,h2⟩:=zZi h hu.1 (lo:=lo) (i:=i) (ds:=ds);refine⟨bk',u',e,h1,?_⟩;rw[zZj ⟨h.rv,hu,by show ds.length<_;omega,fun d hm=>by have:=hd.2 d hm;omega⟩,h2]
theorem jWc {act:Int}{bk:List zB}(h:BkS act bk){u:Int}(hu:0≤u∧u<1000000000){lo i:Int}{d:List UInt8}(hd:d.length≤4000) : ∃ (bk':List zB) (u' e:Int),(e=0→BkS act bk'∧0≤u'∧u'≤u+1)∧zPd.fs [.t (.agg [.sl (bk.map yS),.int .i64 u]),.t (.int .i64 lo),.t (.int .i64 i),.t (.sl (d.map qA))] []=some (.tup [.t (.agg [.sl (bk'.map yS),.int .i64 u']),.t (.int .i64 e)],[]):=by
 have he:zPd.fs [.t (.agg [.sl (bk.map yS),.int .i64 u]),.t (.int .i64 lo),.t (.int .i64 i),.t (.sl (d.map qA))] []=some (evR bk u lo i d,[]):=zPd.eq (bk,u,lo,i,d) ⟨h.rv,hu,by show d.length<_;omega⟩;rw[he];unfold evR;split
 ·exact⟨[],0,4,oM,rfl⟩
 ·obtain⟨bk',u',e,h1,h2⟩:=zZi h hu.1 (lo:=lo) (i:=i) (ds:=qVv bk d);exact⟨bk',u',e,h1,by rw[h2]⟩
theorem jPw {act:Int}{bk:List zB}(h:BkS act bk){u:Int}(hu:0≤u∧u<1000000000){lo i:Int} : ∃ (bk':List zB) (u' e:Int),(e=0→BkS act bk'∧0≤u'∧u'≤u+1)∧qHd.fs [.t (.agg [.sl (bk.map yS),.int .i64 u]),.t (.int .i64 lo),.t (.int .i64 i)] []=some (.tup [.t (.agg [.sl (bk'.map yS),.int .i64 u']),.t (.int .i64 e)],[]):=by
 have he:qHd.fs [.t (.agg [.sl (bk.map yS),.int .i64 u]),.t (.int .i64 lo),.t (.int .i64 i)] []=some (jEq bk u lo i,[]):=jKv ⟨h.rv.rm,hu.1,hu.2⟩;rw[he];unfold jEq;split
 ·exact⟨_,_,_,fun _=>⟨h.rst _,oM,oM⟩,rfl⟩
 ·rename_i c;exact⟨[],0,_,fun e=>absurd e c,rfl⟩
theorem jQm {bk:List zB}(h:RM bk){u a i:Int}:(∃ e:Int,e≠0∧qZp.fs [.t (.agg [.sl (bk.map yS),.int .i64 u]),.t (.int .i64 a),.t (.int .i64 i)] []=some (.tup [.nil,.t (.int .i64 e)],[]))∨
  ∃ y:List UInt8,qZp.fs [.t (.agg [.sl (bk.map yS),.int .i64 u]),.t (.int .i64 a),.t (.int .i64 i)] []=some (.tup [.sl 0 0 y.length,.t (.int .i64 0)],[.live 1 ((y.map qA).map V.t) true false]):=by
 have he:qZp.fs [.t (.agg [.sl (bk.map yS),.int .i64 u]),.t (.int .i64 a),.t (.int .i64 i)] []=some (jGf bk a i,jGe bk a i):=qZp.eq (bk,u,a,i) h;rw[he];unfold jGf jGe;split
 ·exact .inl ⟨1,by decide,rfl⟩
 ·split
  ·exact .inr ⟨_,rfl⟩
  ·exact .inl ⟨27,by decide,rfl⟩
theorem jN9 {bk:List zB}(h:RK bk){u:Int}{d:List UInt8}(hd:d.length≤4000):qVr.fs [.t (.agg [.sl (bk.map yS),.int .i64 u]),.t (.sl (d.map qA))] []=some (.t (.sl ((qVv bk d).map bsT)),[]):=qVr.eq (bk,u,d) ⟨h,by show d.length<_;omega⟩
theorem qYz  (s:St)(e:Int) :
  qEu.1.wp tab gl (qE 0 [.t (stA s),.t (.int .i64 e)]) (qE 0 []) (qX [(4,(some (30,true))),(5,(some (4,true)))] 0 (kW.K (s,e))):=by
 simp(disch:=omega)only[go_sem,qEu,stA];exact jPo s ⟨e,[],[],[]⟩ rfl rfl rfl
theorem qCc {g:EF kW}{s:St}{e:Int} : ∃ r:Rs,kW.fs g [.t (stA s),.t (.int .i64 e)] []=some (.tup [.t (stA s),.t (rsA r)],[]):=by
 obtain⟨t,r,rfl,h⟩:=jKn (g:=g) (s:=s) (e:=e);exact⟨r,h⟩
theorem zCn {g1}(h1:LkE tab 108 kW g1)(s t:St)(e:Int) :
  qC0.1.wp tab gl (qE 0 [.t (stA s),.t (stA t),.t (.int .i64 e)]) (qE 0 []) (qX [(6,(some (30,true))),(7,(some (4,true)))] 0 (qB4.K (s,t,e))):=by
 obtain⟨r,e1⟩:=qCc (g:=g1) (s:=s) (e:=e);simp only[stA,rsA] at e1;by_cases c:e=0
 ·subst c;simp(disch:=omega)only[go_sem,qC0,stA];exact jJ1 t ⟨0,[],[],[]⟩ ⟨fun _=>rfl,fun h=>absurd rfl h⟩ rfl rfl
 ·simp(disch:=omega)only[go_sem,qC0,stA,h1,e1,c];exact jJ1 s r ⟨fun h=>absurd h c,fun _=>rfl⟩ rfl rfl
theorem zCm  (s:St) :
  qCz.1.wp tab gl (qE 0 [.t (stA s)]) (qE 0 []) (qX [(2,(some (30,true))),(3,(some (4,true)))] 0 (qNg.K s)):=by
 obtain⟨sf,hsf⟩ : ∃ b,s.safe=b:=⟨_,rfl⟩;cases sf
 ·simp(disch:=omega)only[go_sem,qCz,stA,hsf];repeat refine aiG ?_
  exact jHi s ⟨0,[s.clk,s.a.res,s.a.rst,0],[],[]⟩ rfl (by simp only[stA,hsf];rfl) rfl
 ·simp(disch:=omega)only[go_sem,qCz,stA,hsf];repeat refine aiG ?_
  exact jHi s ⟨0,[s.clk,s.a.res,s.a.rst,1],[],[]⟩ rfl (by simp only[stA,hsf];rfl) rfl
theorem qXg {g1}(h1:LkE tab 198 qOu g1){g2}(h2:LkE tab 199 qNj g2){g3}(h3:LkE tab 200 qOe g3){g4}(h4:LkE tab 201 qNp g4){g5}(h5:LkE tab 202 qPc g5){g6}(h6:LkE tab 203 qO2 g6){g7}(h7:LkE tab 204 qOx g7)(s:St)(q:Rq)(hp:(s.Ok∧s.cn 1000000)∧q.Ok∧q.Al s∧(q.co=9∨q.co=10∨q.co=11∨q.co=12∨q.co=13∨q.co=14∨q.co=15)) :
  jR.1.wp tab gl (qE 0 [.t (stA s),.t (rqA q)]) (qE 0 []) (qX [(4,(some (30,true))),(5,(some (4,true)))] 0 (qOl.K (s,q))):=by
 obtain⟨hs,hq,al,hco⟩:=hp;obtain⟨co,hh,au,ns,bl⟩:=q;simp only at hco;rcases hco with rfl | rfl | rfl | rfl | rfl | rfl | rfl
 ·obtain⟨t,r,hg,e⟩:=jJ6 (g:=g1) (s:=s) (q:=⟨9,hh,au,ns,bl⟩) ⟨hs,hq,al,rfl⟩;simp only[stA,rqA,rsA] at e;simp(disch:=omega)only[go_sem,jR,stA,rqA,h1,e];exact zH4 t r hg rfl rfl
 ·obtain⟨t,r,hg,e⟩:=jHm (g:=g2) (s:=s) (q:=⟨10,hh,au,ns,bl⟩) ⟨hs,hq,al,rfl⟩;simp only[stA,rqA,rsA] at e;simp(disch:=omega)only[go_sem,jR,stA,rqA,h2,e];exact zH4 t r hg rfl rfl
 ·obtain⟨t,r,hg,e⟩:=jJf (g:=g3) (s:=s) (q:=⟨11,hh,au,ns,bl⟩) ⟨hs,hq,al,rfl⟩;simp only[stA,rqA,rsA] at e;simp(disch:=omega)only[go_sem,jR,stA,rqA,h3,e];exact zH4 t r hg rfl rfl
 ·obtain⟨t,r,hg,e⟩:=jHz (g:=g4) (s:=s) (q:=⟨12,hh,au,ns,bl⟩) ⟨hs,hq,rfl⟩;simp only[stA,rqA,rsA] at e;simp(disch:=omega)only[go_sem,jR,stA,rqA,h4,e];exact zH4 t r hg rfl rfl
 ·obtain⟨t,r,hg,e⟩:=jL3 (g:=g5) (s:=s) (q:=⟨13,hh,au,ns,bl⟩) ⟨hs,hq,al,rfl⟩;simp only[stA,rqA,rsA] at e;simp(disch:=omega)only[go_sem,jR,stA,rqA,h5,e];exact zH4 t r hg rfl rfl
 ·obtain⟨t,r,hg,e⟩:=jK9 (g:=g6) (s:=s) (q:=⟨14,hh,au,ns,bl⟩) ⟨hs,hq,al,rfl⟩;simp only[stA,rqA,rsA] at e;simp(disch:=omega)only[go_sem,jR,stA,rqA,h6,e];exact zH4 t r hg rfl rfl
 ·obtain⟨t,r,hg,e⟩:=jJ9 (g:=g7) (s:=s) (q:=⟨15,hh,au,ns,bl⟩) ⟨hs,hq,al,rfl⟩;simp only[stA,rqA,rsA] at e;simp(disch:=omega)only[go_sem,jR,stA,rqA,h7,e];exact zH4 t r hg rfl rfl
def St.iset (s:St)(l:List Ix):St := { s with a := { s.a with ix:=l } }
theorem St.iset_go {s:St}(h:s.Ok){l:List Ix}(h1:l.length≤6)(h2 : ∀ x∈l,x.Ok):s.Go 0 (s.iset l):=⟨{ h with a := { h.a with ix:=⟨h1,h2⟩ } },fun m hm=>by rw[Int.add_zero];exact hm⟩
theorem qYy {g1}(h1:LkE tab 210 qN0 g1){g2}(h2:LkE tab 108 kW g2){g3}(h3:LkE tab 144 kD g3)(s:St)(q:Rq)(hp:(s.Ok∧s.cn 1000000)∧q.Ok∧q.co=21) :
  wM.1.wp tab gl (qE 0 [.t (stA s),.t (rqA q)]) (qE 0 []) (qX [(4,(some (30,true))),(5,(some (4,true)))] 0 (qNk.K (s,q))):=by
 obtain⟨⟨hs,hc⟩,hq,rfl'⟩:=hp;obtain⟨_,q2,_,q4,q5⟩:=hq;obtain⟨co,hh,au,ns,bl⟩:=q;simp only at rfl' q2 q4 q5;subst rfl';rw[show qG6 21=(1,1,4,2) from rfl] at q2 q4 q5;obtain⟨n0,n1',n2',n3',rfl⟩:=jVw q4.1;obtain⟨b0,b1,rfl⟩:=jC3 (l:=bl) (by rcases q5.1 with h | h;exact h;exact absurd h.1 (by decide));have hb0:=q5.2 b0 sM;have hb1:=q5.2 b1 sM;have l1:=hs.a.ix;obtain⟨x,e,hok,e1⟩:=jIv (g:=g1) (n:=n0) (k:=n1') (r:=n2') (z:=n3') (au:=b0) (po:=b1) ⟨oM,oM⟩;obtain⟨ra,ea⟩:=qCc (g:=g2) (s:=s) (e:=e);obtain⟨rb,eb⟩:=qCc (g:=g2) (s:=s) (e:=21);obtain⟨rc,ec⟩:=qCc (g:=g2) (s:=s) (e:=25);have hG : ∀ {k:Int},0≤k→s.Go k s:=fun hk=>St.go_rfl hs hk
 have hz:qRz 8 (List.map ixA s.a.ix)=true:=zIx;by_cases c:e=0
 rotate_left
 ·simp only[stA,rsA,ixA] at e1 ea;simp(maxSteps:=9^9)(disch:=try exact dS)only[go_sem,wM,stA,rqA,mcn,iT,bsT,h1,h2,e1,ea,c];repeat refine aiG ?_
  exact zUz s ra (hG oM) rfl rfl
 have hx:=hok c;subst c;have e3:=qHh (g:=g3) (s:=s) (h:=256+x.n) ⟨l1.1,fun x hx=>(l1.2 x hx).1⟩;have hxn:=hx.1;rcases @zEd s.a.ix (256+x.n) 0 with r1 | ⟨r1,r2⟩
 ·rw[r1] at e3;by_cases c2:6≤s.a.ix.length
  ·simp only[stA,rsA,ixA] at e1 e3 ec;simp(maxSteps:=9^9)(disch:=try exact dS)only[go_sem,wM,stA,rqA,mcn,iT,bsT,h1,h2,h3,e1,e3,ec,c2];repeat refine aiG ?_
   exact zUz s rc (hG oM) rfl rfl
  ·have hgo:=St.iset_go hs (l:=s.a.ix++[x]) soM (by
    intro z hz;simp only[List.mem_append,List.mem_cons,List.not_mem_nil,or_false] at hz;rcases hz with hz | rfl
    ·exact l1.2 z hz
    ·exact hx)
   simp only[stA,rsA,ixA] at e1 e3;simp(maxSteps:=9^9)(disch:=try exact dS)only[go_sem,wM,stA,rqA,mcn,iT,bsT,h1,h3,e1,e3,c2,hz];repeat refine aiG ?_
   exact zUz (s.iset (s.a.ix++[x])) ⟨0,[],[],[]⟩ (hgo.le oM) (by rw[List.take_of_length_le sM];simp only[stA,rsA,St.iset,List.map_append,mcn,ixA]) rfl
 ·generalize ixP s.a.ix (256+x.n) 0=j at *;simp only[stA,rsA,ixA] at e1 e3 eb;simp(maxSteps:=9^9)(disch:=try exact dS)only[go_sem,wM,stA,rqA,mcn,iT,bsT,h1,h2,h3,e1,e3,eb,r1];repeat refine aiG ?_
  exact zUz s rb (hG oM) rfl rfl
theorem qXh  (l:List Int)(n:Int)(hp:l.length≤1000000) :
  qDh.1.wp tab gl (qE 0 [.t (.sl (l.map iT)),.t (.int .i64 n)]) (qE 0 []) (qX [(4,none)] 0 (qPh.K (l,n))):=by
 simp(disch:=omega)only[go_sem,qDh];refine zD (σ:=Nat×List Int) (fun t=>t.1≤l.length∧t.2.length≤t.1) (fun t=>l.length-t.1) (fun t=>[(0,.t (.sl (l.map iT))),(1,.t (.int .i64 n)),(5,.sl 9000 0 t.2.length),(6,.t (.int .i64 t.1))]) (fun t=>[(9000,.live 1 ((t.2.map iT).map V.t) true false)]) (0,[]) ⟨sM,sM⟩ (qI.cv0 (hv:=[(9000,.live 1 [] true false)]) (ho:=[]) id ?_ ?_ rfl rfl) ?_
 ·simp(disch:=omega)only[go_sem,id]
 ·simp(disch:=omega)only[go_sem,id];all_goals rfl
 rintro⟨k,r⟩ ⟨hk,hr⟩;simp only at hk hr;by_cases hlt:k<l.length
 ·obtain⟨x,hg,hm,_⟩:=qN hlt;by_cases c:x=n
  ·subst c;simp(disch:=omega)only[go_sem,hlt,hg,oms,iT];refine qDd.of (k+1,r) ⟨by simp only;omega,by simp only;omega⟩ (by simp only;omega) (qI.rd id ?_ ?_ rfl)
   ·simp(disch:=omega)only[go_sem,id]
   ·simp(disch:=omega)only[go_sem,id]
  ·simp(disch:=omega)only[go_sem,hlt,hg,oms,iT,c];refine qDd.of (k+1,r++[x]) ⟨by simp only;omega,soM⟩ (by simp only;omega) (qI.rd (fun j=>if j=9000 then 28768 else j) ?_ ?_ rfl)
   ·simp(disch:=omega)only[go_sem,id,List.length_append,List.length_cons,List.length_nil]
   ·have e:List.map iT (r++[x])=List.map iT r++[T.int .i64 x]:=by simp[iT]
    simp(disch:=omega)only[go_sem,id,e]
 ·simp(disch:=omega)only[go_sem,hlt];exact jQ1 r oM rfl rfl
theorem jXq {l:List Int}:qRz 1 (l.map iT)=true:=by simp only[qRz,List.all_map,List.all_eq_true];intro x _;rfl
theorem zF2 {g1}(h1:LkE tab 213 qIs g1)(l:List Int)(n:Int)(hp:l.length≤1000000) :
  qD3.1.wp tab gl (qE 0 [.t (.sl (l.map iT)),.t (.int .i64 n)]) (qE 0 []) (qX [(4,none)] 0 (qPg.K (l,n))):=by
 obtain⟨v,_,e⟩:=zKu (g:=g1) (l:=l) (n:=n) hp;cases v
 ·simp(disch:=omega)only[go_sem,qD3,h1,e,jXq];exact jM8 (l++[n]) sM (by rw[List.take_of_length_le sM];simp[iT]) rfl
 ·simp(disch:=omega)only[go_sem,qD3,h1,e];exact jM8 l oM rfl rfl
end Go.Eng
end
