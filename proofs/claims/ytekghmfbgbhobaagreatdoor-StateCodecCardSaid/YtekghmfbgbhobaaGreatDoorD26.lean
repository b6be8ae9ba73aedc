/- A part of an abstract machine, its walks, their tie. -/
import Derived.Test.YtekghmfbgbhobaaGreatDoorD16
import Derived.Test.YtekghmfbgbhobaaGreatDoorD21
import Derived.Test.YtekghmfbgbhobaaGreatDoorD25
set_option linter.all false
section
set_option maxHeartbeats 64000000
set_option maxRecDepth 20000
namespace Go.Eng
variable (tab:Tab) (gl:Gl)
theorem zC2 (h1:LkC tab 74 yE)(h2:LkC tab 42 yT)(h3:LkC tab 231 qA5)(bk:List zB)(u s0 s1:Int)(hv:RV bk) :
  qGq.1.wp tab gl (qE 0 [.t (jN bk u),.t (.agg [.int .i64 s0,.int .i64 s1])]) (qE 0 []) (xS [] [(4,none),(5,none)] 0 (fun r o=>r=zTu bk s0 s1∧o=zTt bk s0 s1)):=by
 have hm:=hv.rm;simp(disch:=omega)only[go_sem,qGq];by_cases b0:zUa s0
 ·have hE:zKl bk s0 s1=1:=by unfold zKl;rw[if_pos (.inl b0)]
  rw[zTu,zTt,hE];unfold zUa at b0;refine qM 1 ?_;by_cases c0:s0<0
  ·simp(disch:=omega)only[go_sem,qG,c0]
  ·simp(disch:=omega)only[go_sem,qG,c0]
 have hb0 : ¬ s0<0 ∧ ¬ 65535<s0:=by unfold zUa at b0;omega
 obtain⟨c0,d0⟩:=hb0;by_cases b1:zUa s1
 ·have hE:zKl bk s0 s1=1:=by unfold zKl;rw[if_pos (.inr b1)]
  rw[zTu,zTt,hE];unfold zUa at b1;refine qM 2 ?_;by_cases c1:s1<0
  ·simp(disch:=omega)only[go_sem,qG,c0,d0,c1]
  ·simp(disch:=omega)only[go_sem,qG,c0,d0,c1]
 have hb1 : ¬ s1<0 ∧ ¬ 65535<s1:=by unfold zUa at b1;omega
 obtain⟨c1,d1⟩:=hb1;refine qM 3 ?_;simp(disch:=omega)only[go_sem,qG,c0,d0,c1,d1];refine qSe 2 (PD (s0=0∨onB bk 0=true) (s1=0∨onB bk 1=true)) (fun k=>match k with | 0=>[(2,.ref 4096 0 0),(3,.ref 4112 0 0),(7,.sl 9100 0 (List.length ([]:List UInt8))),(8,.t (.int .i64 0))] | 1=>[(2,.ref 4096 0 0),(3,.ref 4112 0 0),(7,.sl 9100 0 (List.length (qMm bk 0 s0 16))),(8,.t (.int .i64 1))] | _=>[(2,.ref 4096 0 0),(3,.ref 4112 0 0),(7,.sl 9100 0 (List.length (qMm bk 0 s0 16++qMm bk 1 s1 16))),(8,.t (.int .i64 2))]) (fun k=>match k with | 0=>[(9100,.live 1 ((([]:List UInt8).map qA).map V.t) true false),(4112,.live 1 [.t (.int .i64 s0),.t (.int .i64 s1)] true true),(4096,.live 2 [.t (jN bk u)] true true)] | 1=>[(9100,.live 1 (((qMm bk 0 s0 16).map qA).map V.t) true false),(4112,.live 1 [.t (.int .i64 s0),.t (.int .i64 s1)] true true),(4096,.live 2 [.t (jN bk u)] true true)] | _=>[(9100,.live 1 (((qMm bk 0 s0 16++qMm bk 1 s1 16).map qA).map V.t) true false),(4112,.live 1 [.t (.int .i64 s0),.t (.int .i64 s1)] true true),(4096,.live 2 [.t (jN bk u)] true true)]) ⟨fun h=>absurd h oM,fun h=>absurd h oM⟩ ?_ (fun k hk hP=>?_)
 ·refine qI.cv0 (hv:=[(9100,.live 1 [] true false)]) (ho:=[(4112,.live 1 [.t (.int .i64 s0),.t (.int .i64 s1)] true true),(4096,.live 2 [.t (jN bk u)] true true)]) id ?_ ?_ rfl rfl;all_goals simp(disch:=omega)only[go_sem,id,mcn,List.length_nil]
 ·rcases (show k=0∨k=1∨k=2 by omega) with rfl | rfl | rfl
  ·by_cases z:s0=0
   ·have zz:(s0==0)=true:=by simpa using z
    simp(disch:=omega)only[go_sem,zz];refine qD 16 (fun i=>[(2,.ref 4096 0 0),(3,.ref 4112 0 0),(7,.sl 9100 0 (List.length (qMm bk 0 s0 i))),(8,.t (.int .i64 0)),(9,.t (.int .i64 (i:Nat)))]) (fun i=>[(9100,.live 1 (((qMm bk 0 s0 i).map qA).map V.t) true false),(4112,.live 1 [.t (.int .i64 s0),.t (.int .i64 s1)] true true),(4096,.live 2 [.t (jN bk u)] true true)]) ?_ (fun i hi=>?_)
    ·refine qI.rd id ?_ ?_ rfl;all_goals simp(disch:=omega)only[go_sem,id,zLi,List.append_nil]
    ·have l0:=qFp hv 0 s0 16;have l1:=qFp hv 0 s0 i;by_cases hlt:i<16
     ·have hsh:s0.fdiv (2^i)=s0/2^i:=Int.fdiv_eq_ediv_of_nonneg _ (Int.le_of_lt (Int.pow_pos (by decide)));have hb : ¬ s0/2^i%2=1:=by rw[z];simp
      simp(disch:=omega)only[go_sem,hsh,hb];refine⟨hlt,qI.rd id ?_ ?_ rfl⟩;all_goals simp(disch:=omega)only[go_sem,id,qUv (bk:=bk) (a:=0) hb]
     ·have e:i=16:=oM;subst e;simp(disch:=omega)only[go_sem];refine⟨⟨fun _=> .inl z,fun h=>absurd h oM⟩,qI.rd id ?_ ?_ rfl⟩;all_goals simp(disch:=omega)only[go_sem,id]
   ·have zz:(s0==0)=false:=by simpa using z
    have c0:=qEx (u:=u) (a:=0) hv.1 oM;rw[show ((0:Nat):Int)=0 from rfl] at c0;cases ho:onB bk 0
    ·rw[ho] at c0;have hE:zKl bk s0 s1=27:=by
      unfold zKl;rw[if_neg (by rintro (h | h);exact b0 h;exact b1 h),if_pos (.inl ⟨z,ho⟩)]
     rw[zTu,zTt,hE];simp(disch:=omega)only[go_sem,zz,h1,c0]
    ·rw[ho] at c0;have hbl:=hv.1.len ho;have hbn:List.length (bk.getD 0 [])=16:=by simpa [onB] using ho
     simp(disch:=omega)only[go_sem,zz,h1,c0];refine qD 16 (fun i=>[(2,.ref 4096 0 0),(3,.ref 4112 0 0),(7,.sl 9100 0 (List.length (qMm bk 0 s0 i))),(8,.t (.int .i64 0)),(9,.t (.int .i64 (i:Nat)))]) (fun i=>[(9100,.live 1 (((qMm bk 0 s0 i).map qA).map V.t) true false),(4112,.live 1 [.t (.int .i64 s0),.t (.int .i64 s1)] true true),(4096,.live 2 [.t (jN bk u)] true true)]) ?_ (fun i hi=>?_)
     ·refine qI.rd id ?_ ?_ rfl;all_goals simp(disch:=omega)only[go_sem,id,zLi,List.append_nil]
     ·have l0:=qFp hv 0 s0 16;have l1:=qFp hv 0 s0 i;by_cases hlt:i<16
      ·have hsh:s0.fdiv (2^i)=s0/2^i:=Int.fdiv_eq_ediv_of_nonneg _ (Int.le_of_lt (Int.pow_pos (by decide)));by_cases hb:s0/2^i%2=1
       ·have hvl:=hm.val 0 i;have hx:(bk.getD 0 []).getD i []=zNs bk 0 i:=rfl;simp(disch:=omega)only[go_sem,hsh,hb,hx];refine⟨hlt,qI.rd (fun j=>if j=9100 then 69776 else j) ?_ ?_ rfl⟩;all_goals simp(disch:=omega)only[go_sem,zLh (bk:=bk) (a:=0) hb,List.append_assoc]
        all_goals try omega
       ·simp(disch:=omega)only[go_sem,hsh,hb];refine⟨hlt,qI.rd id ?_ ?_ rfl⟩;all_goals simp(disch:=omega)only[go_sem,id,qUv (bk:=bk) (a:=0) hb]
      ·have e:i=16:=oM;subst e;simp(disch:=omega)only[go_sem];refine⟨⟨fun _=>(by first | exact .inr ho | trivial),fun h=>absurd h oM⟩,qI.rd id ?_ ?_ rfl⟩;all_goals simp(disch:=omega)only[go_sem,id]
  ·by_cases z:s1=0
   ·have zz:(s1==0)=true:=by simpa using z
    simp(disch:=omega)only[go_sem,zz];refine qD 16 (fun i=>[(2,.ref 4096 0 0),(3,.ref 4112 0 0),(7,.sl 9100 0 (List.length (qMm bk 0 s0 16++qMm bk 1 s1 i))),(8,.t (.int .i64 1)),(9,.t (.int .i64 (i:Nat)))]) (fun i=>[(9100,.live 1 (((qMm bk 0 s0 16++qMm bk 1 s1 i).map qA).map V.t) true false),(4112,.live 1 [.t (.int .i64 s0),.t (.int .i64 s1)] true true),(4096,.live 2 [.t (jN bk u)] true true)]) ?_ (fun i hi=>?_)
    ·refine qI.rd id ?_ ?_ rfl;all_goals simp(disch:=omega)only[go_sem,id,zLi,List.append_nil]
    ·have l0:=qFp hv 0 s0 16;have l1:=qFp hv 1 s1 i;by_cases hlt:i<16
     ·have hsh:s1.fdiv (2^i)=s1/2^i:=Int.fdiv_eq_ediv_of_nonneg _ (Int.le_of_lt (Int.pow_pos (by decide)));have hb : ¬ s1/2^i%2=1:=by rw[z];simp
      simp(disch:=omega)only[go_sem,hsh,hb];refine⟨hlt,qI.rd id ?_ ?_ rfl⟩;all_goals simp(disch:=omega)only[go_sem,id,qUv (bk:=bk) (a:=1) hb]
     ·have e:i=16:=oM;subst e;simp(disch:=omega)only[go_sem];refine⟨⟨fun _=>hP.1 oM,fun _=> .inl z⟩,qI.rd id ?_ ?_ rfl⟩;all_goals simp(disch:=omega)only[go_sem,id]
   ·have zz:(s1==0)=false:=by simpa using z
    have c1:=qEx (u:=u) (a:=1) hv.1 oM;rw[show ((1:Nat):Int)=1 from rfl] at c1;cases ho:onB bk 1
    ·rw[ho] at c1;have hE:zKl bk s0 s1=27:=by
      unfold zKl;rw[if_neg (by rintro (h | h);exact b0 h;exact b1 h),if_pos (.inr ⟨z,ho⟩)]
     rw[zTu,zTt,hE];simp(disch:=omega)only[go_sem,zz,h1,c1]
    ·rw[ho] at c1;have hbl:=hv.1.len ho;have hbn:List.length (bk.getD 1 [])=16:=by simpa [onB] using ho
     simp(disch:=omega)only[go_sem,zz,h1,c1];refine qD 16 (fun i=>[(2,.ref 4096 0 0),(3,.ref 4112 0 0),(7,.sl 9100 0 (List.length (qMm bk 0 s0 16++qMm bk 1 s1 i))),(8,.t (.int .i64 1)),(9,.t (.int .i64 (i:Nat)))]) (fun i=>[(9100,.live 1 (((qMm bk 0 s0 16++qMm bk 1 s1 i).map qA).map V.t) true false),(4112,.live 1 [.t (.int .i64 s0),.t (.int .i64 s1)] true true),(4096,.live 2 [.t (jN bk u)] true true)]) ?_ (fun i hi=>?_)
     ·refine qI.rd id ?_ ?_ rfl;all_goals simp(disch:=omega)only[go_sem,id,zLi,List.append_nil]
     ·have l0:=qFp hv 0 s0 16;have l1:=qFp hv 1 s1 i;by_cases hlt:i<16
      ·have hsh:s1.fdiv (2^i)=s1/2^i:=Int.fdiv_eq_ediv_of_nonneg _ (Int.le_of_lt (Int.pow_pos (by decide)));by_cases hb:s1/2^i%2=1
       ·have hvl:=hm.val 1 i;have hx:(bk.getD 1 []).getD i []=zNs bk 1 i:=rfl;simp(disch:=omega)only[go_sem,hsh,hb,hx];refine⟨hlt,qI.rd (fun j=>if j=9100 then 69776 else j) ?_ ?_ rfl⟩;all_goals simp(disch:=omega)only[go_sem,zLh (bk:=bk) (a:=1) hb,List.append_assoc]
        all_goals try omega
       ·simp(disch:=omega)only[go_sem,hsh,hb];refine⟨hlt,qI.rd id ?_ ?_ rfl⟩;all_goals simp(disch:=omega)only[go_sem,id,qUv (bk:=bk) (a:=1) hb]
      ·have e:i=16:=oM;subst e;simp(disch:=omega)only[go_sem];refine⟨⟨fun _=>hP.1 oM,fun _=>(by first | exact .inr ho | trivial)⟩,qI.rd id ?_ ?_ rfl⟩;all_goals simp(disch:=omega)only[go_sem,id]
  ·have l0:=qFp hv 0 s0 16;have l1:=qFp hv 1 s1 16;have p0:=hP.1 oM;have p1:=hP.2 oM;have hE:zKl bk s0 s1=0:=by
    unfold zKl;rw[if_neg (by rintro (h | h);exact b0 h;exact b1 h),if_neg];rintro (⟨h1,h2⟩ | ⟨h1,h2⟩)
    ·rcases p0 with h | h
     ·exact h1 h
     ·rw[h] at h2;cases h2
    ·rcases p1 with h | h
     ·exact h1 h
     ·rw[h] at h2;cases h2
   have hv2:(jAy bk s0 s1).length≤2048:=by unfold jAy;rw[List.length_append];omega
   have hh2:(zHu s0 s1).length=4:=by unfold zHu;rw[List.length_append,qA2,qA2]
   have hvs:qMm bk 0 s0 16++qMm bk 1 s1 16=jAy bk s0 s1:=rfl;rw[zTu,zTt,if_pos hE,if_pos hE];have hf:(yB 5 [zHu s0 s1,jAy bk s0 s1]).length<1000000000:=by
    simp only[yB,List.flatMap_cons,List.flatMap_nil,List.length_cons,List.length_append,List.length_nil,zAh];omega
   have hq:=zU8 hf;have hhs:beI 2 s0 2++beI 2 s1 2=zHu s0 s1:=rfl;have t2:List.take 2 (beI 2 s0 2)=beI 2 s0 2:=List.take_of_length_le (by rw[qA2];exact Nat.le_refl _);have t4:List.take 4 (zHu s0 s1)=zHu s0 s1:=List.take_of_length_le (by rw[hh2];exact Nat.le_refl _);have hu:=zNm (b:=[]) (n:=s0) (by decide);simp only[List.map_nil,List.length_nil,List.nil_append] at hu;have hu2:=zNm (b:=beI 2 s0 2) (n:=s1) (by rw[qA2];omega);rw[qA2,hhs] at hu2;have tv:List.take (jAy bk s0 s1).length (jAy bk s0 s1)=jAy bk s0 s1:=List.take_of_length_le (Nat.le_refl _);simp(disch:=omega)only[go_sem,hvs,h2,h3,hu,hu2,hq,tv,t2,t4,hh2,qA2];all_goals try rfl
theorem zVu (n:Nat):n &&& 2=n/2%2*2:=by
 have h1:(n &&& 2)/2=n/2%2:=by
  rw[Nat.and_div_two];exact Nat.and_one_is_mod _
 have h2:(n &&& 2)%2=0:=by
  have:=Nat.and_mod_two_pow (a:=n) (b:=2) (n:=1);simpa using this
 omega
theorem jVv {x:Int}:zAj .and .i64 x .i64 2=some (.int .i64 (x/2%2*2)):=by
 have h2:((BitVec.ofInt 64 x &&& BitVec.ofInt 64 2).toNat:Int)=x/2%2*2:=by
  rw[BitVec.toNat_and,BitVec.toNat_ofInt];have e2:(BitVec.ofInt 64 2).toNat=2:=by decide
  rw[e2,zVu];have e3:((2^64:Nat):Int)=18446744073709551616:=by decide
  rw[e3];omega
 change some (T.int IntKind.i64 (IntKind.i64.wrap ((BitVec.ofInt 64 x &&& BitVec.ofInt 64 2).toNat:Int)))=_;rw[h2,qBa oM]
attribute [go_sem ↓] jVv
def qM0:Ct where
 α:=List zB×Int×Int×Int
 aS x:=[.t (jN x.1 x.2.1),.t (.agg [.int .i64 x.2.2.1,.int .i64 x.2.2.2])]
 ins _:=[]
 pre x:=RV x.1
 r x:=zTu x.1 x.2.2.1 x.2.2.2
 outs x:=zTt x.1 x.2.2.1 x.2.2.2
 inj:=by
  rintro⟨a,u,l,i⟩ ⟨b,v,l',i'⟩ h _;simp only[List.cons.injEq,V.t.injEq,T.int.injEq,T.agg.injEq,true_and,and_true] at h;obtain⟨h1,rfl,rfl⟩:=h;obtain⟨rfl,rfl⟩:=qB8 h1;exact⟨rfl,rfl⟩
theorem Ses.ok0:zSh.Ok:=by refine⟨?_,?_,?_,?_,?_⟩<;>simp[zSh]
theorem jXn {l:List Ses}:qRu 8 (l.map jL)=true:=by simp only[qRu,List.all_map,List.all_eq_true];intro x _;rfl
theorem zIx {l:List Ix}:qRu 8 (l.map ixA)=true:=by simp only[qRu,List.all_map,List.all_eq_true];intro x _;rfl
theorem jXm {l:List Obj}:qRu 9 (l.map wI)=true:=by simp only[qRu,List.all_map,List.all_eq_true];intro x _;rfl
theorem zLv {l:List Lv}:qRu 2 (l.map lvA)=true:=by simp only[qRu,List.all_map,List.all_eq_true];intro x _;rfl
theorem zPd {bk:List zB}{u s0 s1:Int}(h:RV bk):(∃ e:Int,e≠0∧qM0.fs [.t (.agg [.sl (bk.map yS),.int .i64 u]),.t (.agg [.int .i64 s0,.int .i64 s1])] []=some (.tup [.nil,.t (.int .i64 e)],[]))∨
  ∃ y:List UInt8,y.length=32∧qM0.fs [.t (.agg [.sl (bk.map yS),.int .i64 u]),.t (.agg [.int .i64 s0,.int .i64 s1])] []=some (.tup [.sl 0 0 32,.t (.int .i64 0)],[.live 1 ((y.map qA).map V.t) true false]):=by
 have he:qM0.fs [.t (.agg [.sl (bk.map yS),.int .i64 u]),.t (.agg [.int .i64 s0,.int .i64 s1])] []=some (zTu bk s0 s1,zTt bk s0 s1):=qM0.eq (bk,u,s0,s1) h;by_cases c:zKl bk s0 s1=0
 ·exact .inr ⟨_,qS,he.trans (by rw[zTu,if_pos c,zTt,if_pos c];rfl)⟩
 ·exact .inl ⟨_,c,he.trans (by rw[zTu,if_neg c,zTt,if_neg c])⟩
theorem zQc {t:Nat}{fs:List (List UInt8)}(ht:t<256)(h1:fs.length≤20)(h2 : ∀ x∈fs,x.length≤4000) : ∃ y:List UInt8,y.length≤200000∧qAt.fs [.t (.int .i64 t),.t (.sl (fs.map bsT))] []=some (.sl 0 0 y.length,[.live 1 ((y.map qA).map V.t) true false]):=by
 have hl:=qL3 (t:=t) h2;have:(4+4000)*fs.length≤(4+4000)*20:=Nat.mul_le_mul_left _ h1;exact⟨yB t fs,oM,qQf ⟨ht,oM⟩⟩
theorem qTk {s:St}(h:s.ses.length=3){k:Int}(h0:0≤k)(h2:k≤2) : ∃ x,s.ses[k.toNat]?=some x∧x∈s.ses:=by
 obtain⟨x,hg,hm,_⟩:=qN (l:=s.ses) (k:=k.toNat) oM;exact⟨x,hg,hm⟩
def St.sput (s:St)(k:Int)(x:Ses):St := { s with ses:=s.ses.set k.toNat x }
theorem St.sput_ok {s:St}(h:s.Ok){k:Int}{x:Ses}(hx:x.Ok):(s.sput k x).Ok:=by
 refine { h with ses:=⟨by simp[St.sput,h.ses.1],fun y hy=>?_⟩ };rcases List.mem_or_eq_of_mem_set hy with h1 | rfl
 ·exact h.ses.2 y h1
 ·exact hx
theorem St.sput_go {s:St}(h:s.Ok){k:Int}{x:Ses}(hx:x.Ok):s.Go 0 (s.sput k x):=⟨St.sput_ok h hx,fun m hm=>by rw[Int.add_zero];exact hm⟩
theorem zFm  (s:St)(h:Int)(hp:s.ses.length=3∧tmI h) :
  xV.1.wp tab gl (qE 0 [.t (stA s),.t (.int .i64 h)]) (qE 0 []) (qX [(4,none)] 0 (qIz.K (s,h))):=by
 obtain⟨hp,hh⟩:=hp;by_cases c1:h<768
 ·simp(disch:=omega)only[go_sem,xV,stA,c1];exact zXw (-1) ⟨.inl rfl,by rw[zM6,if_pos (.inl c1)]⟩ rfl rfl
 by_cases c2:3≤h-768
 ·simp(disch:=omega)only[go_sem,xV,stA,c1,c2,hp];exact zXw (-1) ⟨.inl rfl,by rw[zM6,if_pos (.inr c2)]⟩ rfl rfl
 obtain⟨x,hg,hm⟩:=qTk hp (k:=h-768) oM oM;have hd:s.ses.getD (h-768).toNat zSh=x:=by rw[List.getD_eq_getElem?_getD,hg];rfl
 have hn : ¬ (h<768∨3≤h-768):=oM;by_cases c3:x.kd=0
 ·simp(disch:=omega)only[go_sem,xV,stA,c1,c2,hp,hg,c3,oms,jL];exact zXw (-1) ⟨.inl rfl,by rw[zM6,if_neg hn,hd,if_pos c3]⟩ rfl rfl
 ·simp(disch:=omega)only[go_sem,xV,stA,c1,c2,hp,hg,c3,oms,jL];exact zXw (h-768) ⟨.inr oM,by rw[zM6,if_neg hn,hd,if_neg c3]⟩ rfl rfl
theorem zIt  (s:St)(k:Int)(x:Ses)(hp:s.ses.length=3∧0≤k∧k≤2) :
  qJx.1.wp tab gl (qE 0 [.t (stA s),.t (.int .i64 k),.t (jL x)]) (qE 0 []) (qX [(6,(some (30,true)))] 0 (qB2.K (s,k,x))):=by
 obtain⟨q1,q2,q3⟩:=hp;obtain⟨y,hg,hm⟩:=qTk q1 q2 q3;simp(maxSteps:=9^9)(disch:=try exact dS)only[go_sem,qJx,stA,jL,q1,q2,q3,jXn,hg,oms];exact jPa (by rw[List.take_of_length_le (by simp[q1])];simp only[stA,List.map_set,jL]) rfl
theorem zFk {g1}(h1:LkE tab 182 qIz g1)(s:St)(h:Int)(hp:s.Ok∧tmI h) :
  qDx.1.wp tab gl (qE 0 [.t (stA s),.t (.int .i64 h)]) (qE 0 []) (qX [(4,(some (8,true))),(5,none)] 0 (qCo.K (s,h))):=by
 obtain⟨k,⟨hk,hq⟩,e⟩:=zSy (g:=g1) (h:=h) ⟨hp.1.ses.1,hp.2⟩;simp only[stA] at e;rcases hk with rfl | ⟨k0,k1,k2⟩
 ·simp(disch:=omega)only[go_sem,qDx,stA,h1,e];exact jHv zSh 8 ⟨Ses.ok0,oM⟩ rfl rfl
 ·obtain⟨x,hg,hm⟩:=qTk hp.1.ses.1 k0 k1;simp(disch:=omega)only[go_sem,qDx,stA,h1,e,k0,hp.1.ses.1,hg,oms,jL];exact jHv x 0 ⟨hp.1.ses.2 x hm,fun _=>⟨oM,oM⟩⟩ rfl rfl
theorem zB5 {g1}(h1:LkE tab 182 qIz g1){g2}(h2:LkE tab 166 qB2 g2)(s:St)(h:Int)(hp:s.Ok∧tmI h) :
  qCv.1.wp tab gl (qE 0 [.t (stA s),.t (.int .i64 h)]) (qE 0 []) (qX [(4,(some (30,true))),(5,none)] 0 (qKr.K (s,h))):=by
 obtain⟨k,⟨hk,hq⟩,e⟩:=zSy (g:=g1) (h:=h) ⟨hp.1.ses.1,hp.2⟩;rcases hk with rfl | ⟨k0,k1,k2⟩
 ·simp only[stA] at e;simp(disch:=omega)only[go_sem,qCv,stA,h1,e];exact jHc default 8 ⟨oM,oM⟩ rfl rfl
 ·have e2:=qZs (g:=g2) (s:=s) (k:=k) (x:=zSh) ⟨hp.1.ses.1,k0,k1⟩;have hS:=St.sput_go hp.1 (k:=k) Ses.ok0;simp only[stA,jL,zSh,List.map_nil] at e e2;simp(disch:=omega)only[go_sem,qCv,stA,h1,e,k0,h2,e2];exact jHc (s.sput k zSh) 0 ⟨fun _=>hS,fun _=>rfl⟩ rfl rfl
theorem qRg {g1}(h1:LkE tab 182 qIz g1)(s:St)(h:Int)(hp:s.ses.length=3∧tmI h) :
  vJ.1.wp tab gl (qE 0 [.t (stA s),.t (.int .i64 h)]) (qE 0 []) (qX [(4,none)] 0 (qIt.K (s,h))):=by
 obtain⟨k,⟨hk,hq⟩,e⟩:=zSy (g:=g1) (h:=h) hp;simp only[stA] at e;rcases hk with rfl | ⟨k0,k1,k2⟩
 ·simp(disch:=omega)only[go_sem,vJ,stA,h1,e];exact jDq (-1) (.inl rfl) rfl rfl
 ·obtain⟨x,hg,hm⟩:=qTk hp.1 k0 k1;by_cases c:x.kd=1
  ·simp(disch:=omega)only[go_sem,vJ,stA,h1,e,k0,hp.1,hg,oms,jL,c];exact jDq (-1) (.inl rfl) rfl rfl
  ·simp(disch:=omega)only[go_sem,vJ,stA,h1,e,k0,hp.1,hg,oms,jL,c];exact jDq k (.inr ⟨k0,k1⟩) rfl rfl
theorem qRh (h1:LkC tab 246 qZj){g2}(h2:LkE tab 249 qIk g2)(a:Asr)(hp:a.B) :
  jV.1.wp tab gl (qE 0 [.t (vN a)]) (qE 0 []) (qX [(2,none)] 0 (qPa.K a)):=by
 obtain⟨x1,_,e1⟩:=zJ2 (g:=g2) hp;obtain⟨x2,_,e2⟩:=zJ2 (g:=g2) (a := { a with dg:=z32 }) ⟨by simp[z32],hp.2⟩;obtain⟨kd,s0,s1,dg,n,op,od,nm,rf,br⟩:=a;simp only[vN] at *;have t1:List.take 32 z32=z32:=rfl;have lz:=qS5;by_cases c1:kd=6
 ·subst c1;simp(disch:=omega)only[go_sem,jV,vN];exact zTk 19 trivial rfl rfl
 by_cases c2:kd=9
 ·subst c2;simp(disch:=omega)only[go_sem,jV,vN];exact zTk 19 trivial rfl rfl
 by_cases c3:kd=1
 ·subst c3;by_cases c4:dg.length=0
  ·simp(disch:=omega)only[go_sem,jV,vN,c4,h1,zRg,h2,e2,t1,lz];repeat refine aiG ?_
   exact zTk _ trivial rfl rfl
  ·simp(disch:=omega)only[go_sem,jV,vN,c4,h2,e1];exact zTk _ trivial rfl rfl
 ·simp(disch:=omega)only[go_sem,jV,vN,c1,c2,c3,h2,e1];exact zTk _ trivial rfl rfl
theorem zIs  (l:List Int)(n:Int)(hp:l.length≤1000000) :
  qJw.1.wp tab gl (qE 0 [.t (.sl (l.map iT)),.t (.int .i64 n)]) (qE 0 []) (qX [(4,none)] 0 (qIn.K (l,n))):=by
 simp(disch:=omega)only[go_sem,qJw];refine zD (σ:=Nat) (fun k=>k≤l.length) (fun k=>l.length-k) (fun k=>[(0,.t (.sl (l.map iT))),(1,.t (.int .i64 n)),(5,.t (.int .i64 k))]) (fun _=>[]) 0 oM (qI.rd id ?_ ?_ rfl) ?_
 ·simp(disch:=omega)only[go_sem,id]
 ·simp(disch:=omega)only[go_sem,id]
 intro k hk;by_cases hlt:k<l.length
 ·obtain⟨x,hg,hm,_⟩:=qN hlt;by_cases c:x=n
  ·subst c;simp(disch:=omega)only[go_sem,hlt,hg,oms,iT];exact jH3 true trivial rfl rfl
  ·simp(disch:=omega)only[go_sem,hlt,hg,oms,iT,c];refine qDa.of (k+1) oM oM (qI.rd id ?_ ?_ rfl);all_goals simp(disch:=omega)only[go_sem,id]
 ·simp(disch:=omega)only[go_sem,hlt];exact jH3 false trivial rfl rfl
theorem qW6  (o a b:Int) :
  qDd.1.wp tab gl (qE 0 [.t (.int .i64 o),.t (.int .i64 a),.t (.int .i64 b)]) (qE 0 []) (qX [(6,none)] 0 (qNd.K (o,a,b))):=by
 simp +contextual(disch:=omega)only[go_sem,qDd,↓qB,↓qC,qU]
 (repeat' (first | apply And.intro | intro _))<;>(try rfl)
 all_goals exact jNz _ trivial rfl rfl
theorem qSs (h1:LkC tab 244 qM0)(h2:LkC tab 20 xM)(s:St)(x:Ses)(a:Asr)(hp:s.Ok∧x.Ok∧a.B) :
  zH.1.wp tab gl (qE 0 [.t (stA s),.t (jL x),.t (vN a)]) (qE 0 []) (qX [(6,(some (8,true))),(7,(some (10,true))),(8,none)] 0 (qOt.K (s,x,a))):=by
 obtain⟨hs,hx,ha⟩:=hp;obtain⟨xk,xn,xd,xu,xl,xc,xt,xv⟩:=x;obtain⟨kd,s0,s1,dg,n,op,od,nm,rf,br⟩:=a;have hrk:=hs.bk.rv;have hy : ∀ (u:Int),Ses.Ok ⟨xk,xn,xd,u,xl,xc,xt,xv⟩:=fun u=>hx
 have hb : ∀ d:List UInt8,d.length=32→Asr.B ⟨kd,s0,s1,d,n,op,od,nm,rf,br⟩:=fun d hd=>⟨by simp only;omega,ha.2⟩
 by_cases k1:xk=2
 ·subst k1;rcases @zPd s.bk s.u s0 s1 hrk with⟨e,he,e1⟩ | ⟨y,hy2,e1⟩
  ·simp +contextual(maxSteps:=9^9)(disch:=try exact dS)only[go_sem,zH,stA,jL,vN,h1,h2,e1,he,↓qB,↓qC,qU];repeat refine aiG ?_
   exact qWi _ _ e ⟨hx,ha⟩ rfl rfl
  ·have e2:=kV (a:=dg) (b:=y) ⟨by have:=ha.1;simp only at this;omega,oM⟩;have ty:List.take 32 y=y:=List.take_of_length_le oM;by_cases c1:dg.length=0
   ·obtain rfl:dg=[]:=List.length_eq_zero_iff.1 c1;by_cases c3:xu = -1
    ·subst c3;simp +contextual(maxSteps:=9^9)(disch:=try exact dS)only[go_sem,zH,stA,jL,vN,h1,h2,e1,ty,hy2,↓qB,↓qC,qU]
     (repeat' (first | apply And.intro | intro _))<;>(try rfl)
     all_goals first | exact qWi ⟨2,xn,xd,_,xl,xc,xt,xv⟩ ⟨kd,s0,s1,y,n,op,od,nm,rf,br⟩ 0 ⟨hy _,hb y hy2⟩ rfl rfl | skip
    ·by_cases c4:xu=s.u
     ·subst c4;simp +contextual(maxSteps:=9^9)(disch:=try exact dS)only[go_sem,zH,stA,jL,vN,h1,h2,e1,ty,hy2,c3,↓qB,↓qC,qU]
      (repeat' (first | apply And.intro | intro _))<;>(try rfl)
      all_goals first | exact qWi ⟨2,xn,xd,_,xl,xc,xt,xv⟩ ⟨kd,s0,s1,y,n,op,od,nm,rf,br⟩ 0 ⟨hy _,hb y hy2⟩ rfl rfl | skip
     ·simp +contextual(maxSteps:=9^9)(disch:=try exact dS)only[go_sem,zH,stA,jL,vN,h1,h2,e1,ty,hy2,c3,c4,↓qB,↓qC,qU]
      (repeat' (first | apply And.intro | intro _))<;>(try rfl)
      all_goals first | exact qWi _ _ 12 ⟨hx,ha⟩ rfl rfl | skip
   ·by_cases c2:dg=y
    ·rw[decide_eq_true c2] at e2;by_cases c3:xu = -1
     ·subst c3;simp +contextual(maxSteps:=9^9)(disch:=try exact dS)only[go_sem,zH,stA,jL,vN,h1,h2,e1,e2,ty,hy2,c1,↓qB,↓qC,qU]
      (repeat' (first | apply And.intro | intro _))<;>(try rfl)
      all_goals first | exact qWi ⟨2,xn,xd,_,xl,xc,xt,xv⟩ ⟨kd,s0,s1,y,n,op,od,nm,rf,br⟩ 0 ⟨hy _,hb y hy2⟩ rfl rfl | skip
     ·by_cases c4:xu=s.u
      ·subst c4;simp +contextual(maxSteps:=9^9)(disch:=try exact dS)only[go_sem,zH,stA,jL,vN,h1,h2,e1,e2,ty,hy2,c1,c3,↓qB,↓qC,qU]
       (repeat' (first | apply And.intro | intro _))<;>(try rfl)
       all_goals first | exact qWi ⟨2,xn,xd,_,xl,xc,xt,xv⟩ ⟨kd,s0,s1,y,n,op,od,nm,rf,br⟩ 0 ⟨hy _,hb y hy2⟩ rfl rfl | skip
      ·simp +contextual(maxSteps:=9^9)(disch:=try exact dS)only[go_sem,zH,stA,jL,vN,h1,h2,e1,e2,ty,hy2,c1,c3,c4,↓qB,↓qC,qU]
       (repeat' (first | apply And.intro | intro _))<;>(try rfl)
       all_goals first | exact qWi _ _ 12 ⟨hx,ha⟩ rfl rfl | skip
    ·rw[decide_eq_false c2] at e2;simp +contextual(maxSteps:=9^9)(disch:=try exact dS)only[go_sem,zH,stA,jL,vN,h1,h2,e1,e2,ty,hy2,c1,↓qB,↓qC,qU]
     (repeat' (first | apply And.intro | intro _))<;>(try rfl)
     all_goals first | exact qWi _ _ 16 ⟨hx,ha⟩ rfl rfl | skip
 ·by_cases c1:dg.length=0
  ·obtain rfl:dg=[]:=List.length_eq_zero_iff.1 c1;rcases @zPd s.bk s.u s0 s1 hrk with⟨e,he,e1⟩ | ⟨y,hy2,e1⟩
   ·simp +contextual(maxSteps:=9^9)(disch:=try exact dS)only[go_sem,zH,stA,jL,vN,h1,h2,e1,he,k1,↓qB,↓qC,qU];repeat refine aiG ?_
    exact qWi _ _ e ⟨hx,ha⟩ rfl rfl
   ·have ty:List.take 32 y=y:=List.take_of_length_le oM;simp +contextual(maxSteps:=9^9)(disch:=try exact dS)only[go_sem,zH,stA,jL,vN,h1,h2,e1,k1,ty,hy2,↓qB,↓qC,qU];repeat refine aiG ?_
    exact qWi ⟨xk,xn,xd,xu,xl,xc,xt,xv⟩ ⟨kd,s0,s1,y,n,op,od,nm,rf,br⟩ 0 ⟨hx,hb y hy2⟩ rfl rfl
  ·simp +contextual(maxSteps:=9^9)(disch:=try exact dS)only[go_sem,zH,stA,jL,vN,h1,h2,k1,c1,↓qB,↓qC,qU];repeat refine aiG ?_
   exact qWi ⟨xk,xn,xd,xu,xl,xc,xt,xv⟩ ⟨kd,s0,s1,dg,n,op,od,nm,rf,br⟩ 0 ⟨hx,ha⟩ rfl rfl
theorem zB6 {g1}(h1:LkE tab 233 qKy g1)(h2:LkC tab 20 xM){g3}(h3:LkE tab 213 qIn g3){g4}(h4:LkE tab 281 qNc g4)(s:St)(a:Asr)(hp:s.Ok∧s.cn 1000000∧a.B) :
  qGh.1.wp tab gl (qE 0 [.t (stA s),.t (vN a)]) (qE 0 []) (qX [(4,none)] 0 (qNr.K (s,a))):=by
 obtain⟨hs,hc,ha⟩:=hp;simp(disch:=omega)only[go_sem,qGh,stA,vN];refine zD (σ:=Nat) (fun k=>k≤s.a.ix.length) (fun k=>s.a.ix.length-k) (fun k=>[(2,.ref 4096 0 0),(3,.ref 4112 0 0),(5,.t (.int .i64 k))]) (fun k=>[(4112,.live 10 [.t (vN a)] true true),(4096,.live 30 [.t (stA s)] true true)]) 0 oM (qI.rd id ?_ ?_ rfl) ?_
 ·simp(disch:=omega)only[go_sem,id,stA,vN]
 ·simp(disch:=omega)only[go_sem,id,stA,vN]
 intro k hk;by_cases hlt:k<s.a.ix.length
 ·obtain⟨x,hg,hm,_⟩:=qN hlt;have hx6:=hs.a.ix.1;have hx:=hs.a.ix.2 x hm;have hx5:=hx.2.2.2.2.1;have hx7:=hx.2.2.2.2.2.2.1;obtain⟨b,hb,e1⟩:=zZp (g:=g1) (x:=x) oM;have e2:=kV (a:=b) (b:=a.nm) ⟨oM,by have:=ha.2.2.1;omega⟩;obtain⟨r,_,e3⟩:=zKp (g:=g3) (l:=s.rl) (n:=x.n) (by have:=hc.2.2.2.2.2.1;omega);obtain⟨v,_,e4⟩:=jHf (g:=g4) (o:=a.op) (a:=x.da) (b:=a.od) ⟨oM,by have:=ha.2.1;omega⟩;generalize decide (b=a.nm)=d at *;simp only[ixA] at e1;simp +contextual(disch:=omega)only[go_sem,stA,vN,hlt,hg,oms,ixA,h1,h2,h3,h4,e1,e2,e3,e4,↓qB,↓qC,qU]
  (repeat' (first | apply And.intro | intro _))<;>(try rfl)
  all_goals first | exact jIl _ trivial rfl rfl | skip
  refine qDa.of (k+1) oM oM (qI.rd id ?_ ?_ rfl);all_goals simp(disch:=omega)only[go_sem,id,stA,vN]
 ·simp(disch:=omega)only[go_sem,stA,vN,hlt];exact jIl 7 trivial rfl rfl
theorem qT3 (h1:LkC tab 231 qA5)(d rf:List UInt8)(hp:d.length≤4000∧rf.length≤4000) :
  qCh.1.wp tab gl (qE 0 [.t (.sl (d.map qA)),.t (.sl (rf.map qA))]) (qE 0 []) (qX [(4,none)] 0 (qKl.K (d,rf))):=by
 obtain⟨z,hz,e⟩:=qQi (t:=9) (fs:=[d,rf]) oM sM (by intro x hx;simp only[List.mem_cons,List.not_mem_nil,or_false] at hx;rcases hx with rfl | rfl;omega;omega);simp only[mcn,bsT] at e;rw[show ((9:Nat):Int)=9 from rfl] at e;simp(disch:=omega)only[go_sem,qCh,h1,e,List.take_length];exact jNl z hz rfl rfl
theorem zFl {g1}(h1:LkE tab 19 qDl g1)(h2:LkC tab 246 qZj){g3}(h3:LkE tab 166 qB2 g3)(s:St)(k:Int)(hp:s.Ok∧s.cn 1000000) :
  qBs.1.wp tab gl (qE 0 [.t (stA s),.t (.int .i64 k)]) (qE 0 []) (qX [(4,(some (30,true))),(5,none),(6,none)] 0 (qOi.K (s,k))):=by
 obtain⟨hs,hc⟩:=hp;have hc5:=hc.2.2.2.2.1;by_cases c1:k<1
 ·simp(maxSteps:=9^9)(disch:=try exact dS)only[go_sem,qBs,stA,c1];exact zV6 default 0 1 oM rfl rfl
 by_cases c2:3<k
 ·simp(maxSteps:=9^9)(disch:=try exact dS)only[go_sem,qBs,stA,c1,c2];exact zV6 default 0 1 oM rfl rfl
 obtain⟨t,b,⟨ht,hb⟩,e1⟩:=zRv (g:=g1) (s:=s) (n:=16) ⟨hs.a.en,⟨hs.dr,oM⟩,oM,oM⟩;have lb:b.length=16:=by rw[hb];exact qD9
 have tz:List.take 32 z32=z32:=rfl;have lz:=qS5;subst ht;simp(maxSteps:=9^9)(disch:=try exact dS)only[go_sem,qBs,stA,c1,c2];refine zD (σ:=Nat) (fun j=>j≤3) (fun j=>3-j) (fun j=>[(1,.t (.int .i64 k)),(2,.ref 4096 0 0),(4,.ref 4112 0 0),(7,.t (.int .i64 j))]) (fun j=>[(4112,.live 30 [.agg [.nil,.nil,.nil,.t (.int .i64 0),.t (.int .i64 0),.t (.int .i64 0),.t (.int .i64 0),.t (.bool false),.nil,.t (.int .i64 0),.t (.int .i64 0),.nil,.t (.int .i64 0),.t (.int .i64 0),.t (.int .i64 0),.t (.int .i64 0),.t (.int .i64 0),.t (.int .i64 0),.nil,.t (.bool false),.t (.bool false),.nil,.t (.int .i64 0),.t (.int .i64 0),.t (.bool false),.t (.int .i64 0),.nil,.nil,.nil,.nil]] true true),(4096,.live 30 [.t (stA s)] true true)]) 0 oM (qI.rd id ?_ ?_ rfl) ?_
 ·simp(maxSteps:=9^9)(disch:=try exact dS)only[go_sem,id,stA]
 ·simp(maxSteps:=9^9)(disch:=try exact dS)only[go_sem,id,stA]
 intro j hj;by_cases hlt:j<3
 ·obtain⟨x,hg,hm⟩:=qTk hs.ses.1 (k:=j) oM oM;rw[Int.toNat_natCast] at hg;by_cases c3:x.kd=0
  ·have e2:=qZs (g:=g3) (s := { s with dr:=s.dr+1 }) (k:=(j:Int)) (x:=⟨k,b,z32,-1,31,0,0,false⟩) ⟨hs.ses.1,oM,oM⟩;have o1:St.Ok { s with dr:=s.dr+1 } := { hs with dr:=by have:=hs.dr;show 0≤s.dr+1;omega };have o2:=St.sput_ok (k:=(j:Int)) (x:=⟨k,b,z32,-1,31,0,0,false⟩) o1 (by simp only[Ses.Ok];omega);simp only[stA,jL] at e1 e2;simp(maxSteps:=9^9)(disch:=try exact dS)only[go_sem,stA,hs.ses.1,hlt,hg,oms,jL,c3,h1,h2,h3,zRg,e1,e2,tz,lz];exact⟨rfl,zV6 (St.sput { s with dr:=s.dr+1 } j ⟨k,b,z32,-1,31,0,0,false⟩) (768+j) 0 (fun _=>⟨⟨o2,fun m hm=>by unfold St.cn at *;simp only[St.sput];omega⟩,oM⟩) rfl rfl⟩
  ·simp(maxSteps:=9^9)(disch:=try exact dS)only[go_sem,stA,hs.ses.1,hlt,hg,oms,jL,c3];refine qDa.of (j+1) oM oM (qI.rd id ?_ ?_ rfl);all_goals simp(maxSteps:=9^9)(disch:=try exact dS)only[go_sem,id,stA]
 ·simp(maxSteps:=9^9)(disch:=try exact dS)only[go_sem,stA,hs.ses.1,hlt];exact zV6 default 0 25 oM rfl rfl
theorem qYh {g1}(h1:LkE tab 248 qIt g1){g2}(h2:LkE tab 249 qIk g2){g3}(h3:LkE tab 250 qGw g3){g4}(h4:LkE tab 166 qB2 g4)(s:St)(h:Int)(nm rf:List UInt8)(n:Int)(hp:s.Ok∧nm.length≤4000∧rf.length≤4000∧tmI h) :
  yI.1.wp tab gl (qE 0 [.t (stA s),.t (.int .i64 h),.t (.sl (nm.map qA)),.t (.sl (rf.map qA)),.t (.int .i64 n)]) (qE 0 []) (qX [(10,(some (30,true))),(11,none)] 0 (qOv.K (s,h,nm,rf,n))):=by
 obtain⟨hs,q1,q2,q3⟩:=hp;obtain⟨k,hk,e1⟩:=zRf (g:=g1) (h:=h) ⟨hs.ses.1,q3⟩;obtain⟨w,_,e2⟩:=zJ2 (g:=g2) (a:=⟨6,0,0,[],0,0,[],nm,rf,[]⟩) ⟨sM,sM,q1,q2,sM,sM⟩;rcases hk with rfl | ⟨k0,k1⟩
 ·simp only[stA] at e1;simp(maxSteps:=9^9)(disch:=try exact dS)only[go_sem,yI,stA,h1,e1];exact qWp default 8 oM rfl rfl
 by_cases c1:n<0
 ·simp only[stA] at e1;simp(maxSteps:=9^9)(disch:=try exact dS)only[go_sem,yI,stA,h1,e1,k0,c1];exact qWp default 1 oM rfl rfl
 by_cases c2:1048576<n
 ·simp only[stA] at e1;simp(maxSteps:=9^9)(disch:=try exact dS)only[go_sem,yI,stA,h1,e1,k0,c1,c2];exact qWp default 1 oM rfl rfl
 obtain⟨x,hg,hm⟩:=qTk hs.ses.1 k0 k1;have hx:=hs.ses.2 x hm;have hck:=hs.clk;obtain⟨y,hy,e3⟩:=zDu (g:=g3) (d:=x.dg) (a:=⟨6,0,0,[],0,0,[],nm,rf,[]⟩) ⟨by have:=hx.2.2.1;omega,sM,sM,q1,q2,sM,sM⟩;have put : ∀ dl:Int,(0≤dl∧dl≤1100000000000000) → ∃ t:St,s.Go 0 t∧qB2.fs g4 [.t (stA s),.t (.int .i64 k),.t (jL { x with dg:=y,dl:=dl })] []=some (.t (stA t),[]):=by
  intro dl hd;exact⟨_,St.sput_go hs (k:=k) (x := { x with dg:=y,dl:=dl }) ⟨hx.1,hx.2.1,hy,hx.2.2.2.1,hd⟩,qZs ⟨hs.ses.1,k0,k1⟩⟩
 obtain⟨t1,g5,f1⟩:=put x.dl hx.2.2.2.2;obtain⟨t2,g6,f2⟩:=put (s.clk+n) oM;simp only[stA,jL,vN,List.map_nil] at e1 e2 e3 f1 f2;by_cases c3:n=0
 ·simp +contextual(maxSteps:=9^9)(disch:=try exact dS)only[go_sem,yI,stA,h1,e1,k0,c1,c2,h2,e2,h3,e3,hg,oms,jL,h4,f1,c3,↓qB,↓qC,qU]
  (repeat' (first | apply And.intro | intro _))<;>(try rfl)
  ·exact qWp default w (fun e=>absurd e ‹_›) rfl rfl
  ·exact qWp t1 0 (fun _=>g5) rfl rfl
 ·obtain⟨xk,xn,xd,xu,xl,xc,xt,xv⟩:=x;simp only at *;by_cases c4:xt=0
  ·subst c4;simp +contextual(maxSteps:=9^9)(disch:=try exact dS)only[go_sem,yI,stA,h1,e1,k0,c1,c2,h2,e2,h3,e3,hg,oms,jL,h4,f2,c3,↓qB,↓qC,qU]
   (repeat' (first | apply And.intro | intro _))<;>(try rfl)
   ·exact qWp default w (fun e=>absurd e ‹_›) rfl rfl
   ·exact qWp t2 0 (fun _=>g6) rfl rfl
  ·by_cases c5:s.clk+n<xt
   ·simp +contextual(maxSteps:=9^9)(disch:=try exact dS)only[go_sem,yI,stA,h1,e1,k0,c1,c2,h2,e2,h3,e3,hg,oms,jL,h4,f2,c3,c4,c5,↓qB,↓qC,qU]
    (repeat' (first | apply And.intro | intro _))<;>(try rfl)
    ·exact qWp default w (fun e=>absurd e ‹_›) rfl rfl
    ·exact qWp t2 0 (fun _=>g6) rfl rfl
   ·simp +contextual(maxSteps:=9^9)(disch:=try exact dS)only[go_sem,yI,stA,h1,e1,k0,c1,c2,h2,e2,h3,e3,hg,oms,jL,h4,f1,c3,c4,c5,↓qB,↓qC,qU]
    (repeat' (first | apply And.intro | intro _))<;>(try rfl)
    ·exact qWp default w (fun e=>absurd e ‹_›) rfl rfl
    ·exact qWp t1 0 (fun _=>g5) rfl rfl
theorem qW5 {g1}(h1:LkE tab 248 qIt g1){g2}(h2:LkE tab 221 qIv g2){g3}(h3:LkE tab 174 qKl g3){g4}(h4:LkE tab 251 qO8 g4){g5}(h5:LkE tab 223 qCp g5){g6}(h6:LkE tab 250 qGw g6){g7}(h7:LkE tab 166 qB2 g7)(s:St)(h:Int)(k:Pu)(rf sg:List UInt8)(hp:s.Ok∧k.Ok∧rf.length≤4000∧sg.length≤4000∧tmI h) :
  vW.1.wp tab gl (qE 0 [.t (stA s),.t (.int .i64 h),.t (puA k),.t (.sl (rf.map qA)),.t (.sl (sg.map qA))]) (qE 0 []) (qX [(10,(some (30,true))),(11,none)] 0 (qM4.K (s,h,k,rf,sg))):=by
 obtain⟨hs,hk,q1,q2,q3⟩:=hp;have hk':=hk;obtain⟨p1,p2,p3,p4,p5⟩:=hk';obtain⟨j,hj,e1⟩:=zRf (g:=g1) (h:=h) ⟨hs.ses.1,q3⟩;obtain⟨w,_,e2⟩:=zRi (g:=g2) (p:=k) ⟨oM,oM⟩;rcases hj with rfl | ⟨k0,k1⟩
 ·simp only[stA] at e1;simp(maxSteps:=9^9)(disch:=try exact dS)only[go_sem,vW,stA,puA,h1,e1];exact qVc default 8 oM rfl rfl
 obtain⟨x,hg,hm⟩:=qTk hs.ses.1 k0 k1;have hx:=hs.ses.2 x hm;obtain⟨m,hm2,e3⟩:=zYs (g:=g3) (d:=x.dg) (rf:=rf) ⟨by have:=hx.2.2.1;omega,oM⟩;obtain⟨v,vb,_,e4⟩:=jMm (g:=g4) (p:=k.un) (m:=m) (sg:=sg) ⟨oM,oM,q2⟩;obtain⟨nn,hnn,e5⟩:=qWa (g:=g5) (p:=k) ⟨oM,oM⟩;obtain⟨y,hy,e6⟩:=zDu (g:=g6) (d:=x.dg) (a:=⟨9,0,0,[],0,0,[],nn,rf,[]⟩) ⟨by have:=hx.2.2.1;omega,sM,sM,by simp only;omega,q1,sM,sM⟩;have e7:=qZs (g:=g7) (s:=s) (k:=j) (x := { x with dg:=y }) ⟨hs.ses.1,k0,k1⟩;have hgo:=St.sput_go hs (k:=j) (x := { x with dg:=y }) ⟨hx.1,hx.2.1,hy,hx.2.2.2⟩;obtain⟨xk,xn,xd,xu,xl,xc,xt,xv⟩:=x;obtain⟨pk,par,pht,ppo,pun⟩:=k;simp only[stA,jL,vN,puA,List.map_nil] at *;by_cases c2:pk=2
 rotate_left
 ·simp +contextual(maxSteps:=9^9)(disch:=try exact dS)only[go_sem,vW,stA,puA,h1,e1,k0,h2,e2,c2,↓qB,↓qC,qU]
  (repeat' (first | apply And.intro | intro _))<;>(try rfl)
  all_goals first | exact qVc default w (fun e=>absurd e ‹_›) rfl rfl | exact qVc default 19 oM rfl rfl
 subst c2;by_cases c1:xk=2
 ·subst c1;simp +contextual(maxSteps:=9^9)(disch:=try exact dS)only[go_sem,vW,stA,puA,h1,e1,k0,h2,e2,hg,oms,jL,h3,e3,h4,e4,h5,e5,h6,e6,h7,e7,↓qB,↓qC,qU]
  (repeat' (first | apply And.intro | intro _))<;>(try rfl)
  all_goals first | exact qVc default w (fun e=>absurd e ‹_›) rfl rfl | exact qVc default 4 oM rfl rfl | exact qVc default 17 oM rfl rfl | exact qVc _ 0 (fun _=>hgo) rfl rfl
 ·simp +contextual(maxSteps:=9^9)(disch:=try exact dS)only[go_sem,vW,stA,puA,h1,e1,k0,h2,e2,hg,oms,jL,h3,e3,h4,e4,h5,e5,h6,e6,h7,e7,c1,↓qB,↓qC,qU]
  (repeat' (first | apply And.intro | intro _))<;>(try rfl)
  all_goals first | exact qVc default w (fun e=>absurd e ‹_›) rfl rfl | exact qVc default 4 oM rfl rfl | exact qVc default 17 oM rfl rfl | exact qVc _ 0 (fun _=>hgo) rfl rfl
theorem jWc {α:Type}{l:List α}(h:(l.length:Int)=0):l=[]:=List.length_eq_zero_iff.1 oM
theorem qQk {α:Type}{l:List α}(h:(l.length:Int)=1) : ∃ a,l=[a]:=List.length_eq_one_iff.1 oM
theorem jCy {α:Type}{l:List α}(h:(l.length:Int)=2) : ∃ a b,l=[a,b]:=by
 match l,h with
 | [a,b],_=>exact⟨a,b,rfl⟩
 | [],h=>simp at h
 | [_],h=>simp at h
 | _::_::_::_,h=>simp at h;omega
theorem zVm {α:Type}{l:List α}(h:(l.length:Int)=3) : ∃ a b c,l=[a,b,c]:=by
 match l,h with
 | [a,b,c],_=>exact⟨a,b,c,rfl⟩
 | [],h=>simp at h
 | [_],h=>simp at h
 | [_,_],h=>simp at h
 | _::_::_::_::_,h=>simp at h;omega
theorem Obj.ok0:(default:Obj).Ok:=by refine⟨⟨?_,?_,?_,?_,?_⟩,⟨?_,?_,?_⟩,?_⟩<;>simp[default,instInhabitedObj.default,instInhabitedPu.default,instInhabitedSn.default]
def zZ0:Obj:=⟨⟨0,0,0,[],[]⟩,⟨[],[],[]⟩,0⟩
theorem zQ8:zZ0.Ok:=by refine⟨⟨?_,?_,?_,?_,?_⟩,⟨?_,?_,?_⟩,?_⟩<;>simp[zZ0]
def St.oput (s:St)(k:Int)(x:Obj):St := { s with obs:=s.obs.set k.toNat x }
theorem St.oput_ok {s:St}(h:s.Ok){k:Int}{x:Obj}(hx:x.Ok):(s.oput k x).Ok:=by
 refine { h with obs:=⟨by simp[St.oput,h.obs.1],fun y hy=>?_⟩ };rcases List.mem_or_eq_of_mem_set hy with h1 | rfl
 ·exact h.obs.2 y h1
 ·exact hx
theorem St.go_rfl {s:St}(h:s.Ok){k:Int}(hk:0≤k):s.Go k s:=⟨h,St.up.rfl' hk⟩
theorem St.Go.le {s t:St}{k l:Int}(h:s.Go k t)(e:k≤l):s.Go l t:=⟨h.1,h.2.le e⟩
theorem St.oput_go {s:St}(h:s.Ok){k:Int}{x:Obj}(hx:x.Ok):s.Go 0 (s.oput k x):=⟨St.oput_ok h hx,fun m hm=>by rw[Int.add_zero];exact hm⟩
def St.more (s:St):St := { s with dr:=s.dr+1 }
theorem St.more_go {s:St}(h:s.Ok):s.Go 1 s.more:=⟨{ h with dr:=by have:=h.dr;show 0≤s.dr+1;omega },fun m hm=>by unfold St.cn at *;simp only[St.more];omega⟩
theorem jKl {g:EF qDl}{s:St}(h:s.Ok)(hc:s.cn 1000000){n:Int}(hn:1≤n∧n≤1024) : ∃ b:List UInt8,b.length=n.toNat∧qDl.fs g [.t (stA s),.t (.int .i64 n)] []=some (.tup [.t (stA s.more),.t (.sl (b.map qA))],[]):=by
 obtain⟨t,b,⟨rfl,rfl⟩,e⟩:=zRv (g:=g) (s:=s) (n:=n) ⟨h.a.en,⟨h.dr,by have:=hc.2.2.2.2.1;omega⟩,hn⟩;exact⟨_,qD9,e⟩
theorem qI8 {g:EF qA6}{s:St}{e:Int} : ∃ r:Rs,qA6.fs g [.t (stA s),.t (.int .i64 e)] []=some (.tup [.t (stA s),.t (rsA r)],[]):=by
 obtain⟨t,r,rfl,h⟩:=jKh (g:=g) (s:=s) (e:=e);exact⟨r,h⟩
theorem qT5  (q:Rq)(hp:3≤q.ns.length∧1≤q.bl.length ∧ ∀ x∈q.bl,x.length≤1024) :
  qCj.1.wp tab gl (qE 0 [.t (rqA q)]) (qE 0 []) (qX [(2,(some (5,true)))] 0 (qLf.K q)):=by
 obtain⟨q1,q2,q3⟩:=hp;obtain⟨co,hh,au,ns,bl⟩:=q;simp only at q1 q2 q3;obtain⟨n0,g0,_,_⟩:=qN (l:=ns) (k:=0) oM;obtain⟨n1,g1,_,_⟩:=qN (l:=ns) (k:=1) oM;obtain⟨n2,g2,_,_⟩:=qN (l:=ns) (k:=2) oM;obtain⟨b0,g3,m3,_⟩:=qN (l:=bl) (k:=0) oM;have:=q3 b0 m3;simp(disch:=omega)only[go_sem,qCj,rqA,g0,g1,g2,g3,oms,iT];exact⟨rfl,jQd ⟨n0,n1,n2,b0,[]⟩ ⟨this,rfl⟩ rfl rfl⟩
theorem qYo  (s:St)(e:Int) :
  qEo.1.wp tab gl (qE 0 [.t (stA s),.t (.int .i64 e)]) (qE 0 []) (qX [(4,(some (30,true))),(5,(some (4,true)))] 0 (qA6.K (s,e))):=by
 simp(disch:=omega)only[go_sem,qEo,stA];exact jPi s ⟨e,[],[],[]⟩ rfl rfl rfl
theorem zFq  (s:St)(hp:s.obs.length=3) :
  qH1.1.wp tab gl (qE 0 [.t (stA s)]) (qE 0 []) (qX [(2,none)] 0 (qKw.K s)):=by
 simp(disch:=omega)only[go_sem,qH1,stA];refine zD (σ:=Nat) (fun k=>k≤3) (fun k=>3-k) (fun k=>[(1,.ref 4096 0 0),(3,.t (.int .i64 k))]) (fun k=>[(4096,.live 30 [.t (stA s)] true true)]) 0 oM (qI.rd id ?_ ?_ rfl) ?_
 ·simp(disch:=omega)only[go_sem,id,stA]
 ·simp(disch:=omega)only[go_sem,id,stA]
 intro k hk;by_cases hlt:k<3
 ·obtain⟨x,hg,hm,_⟩:=qN (l:=s.obs) (k:=k) oM;by_cases c:x.p.kd=0
  ·simp(disch:=omega)only[go_sem,stA,hp,hlt,hg,oms,wI,c];exact jHw k (.inr oM) rfl rfl
  ·simp(disch:=omega)only[go_sem,stA,hp,hlt,hg,oms,wI,c];refine qDa.of (k+1) oM oM (qI.rd id ?_ ?_ rfl);all_goals simp(disch:=omega)only[go_sem,id,stA]
 ·simp(disch:=omega)only[go_sem,stA,hp,hlt];exact jHw (-1) (.inl rfl) rfl rfl
theorem zIv  (s:St)(k:Int)(x:Obj)(hp:s.obs.length=3∧0≤k∧k≤2) :
  qJ5.1.wp tab gl (qE 0 [.t (stA s),.t (.int .i64 k),.t (wI x)]) (qE 0 []) (qX [(6,(some (30,true)))] 0 (qIu.K (s,k,x))):=by
 obtain⟨q1,q2,q3⟩:=hp;obtain⟨y,hg,hm,_⟩:=qN (l:=s.obs) (k:=k.toNat) oM;simp(maxSteps:=9^9)(disch:=try exact dS)only[go_sem,qJ5,stA,wI,q1,q2,q3,jXm,hg,oms];exact jPb (by rw[List.take_of_length_le (by simp[q1])];simp only[stA,List.map_set,wI]) rfl
theorem qYn {g1}(h1:LkE tab 142 qAg g1)(s:St)(q:Rq)(hp:s.Ok∧1≤q.hs.length∧0≤slP s.obs q.h0 0) :
  qEn.1.wp tab gl (qE 0 [.t (stA s),.t (rqA q)]) (qE 0 []) (qX [(4,(some (9,true)))] 0 (qFa.K (s,q))):=by
 obtain⟨hs,hq,h0⟩:=hp;obtain⟨co,hh,au,ns,bl⟩:=q;simp only[Rq.h0] at hq h0;obtain⟨x,g0,_,hd⟩:=qN (l:=hh) (k:=0) oM;have hx:hh.getD 0 0=x:=by rw[List.getD_eq_getElem?_getD,g0];rfl
 rw[hx] at h0;have l2:=hs.obs;have e:=qMo (g:=g1) (h:=x) (s:=s) oM;have r2 := @zNf s.obs x 0;obtain⟨y,hg,hm,_⟩:=qN (l:=s.obs) (k:=(slP s.obs x 0).toNat) oM;simp only[stA] at e;generalize slP s.obs x 0=j at *;simp(disch:=omega)only[go_sem,qEn,stA,rqA,g0,oms,iT,h1,e,hg,wI,h0];all_goals first | exact jJk y (l2.2 y hm) rfl rfl | exact⟨rfl,jJk y (l2.2 y hm) rfl rfl⟩
theorem qW7 {g1}(h1:LkE tab 237 qLf g1)(h2:LkC tab 191 qAt)(h3:LkC tab 43 qBy){g4}(h4:LkE tab 169 qIr g4){g5}(h5:LkE tab 238 qA6 g5){g6}(h6:LkE tab 239 qKw g6){g7}(h7:LkE tab 240 qIu g7){g8}(h8:LkE tab 171 qCq g8){g9}(h9:LkE tab 223 qCp g9)(s:St)(q:Rq)(hp:(s.Ok∧s.cn 1000000)∧q.Ok∧q.Al s∧q.co=9) :
  kF.1.wp tab gl (qE 0 [.t (stA s),.t (rqA q)]) (qE 0 []) (qX [(4,(some (30,true))),(5,(some (4,true)))] 0 (qOp.K (s,q))):=by
 obtain⟨⟨hs,hc⟩,⟨_,q2,_,q4,q5⟩,al,rfl'⟩:=hp;obtain⟨co,hh,au,ns,bl⟩:=q;simp only at rfl' q2 q4 q5;subst rfl';rw[show qG2 9=(1,1,3,3) from rfl] at q2 q4 q5;obtain⟨h0,rfl⟩:=qQk q2.1;obtain⟨n0,n1',n2',rfl⟩:=zVm q4.1;obtain⟨b0,b1,b2,rfl⟩:=zVm (l:=bl) (by rcases q5.1 with h | h;exact h;exact absurd h.1 (by decide));have bb:=q5.2;have hb0:=bb b0 sM;have hb1:=bb b1 sM;have hb2:=bb b2 sM;have ha:=al.1 rfl;simp only[Rq.h0,List.getD_cons_zero] at ha;obtain⟨p,⟨lp,pun⟩,e1⟩:=jAt (g:=g1) (q:=⟨9,[h0],au,[n0,n1',n2'],[b0,b1,b2]⟩) ⟨sM,sM,bb⟩;obtain⟨sd,gsd,msd,_⟩:=qN (l:=s.a.sd) (k:=h0.toNat) (by have:=hs.a.sd.1;omega);have lsd:=hs.a.sd.2 sd msd;obtain⟨fb,lf,e2⟩:=zQc (t:=0) (fs:=[[u8I p.kd,u8I p.ar,u8I p.ht],p.po,b2]) oM sM soM;obtain⟨se,lse,e3⟩:=zMa (k:=sd) (l:=[112,114,105,109,97,114,121]) (c:=fb) (n:=32) ⟨oM,sM,oM,oM,oM⟩;obtain⟨pb,sn,e,hok,e4⟩:=zQ0 (g:=g4) (s:=se) (p:=p) (au:=b1) (da:=b2) ⟨oM,oM,oM,oM⟩;obtain⟨r0,e5⟩:=qI8 (g:=g5) (s:=s) (e:=e);obtain⟨k,hk,e6⟩:=zZi (g:=g6) (s:=s) hs.obs.1;obtain⟨r1,e7⟩:=qI8 (g:=g5) (s:=s) (e:=25);have hG : ∀ {k:Int},0≤k→s.Go k s:=fun hk=>St.go_rfl hs hk
 by_cases c:e=0
 rotate_left
 ·simp only[mcn,bsT,stA,rqA,puA,snA,iT,rsA] at e1 e2 e3 e4 e5;rw[show ((0:Nat):Int)=0 from rfl] at e2;rw[show ((32:Nat):Int)=32 from rfl] at e3;simp(maxSteps:=9^9)(disch:=try exact dS)only[go_sem,kF,stA,rqA,puA,mcn,iT,h1,h2,h3,h4,h5,e1,e2,e3,e4,e5,gsd,ha.1,u8w,c,List.take_length];exact⟨rfl,rfl,jDo s r0 (hG oM) rfl rfl⟩
 obtain⟨po1,sn1⟩:=hok c;subst c;rcases hk with rfl | ⟨k0,k1⟩
 ·simp only[mcn,bsT,stA,rqA,puA,snA,iT,rsA] at e1 e2 e3 e4 e6 e7;rw[show ((0:Nat):Int)=0 from rfl] at e2;rw[show ((32:Nat):Int)=32 from rfl] at e3;simp(maxSteps:=9^9)(disch:=try exact dS)only[go_sem,kF,stA,rqA,puA,mcn,iT,h1,h2,h3,h4,h5,h6,e1,e2,e3,e4,e6,e7,gsd,ha.1,u8w,List.take_length];exact⟨rfl,rfl,jDo s r1 (hG oM) rfl rfl⟩
 ·have e8:=zRh (g:=g7) (s:=s) (k:=k) (x:=⟨pb,sn,h0⟩) ⟨hs.obs.1,k0,k1⟩;have hgo:=St.oput_go hs (k:=k) (x:=⟨pb,sn,h0⟩) ⟨po1,sn1,ha⟩;obtain⟨x,lx,e9⟩:=qWb (g:=g8) (p:=pb) ⟨by have:=po1.2.2.2.1;omega,by have:=po1.2.2.2.2;omega⟩;obtain⟨y,ly,e10⟩:=qWa (g:=g9) (p:=pb) ⟨by have:=po1.2.2.2.1;omega,by have:=po1.2.2.2.2;omega⟩;simp only[mcn,bsT,stA,rqA,puA,snA,wI,iT,rsA] at e1 e2 e3 e4 e6 e8 e9 e10;rw[show ((0:Nat):Int)=0 from rfl] at e2;rw[show ((32:Nat):Int)=32 from rfl] at e3;simp(maxSteps:=9^9)(disch:=try exact dS)only[go_sem,kF,stA,rqA,puA,mcn,iT,h1,h2,h3,h4,h6,h7,h8,h9,e1,e2,e3,e4,e6,e8,e9,e10,gsd,ha.1,u8w,List.take_length,k0];repeat refine aiG ?_
  exact jDo (s.oput k ⟨pb,sn,h0⟩) ⟨0,[512+k],[x,y],[]⟩ (hgo.le oM) rfl rfl
theorem qYl {g1}(h1:LkE tab 241 qFa g1){g2}(h2:LkE tab 238 qA6 g2){g3}(h3:LkE tab 19 qDl g3){g4}(h4:LkE tab 237 qLf g4){g5}(h5:LkE tab 169 qIr g5){g6}(h6:LkE tab 171 qCq g6){g7}(h7:LkE tab 170 qK9 g7)(s:St)(q:Rq)(hp:(s.Ok∧s.cn 1000000)∧q.Ok∧q.Al s∧q.co=10) :
  xC.1.wp tab gl (qE 0 [.t (stA s),.t (rqA q)]) (qE 0 []) (qX [(4,(some (30,true))),(5,(some (4,true)))] 0 (qNe.K (s,q))):=by
 obtain⟨⟨hs,hc⟩,hq,al,rfl'⟩:=hp;have hq':=hq;obtain⟨_,q2,_,q4,q5⟩:=hq';obtain⟨co,hh,au,ns,bl⟩:=q;simp only at rfl' q2 q4 q5;subst rfl';rw[show qG2 10=(1,1,3,3) from rfl] at q2 q4 q5;obtain⟨h0,rfl⟩:=qQk q2.1;obtain⟨n0,n1',n2',rfl⟩:=zVm q4.1;obtain⟨b0,b1,b2,rfl⟩:=zVm (l:=bl) (by rcases q5.1 with h | h;exact h;exact absurd h.1 (by decide));have bb:=q5.2;have hb1:=bb b1 sM;have hb2:=bb b2 sM;have ha:=al.2.1 (.inl rfl);obtain⟨x,hx,e1⟩:=zEj (g:=g1) (s:=s) (q:=⟨10,[h0],au,[n0,n1',n2'],[b0,b1,b2]⟩) ⟨hs,sM,ha⟩;obtain⟨r0,e2⟩:=qI8 (g:=g2) (s:=s) (e:=19);obtain⟨rn,lrn,e3⟩:=jKl (g:=g3) hs hc (n:=32) oM;obtain⟨p,⟨lp,pun⟩,e4⟩:=jAt (g:=g4) (q:=⟨10,[h0],au,[n0,n1',n2'],[b0,b1,b2]⟩) ⟨sM,sM,bb⟩;obtain⟨pb,sn,e,hok,e5⟩:=zQ0 (g:=g5) (s:=rn) (p:=p) (au:=b1) (da:=b2) ⟨by rw[lrn];decide,oM,oM,oM⟩;obtain⟨r1,e6⟩:=qI8 (g:=g2) (s:=s) (e:=e);have hG : ∀ {k:Int},0≤k→s.Go k s:=fun hk=>St.go_rfl hs hk
 by_cases c1:x.p.kd=1
 rotate_left
 ·simp only[mcn,bsT,stA,rqA,wI,iT,rsA] at e1 e2;simp(maxSteps:=9^9)(disch:=try exact dS)only[go_sem,xC,stA,rqA,wI,mcn,iT,h1,h2,e1,e2,c1];exact jBt s r0 (hG oM) rfl rfl
 by_cases c:e=0
 rotate_left
 ·simp only[mcn,bsT,stA,St.more,rqA,wI,iT,rsA,puA,snA] at e1 e3 e4 e5 e6;simp(maxSteps:=9^9)(disch:=try exact dS)only[go_sem,xC,stA,rqA,wI,puA,mcn,iT,h1,h2,h3,h4,h5,e1,e3,e4,e5,e6,c1,c];repeat refine aiG ?_
  exact jBt s r1 (hG oM) rfl rfl
 obtain⟨po1,sn1⟩:=hok c;subst c;obtain⟨y,ly,e7⟩:=qWb (g:=g6) (p:=pb) ⟨by have:=po1.2.2.2.1;omega,by have:=po1.2.2.2.2;omega⟩;obtain⟨z,lz,e8⟩:=zZ7 (g:=g7) (s:=x.s) (p:=pb) (z:=sn) ⟨hx.2.1,po1,sn1⟩;have hgo:=St.more_go hs;simp only[mcn,bsT,stA,St.more,rqA,wI,iT,rsA,puA,snA] at e1 e3 e4 e5 e7 e8;simp(maxSteps:=9^9)(disch:=try exact dS)only[go_sem,xC,stA,rqA,wI,puA,snA,mcn,iT,h1,h3,h4,h5,h6,h7,e1,e3,e4,e5,e7,e8,c1,List.take_length];repeat refine aiG ?_
 exact jBt s.more ⟨0,[],[y,z],[]⟩ (hgo.le oM) rfl rfl
theorem zFo {g1}(h1:LkE tab 241 qFa g1){g2}(h2:LkE tab 238 qA6 g2){g3}(h3:LkE tab 208 qLa g3){g4}(h4:LkE tab 242 qOj g4){g5}(h5:LkE tab 239 qKw g5){g6}(h6:LkE tab 240 qIu g6){g7}(h7:LkE tab 223 qCp g7)(s:St)(q:Rq)(hp:(s.Ok∧s.cn 1000000)∧q.Ok∧q.Al s∧q.co=11) :
  wU.1.wp tab gl (qE 0 [.t (stA s),.t (rqA q)]) (qE 0 []) (qX [(4,(some (30,true))),(5,(some (4,true)))] 0 (qN9.K (s,q))):=by
 obtain⟨⟨hs,hc⟩,hq,al,rfl'⟩:=hp;have hq':=hq;obtain⟨_,q2,_,q4,q5⟩:=hq';obtain⟨co,hh,au,ns,bl⟩:=q;simp only at rfl' q2 q4 q5;subst rfl';rw[show qG2 11=(1,1,0,2) from rfl] at q2 q4 q5;obtain⟨h0,rfl⟩:=qQk q2.1;obtain rfl:=jWc q4.1;obtain⟨b0,b1,rfl⟩:=jCy (l:=bl) (by rcases q5.1 with h | h;exact h;exact absurd h.1 (by decide));have bb:=q5.2;have hb0:=bb b0 sM;have hb1:=bb b1 sM;have ha:=al.2.1 (.inr (.inl rfl));obtain⟨x,hx,e1⟩:=zEj (g:=g1) (s:=s) (q:=⟨11,[h0],au,[],[b0,b1]⟩) ⟨hs,sM,ha⟩;obtain⟨r0,e2⟩:=qI8 (g:=g2) (s:=s) (e:=19);obtain⟨pb,e,hok,e3⟩:=zZ8 (g:=g3) (b:=b0) oM;obtain⟨r1,e4⟩:=qI8 (g:=g2) (s:=s) (e:=e);have hG : ∀ {k:Int},0≤k→s.Go k s:=fun hk=>St.go_rfl hs hk
 by_cases c1:x.p.kd=1
 rotate_left
 ·simp only[mcn,bsT,stA,rqA,wI,iT,rsA] at e1 e2;simp(maxSteps:=9^9)(disch:=try exact dS)only[go_sem,wU,stA,rqA,wI,mcn,iT,h1,h2,e1,e2,c1];exact zQv s r0 (hG oM) rfl rfl
 by_cases c:e=0
 rotate_left
 ·simp only[mcn,bsT,stA,rqA,wI,iT,rsA,puA] at e1 e3 e4;simp(maxSteps:=9^9)(disch:=try exact dS)only[go_sem,wU,stA,rqA,wI,puA,mcn,iT,bsT,h1,h2,h3,e1,e3,e4,c1,c];exact zQv s r1 (hG oM) rfl rfl
 have po1:=hok c;subst c;obtain⟨sn,e',hok2,e5⟩:=jJr (g:=g4) (s:=x.s) (p:=pb) (b:=b1) ⟨hx.2.1,po1,oM⟩;obtain⟨r2,e6⟩:=qI8 (g:=g2) (s:=s) (e:=e');by_cases c:e'=0
 rotate_left
 ·simp only[mcn,bsT,stA,rqA,wI,iT,rsA,puA,snA] at e1 e3 e5 e6;simp(maxSteps:=9^9)(disch:=try exact dS)only[go_sem,wU,stA,rqA,wI,puA,snA,mcn,iT,bsT,h1,h2,h3,h4,e1,e3,e5,e6,c1,c];repeat refine aiG ?_
  exact zQv s r2 (hG oM) rfl rfl
 have sn1:=hok2 c;subst c;obtain⟨k,hk,e7⟩:=zZi (g:=g5) (s:=s) hs.obs.1;obtain⟨r3,e8⟩:=qI8 (g:=g2) (s:=s) (e:=25);rcases hk with rfl | ⟨k0,k1⟩
 ·simp only[mcn,bsT,stA,rqA,wI,iT,rsA,puA,snA] at e1 e3 e5 e7 e8;simp(maxSteps:=9^9)(disch:=try exact dS)only[go_sem,wU,stA,rqA,wI,puA,snA,mcn,iT,bsT,h1,h2,h3,h4,h5,e1,e3,e5,e7,e8,c1];repeat refine aiG ?_
  exact zQv s r3 (hG oM) rfl rfl
 have e9:=zRh (g:=g6) (s:=s) (k:=k) (x:=⟨pb,sn,x.h⟩) ⟨hs.obs.1,k0,k1⟩;have hgo:=St.oput_go hs (k:=k) (x:=⟨pb,sn,x.h⟩) ⟨po1,sn1,hx.2.2⟩;obtain⟨y,ly,e10⟩:=qWa (g:=g7) (p:=pb) ⟨by have:=po1.2.2.2.1;omega,by have:=po1.2.2.2.2;omega⟩;simp only[mcn,bsT,stA,rqA,wI,iT,rsA,puA,snA] at e1 e3 e5 e7 e9 e10;simp(maxSteps:=9^9)(disch:=try exact dS)only[go_sem,wU,stA,rqA,wI,puA,snA,mcn,iT,bsT,h1,h3,h4,h5,h6,h7,e1,e3,e5,e7,e9,e10,c1,k0];repeat refine aiG ?_
 exact zQv (s.oput k ⟨pb,sn,x.h⟩) ⟨0,[512+k],[y],[]⟩ (hgo.le oM) rfl rfl
theorem jVr {α:Type}{l:List α}(h:(l.length:Int)=4) : ∃ a b c d,l=[a,b,c,d]:=by
 match l,h with
 | [a,b,c,d],_=>exact⟨a,b,c,d,rfl⟩
 | [],h=>simp at h
 | [_],h=>simp at h
 | [_,_],h=>simp at h
 | [_,_,_],h=>simp at h
 | _::_::_::_::_::_,h=>simp at h;omega
theorem BkS.ext {act:Int}{bk:List zB}(h:BkS act bk)(i:Nat)(ds:List (List UInt8)):BkS act (qSa bk i ds):=by
 rcases h with rfl | ⟨h1,h2⟩
 ·exact .inl rfl
 ·exact .inr ⟨h1,h2.ext i ds⟩
theorem BkS.rst {act:Int}{bk:List zB}(h:BkS act bk)(i:Nat):BkS act (zH5 bk i):=by
 rcases h with rfl | ⟨h1,b0,b1,rfl,h0,h3,z0,z1⟩
 ·exact .inl rfl
 ·refine .inr ⟨h1,_,_,rfl,jY.trans h0,jY.trans h3,?_,?_⟩
  ·unfold qWj;split
   ·exact zBk z0 (by simp[szA])
   ·exact z0
  ·unfold qWj;split
   ·exact zBk z1 (by simp[szA])
   ·exact z1
theorem zZd {act:Int}{bk:List zB}(h:BkS act bk){u:Int}(hu:0≤u){lo i:Int}{ds:List (List UInt8)} : ∃ (bk':List zB) (u' e:Int),(e=0→BkS act bk'∧0≤u'∧u'≤u+1)∧qTa bk u lo i ds = .tup [.t (.agg [.sl (bk'.map yS),.int .i64 u']),.t (.int .i64 e)]:=by
 unfold qTa;split
 ·exact⟨_,_,_,fun _=>⟨h.ext _ _,oM,oM⟩,rfl⟩
 ·rename_i c;exact⟨[],0,_,fun e=>absurd e c,rfl⟩
theorem jN8 {act:Int}{bk:List zB}(h:BkS act bk){u:Int}(hu:0≤u∧u<1000000000){lo i:Int}{ds:List (List UInt8)}(hd:ds.length≤8 ∧ ∀ d∈ds,d.length≤4000) : ∃ (bk':List zB) (u' e:Int),(e=0→BkS act bk'∧0≤u'∧u'≤u+1)∧qFx.fs [.t (.agg [.sl (bk.map yS),.int .i64 u]),.t (.int .i64 lo),.t (.int .i64 i),.t (.sl (ds.map bsT))] []=some (.tup [.t (.agg [.sl (bk'.map yS),.int .i64 u']),.t (.int .i64 e)],[]):=by
 obtain⟨bk',u',e,h1,h2⟩:=zZd h hu.1 (lo:=lo) (i:=i) (ds:=ds);refine⟨bk',u',e,h1,?_⟩;rw[zZe ⟨h.rv,hu,by show ds.length<_;omega,fun d hm=>by have:=hd.2 d hm;omega⟩,h2]
theorem jV7 {act:Int}{bk:List zB}(h:BkS act bk){u:Int}(hu:0≤u∧u<1000000000){lo i:Int}{d:List UInt8}(hd:d.length≤4000) : ∃ (bk':List zB) (u' e:Int),(e=0→BkS act bk'∧0≤u'∧u'≤u+1)∧zO8.fs [.t (.agg [.sl (bk.map yS),.int .i64 u]),.t (.int .i64 lo),.t (.int .i64 i),.t (.sl (d.map qA))] []=some (.tup [.t (.agg [.sl (bk'.map yS),.int .i64 u']),.t (.int .i64 e)],[]):=by
 have he:zO8.fs [.t (.agg [.sl (bk.map yS),.int .i64 u]),.t (.int .i64 lo),.t (.int .i64 i),.t (.sl (d.map qA))] []=some (evR bk u lo i d,[]):=zO8.eq (bk,u,lo,i,d) ⟨h.rv,hu,by show d.length<_;omega⟩;rw[he];unfold evR;split
 ·exact⟨[],0,4,oM,rfl⟩
 ·obtain⟨bk',u',e,h1,h2⟩:=zZd h hu.1 (lo:=lo) (i:=i) (ds:=qVq bk d);exact⟨bk',u',e,h1,by rw[h2]⟩
theorem jPr {act:Int}{bk:List zB}(h:BkS act bk){u:Int}(hu:0≤u∧u<1000000000){lo i:Int} : ∃ (bk':List zB) (u' e:Int),(e=0→BkS act bk'∧0≤u'∧u'≤u+1)∧qG8.fs [.t (.agg [.sl (bk.map yS),.int .i64 u]),.t (.int .i64 lo),.t (.int .i64 i)] []=some (.tup [.t (.agg [.sl (bk'.map yS),.int .i64 u']),.t (.int .i64 e)],[]):=by
 have he:qG8.fs [.t (.agg [.sl (bk.map yS),.int .i64 u]),.t (.int .i64 lo),.t (.int .i64 i)] []=some (jEl bk u lo i,[]):=jKq ⟨h.rv.rm,hu.1,hu.2⟩;rw[he];unfold jEl;split
 ·exact⟨_,_,_,fun _=>⟨h.rst _,oM,oM⟩,rfl⟩
 ·rename_i c;exact⟨[],0,_,fun e=>absurd e c,rfl⟩
theorem jQh {bk:List zB}(h:RM bk){u a i:Int}:(∃ e:Int,e≠0∧qZk.fs [.t (.agg [.sl (bk.map yS),.int .i64 u]),.t (.int .i64 a),.t (.int .i64 i)] []=some (.tup [.nil,.t (.int .i64 e)],[]))∨
  ∃ y:List UInt8,qZk.fs [.t (.agg [.sl (bk.map yS),.int .i64 u]),.t (.int .i64 a),.t (.int .i64 i)] []=some (.tup [.sl 0 0 y.length,.t (.int .i64 0)],[.live 1 ((y.map qA).map V.t) true false]):=by
 have he:qZk.fs [.t (.agg [.sl (bk.map yS),.int .i64 u]),.t (.int .i64 a),.t (.int .i64 i)] []=some (jGa bk a i,jF9 bk a i):=qZk.eq (bk,u,a,i) h;rw[he];unfold jGa jF9;split
 ·exact .inl ⟨1,by decide,rfl⟩
 ·split
  ·exact .inr ⟨_,rfl⟩
  ·exact .inl ⟨27,by decide,rfl⟩
theorem jN4 {bk:List zB}(h:RK bk){u:Int}{d:List UInt8}(hd:d.length≤4000):qVm.fs [.t (.agg [.sl (bk.map yS),.int .i64 u]),.t (.sl (d.map qA))] []=some (.t (.sl ((qVq bk d).map bsT)),[]):=qVm.eq (bk,u,d) ⟨h,by show d.length<_;omega⟩
theorem qYu  (s:St)(e:Int) :
  qEr.1.wp tab gl (qE 0 [.t (stA s),.t (.int .i64 e)]) (qE 0 []) (qX [(4,(some (30,true))),(5,(some (4,true)))] 0 (kU.K (s,e))):=by
 simp(disch:=omega)only[go_sem,qEr,stA];exact jPj s ⟨e,[],[],[]⟩ rfl rfl rfl
theorem qB9 {g:EF kU}{s:St}{e:Int} : ∃ r:Rs,kU.fs g [.t (stA s),.t (.int .i64 e)] []=some (.tup [.t (stA s),.t (rsA r)],[]):=by
 obtain⟨t,r,rfl,h⟩:=jKi (g:=g) (s:=s) (e:=e);exact⟨r,h⟩
theorem zCi {g1}(h1:LkE tab 108 kU g1)(s t:St)(e:Int) :
  qCx.1.wp tab gl (qE 0 [.t (stA s),.t (stA t),.t (.int .i64 e)]) (qE 0 []) (qX [(6,(some (30,true))),(7,(some (4,true)))] 0 (qB1.K (s,t,e))):=by
 obtain⟨r,e1⟩:=qB9 (g:=g1) (s:=s) (e:=e);simp only[stA,rsA] at e1;by_cases c:e=0
 ·subst c;simp(disch:=omega)only[go_sem,qCx,stA];exact jJw t ⟨0,[],[],[]⟩ ⟨fun _=>rfl,fun h=>absurd rfl h⟩ rfl rfl
 ·simp(disch:=omega)only[go_sem,qCx,stA,h1,e1,c];exact jJw s r ⟨fun h=>absurd h c,fun _=>rfl⟩ rfl rfl
theorem zCh  (s:St) :
  qCw.1.wp tab gl (qE 0 [.t (stA s)]) (qE 0 []) (qX [(2,(some (30,true))),(3,(some (4,true)))] 0 (qNb.K s)):=by
 obtain⟨sf,hsf⟩ : ∃ b,s.safe=b:=⟨_,rfl⟩;cases sf
 ·simp(disch:=omega)only[go_sem,qCw,stA,hsf];repeat refine aiG ?_
  exact jHd s ⟨0,[s.clk,s.a.res,s.a.rst,0],[],[]⟩ rfl (by simp only[stA,hsf];rfl) rfl
 ·simp(disch:=omega)only[go_sem,qCw,stA,hsf];repeat refine aiG ?_
  exact jHd s ⟨0,[s.clk,s.a.res,s.a.rst,1],[],[]⟩ rfl (by simp only[stA,hsf];rfl) rfl
theorem qXb {g1}(h1:LkE tab 198 qOp g1){g2}(h2:LkE tab 199 qNe g2){g3}(h3:LkE tab 200 qN9 g3){g4}(h4:LkE tab 201 qNk g4){g5}(h5:LkE tab 202 qO7 g5){g6}(h6:LkE tab 203 qOx g6){g7}(h7:LkE tab 204 qOs g7)(s:St)(q:Rq)(hp:(s.Ok∧s.cn 1000000)∧q.Ok∧q.Al s∧(q.co=9∨q.co=10∨q.co=11∨q.co=12∨q.co=13∨q.co=14∨q.co=15)) :
  jR.1.wp tab gl (qE 0 [.t (stA s),.t (rqA q)]) (qE 0 []) (qX [(4,(some (30,true))),(5,(some (4,true)))] 0 (qOg.K (s,q))):=by
 obtain⟨hs,hq,al,hco⟩:=hp;obtain⟨co,hh,au,ns,bl⟩:=q;simp only at hco;rcases hco with rfl | rfl | rfl | rfl | rfl | rfl | rfl
 ·obtain⟨t,r,hg,e⟩:=jJ1 (g:=g1) (s:=s) (q:=⟨9,hh,au,ns,bl⟩) ⟨hs,hq,al,rfl⟩;simp only[stA,rqA,rsA] at e;simp(disch:=omega)only[go_sem,jR,stA,rqA,h1,e];exact zHz t r hg rfl rfl
 ·obtain⟨t,r,hg,e⟩:=jHh (g:=g2) (s:=s) (q:=⟨10,hh,au,ns,bl⟩) ⟨hs,hq,al,rfl⟩;simp only[stA,rqA,rsA] at e;simp(disch:=omega)only[go_sem,jR,stA,rqA,h2,e];exact zHz t r hg rfl rfl
 ·obtain⟨t,r,hg,e⟩:=jJa (g:=g3) (s:=s) (q:=⟨11,hh,au,ns,bl⟩) ⟨hs,hq,al,rfl⟩;simp only[stA,rqA,rsA] at e;simp(disch:=omega)only[go_sem,jR,stA,rqA,h3,e];exact zHz t r hg rfl rfl
 ·obtain⟨t,r,hg,e⟩:=jHu (g:=g4) (s:=s) (q:=⟨12,hh,au,ns,bl⟩) ⟨hs,hq,rfl⟩;simp only[stA,rqA,rsA] at e;simp(disch:=omega)only[go_sem,jR,stA,rqA,h4,e];exact zHz t r hg rfl rfl
 ·obtain⟨t,r,hg,e⟩:=jLy (g:=g5) (s:=s) (q:=⟨13,hh,au,ns,bl⟩) ⟨hs,hq,al,rfl⟩;simp only[stA,rqA,rsA] at e;simp(disch:=omega)only[go_sem,jR,stA,rqA,h5,e];exact zHz t r hg rfl rfl
 ·obtain⟨t,r,hg,e⟩:=jK4 (g:=g6) (s:=s) (q:=⟨14,hh,au,ns,bl⟩) ⟨hs,hq,al,rfl⟩;simp only[stA,rqA,rsA] at e;simp(disch:=omega)only[go_sem,jR,stA,rqA,h6,e];exact zHz t r hg rfl rfl
 ·obtain⟨t,r,hg,e⟩:=jJ4 (g:=g7) (s:=s) (q:=⟨15,hh,au,ns,bl⟩) ⟨hs,hq,al,rfl⟩;simp only[stA,rqA,rsA] at e;simp(disch:=omega)only[go_sem,jR,stA,rqA,h7,e];exact zHz t r hg rfl rfl
def St.iset (s:St)(l:List Ix):St := { s with a := { s.a with ix:=l } }
theorem St.iset_go {s:St}(h:s.Ok){l:List Ix}(h1:l.length≤6)(h2 : ∀ x∈l,x.Ok):s.Go 0 (s.iset l):=⟨{ h with a := { h.a with ix:=⟨h1,h2⟩ } },fun m hm=>by rw[Int.add_zero];exact hm⟩
theorem qYt {g1}(h1:LkE tab 210 qNv g1){g2}(h2:LkE tab 108 kU g2){g3}(h3:LkE tab 144 kB g3)(s:St)(q:Rq)(hp:(s.Ok∧s.cn 1000000)∧q.Ok∧q.co=21) :
  wM.1.wp tab gl (qE 0 [.t (stA s),.t (rqA q)]) (qE 0 []) (qX [(4,(some (30,true))),(5,(some (4,true)))] 0 (qNf.K (s,q))):=by
 obtain⟨⟨hs,hc⟩,hq,rfl'⟩:=hp;obtain⟨_,q2,_,q4,q5⟩:=hq;obtain⟨co,hh,au,ns,bl⟩:=q;simp only at rfl' q2 q4 q5;subst rfl';rw[show qG2 21=(1,1,4,2) from rfl] at q2 q4 q5;obtain⟨n0,n1',n2',n3',rfl⟩:=jVr q4.1;obtain⟨b0,b1,rfl⟩:=jCy (l:=bl) (by rcases q5.1 with h | h;exact h;exact absurd h.1 (by decide));have hb0:=q5.2 b0 sM;have hb1:=q5.2 b1 sM;have l1:=hs.a.ix;obtain⟨x,e,hok,e1⟩:=jIq (g:=g1) (n:=n0) (k:=n1') (r:=n2') (z:=n3') (au:=b0) (po:=b1) ⟨oM,oM⟩;obtain⟨ra,ea⟩:=qB9 (g:=g2) (s:=s) (e:=e);obtain⟨rb,eb⟩:=qB9 (g:=g2) (s:=s) (e:=21);obtain⟨rc,ec⟩:=qB9 (g:=g2) (s:=s) (e:=25);have hG : ∀ {k:Int},0≤k→s.Go k s:=fun hk=>St.go_rfl hs hk
 have hz:qRu 8 (List.map ixA s.a.ix)=true:=zIx;by_cases c:e=0
 rotate_left
 ·simp only[stA,rsA,ixA] at e1 ea;simp(maxSteps:=9^9)(disch:=try exact dS)only[go_sem,wM,stA,rqA,mcn,iT,bsT,h1,h2,e1,ea,c];repeat refine aiG ?_
  exact zUu s ra (hG oM) rfl rfl
 have hx:=hok c;subst c;have e3:=qHc (g:=g3) (s:=s) (h:=256+x.n) ⟨l1.1,fun x hx=>(l1.2 x hx).1⟩;have hxn:=hx.1;rcases @zD8 s.a.ix (256+x.n) 0 with r1 | ⟨r1,r2⟩
 ·rw[r1] at e3;by_cases c2:6≤s.a.ix.length
  ·simp only[stA,rsA,ixA] at e1 e3 ec;simp(maxSteps:=9^9)(disch:=try exact dS)only[go_sem,wM,stA,rqA,mcn,iT,bsT,h1,h2,h3,e1,e3,ec,c2];repeat refine aiG ?_
   exact zUu s rc (hG oM) rfl rfl
  ·have hgo:=St.iset_go hs (l:=s.a.ix++[x]) soM (by
    intro z hz;simp only[List.mem_append,List.mem_cons,List.not_mem_nil,or_false] at hz;rcases hz with hz | rfl
    ·exact l1.2 z hz
    ·exact hx)
   simp only[stA,rsA,ixA] at e1 e3;simp(maxSteps:=9^9)(disch:=try exact dS)only[go_sem,wM,stA,rqA,mcn,iT,bsT,h1,h3,e1,e3,c2,hz];repeat refine aiG ?_
   exact zUu (s.iset (s.a.ix++[x])) ⟨0,[],[],[]⟩ (hgo.le oM) (by rw[List.take_of_length_le sM];simp only[stA,rsA,St.iset,List.map_append,mcn,ixA]) rfl
 ·generalize ixP s.a.ix (256+x.n) 0=j at *;simp only[stA,rsA,ixA] at e1 e3 eb;simp(maxSteps:=9^9)(disch:=try exact dS)only[go_sem,wM,stA,rqA,mcn,iT,bsT,h1,h2,h3,e1,e3,eb,r1];repeat refine aiG ?_
  exact zUu s rb (hG oM) rfl rfl
theorem qXc  (l:List Int)(n:Int)(hp:l.length≤1000000) :
  qDe.1.wp tab gl (qE 0 [.t (.sl (l.map iT)),.t (.int .i64 n)]) (qE 0 []) (qX [(4,none)] 0 (qPc.K (l,n))):=by
 simp(disch:=omega)only[go_sem,qDe];refine zD (σ:=Nat×List Int) (fun t=>t.1≤l.length∧t.2.length≤t.1) (fun t=>l.length-t.1) (fun t=>[(0,.t (.sl (l.map iT))),(1,.t (.int .i64 n)),(5,.sl 9000 0 t.2.length),(6,.t (.int .i64 t.1))]) (fun t=>[(9000,.live 1 ((t.2.map iT).map V.t) true false)]) (0,[]) ⟨sM,sM⟩ (qI.cv0 (hv:=[(9000,.live 1 [] true false)]) (ho:=[]) id ?_ ?_ rfl rfl) ?_
 ·simp(disch:=omega)only[go_sem,id]
 ·simp(disch:=omega)only[go_sem,id];all_goals rfl
 rintro⟨k,r⟩ ⟨hk,hr⟩;simp only at hk hr;by_cases hlt:k<l.length
 ·obtain⟨x,hg,hm,_⟩:=qN hlt;by_cases c:x=n
  ·subst c;simp(disch:=omega)only[go_sem,hlt,hg,oms,iT];refine qDa.of (k+1,r) ⟨by simp only;omega,by simp only;omega⟩ (by simp only;omega) (qI.rd id ?_ ?_ rfl)
   ·simp(disch:=omega)only[go_sem,id]
   ·simp(disch:=omega)only[go_sem,id]
  ·simp(disch:=omega)only[go_sem,hlt,hg,oms,iT,c];refine qDa.of (k+1,r++[x]) ⟨by simp only;omega,soM⟩ (by simp only;omega) (qI.rd (fun j=>if j=9000 then 28768 else j) ?_ ?_ rfl)
   ·simp(disch:=omega)only[go_sem,id,List.length_append,List.length_cons,List.length_nil]
   ·have e:List.map iT (r++[x])=List.map iT r++[T.int .i64 x]:=by simp[iT]
    simp(disch:=omega)only[go_sem,id,e]
 ·simp(disch:=omega)only[go_sem,hlt];exact jQw r oM rfl rfl
theorem jXl {l:List Int}:qRu 1 (l.map iT)=true:=by simp only[qRu,List.all_map,List.all_eq_true];intro x _;rfl
theorem zFx {g1}(h1:LkE tab 213 qIn g1)(l:List Int)(n:Int)(hp:l.length≤1000000) :
  qD0.1.wp tab gl (qE 0 [.t (.sl (l.map iT)),.t (.int .i64 n)]) (qE 0 []) (qX [(4,none)] 0 (qPb.K (l,n))):=by
 obtain⟨v,_,e⟩:=zKp (g:=g1) (l:=l) (n:=n) hp;cases v
 ·simp(disch:=omega)only[go_sem,qD0,h1,e,jXl];exact jM3 (l++[n]) sM (by rw[List.take_of_length_le sM];simp[iT]) rfl
 ·simp(disch:=omega)only[go_sem,qD0,h1,e];exact jM3 l oM rfl rfl
end Go.Eng
end
