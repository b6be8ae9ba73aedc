/- A part of an abstract machine, its walks, their tie. -/
import Derived.Test.YtekghmfbgbhobaaGreatDoorS22
import Derived.Test.YtekghmfbgbhobaaGreatDoorS27
import Derived.Test.YtekghmfbgbhobaaGreatDoorS31
set_option linter.all false
section
set_option maxHeartbeats 64000000
set_option maxRecDepth 20000
namespace Go.Eng
variable (tab:Tab) (gl:Gl)
theorem qZy (h1:LkC tab 74 jX)(h2:LkC tab 42 vN)(h3:LkC tab 231 xP)(bk:List zE)(u s0 s1:Int)(hv:RV bk) :
  qE6.1.wp tab gl (qD 0 [.t (yL bk u),.t (.agg [.int .i64 s0,.int .i64 s1])]) (qD 0 []) (xU [] [(4,none),(5,none)] 0 (fun r o=>r=zPg bk s0 s1∧o=zPf bk s0 s1)):=by
 have hm:=hv.rm;simp(disch:=omega)only[go_sem,qE6];by_cases b0:zPw s0
 ·have hE:zGw bk s0 s1=1:=by unfold zGw;rw[if_pos (.inl b0)]
  rw[zPg,zPf,hE];unfold zPw at b0;refine qT 1 ?_;by_cases c0:s0<0
  ·simp(disch:=omega)only[go_sem,qJ,c0]
  ·simp(disch:=omega)only[go_sem,qJ,c0]
 have hb0 : ¬ s0<0 ∧ ¬ 65535<s0:=by unfold zPw at b0;omega
 obtain⟨c0,d0⟩:=hb0;by_cases b1:zPw s1
 ·have hE:zGw bk s0 s1=1:=by unfold zGw;rw[if_pos (.inr b1)]
  rw[zPg,zPf,hE];unfold zPw at b1;refine qT 2 ?_;by_cases c1:s1<0
  ·simp(disch:=omega)only[go_sem,qJ,c0,d0,c1]
  ·simp(disch:=omega)only[go_sem,qJ,c0,d0,c1]
 have hb1 : ¬ s1<0 ∧ ¬ 65535<s1:=by unfold zPw at b1;omega
 obtain⟨c1,d1⟩:=hb1;refine qT 3 ?_;simp(disch:=omega)only[go_sem,qJ,c0,d0,c1,d1];refine qP8 2 (PD (s0=0∨onB bk 0=true) (s1=0∨onB bk 1=true)) (fun k=>match k with | 0=>[(2,.ref 4096 0 0),(3,.ref 4112 0 0),(7,.sl 9100 0 (List.length ([]:List UInt8))),(8,.t (.int .i64 0))] | 1=>[(2,.ref 4096 0 0),(3,.ref 4112 0 0),(7,.sl 9100 0 (List.length (qK3 bk 0 s0 16))),(8,.t (.int .i64 1))] | _=>[(2,.ref 4096 0 0),(3,.ref 4112 0 0),(7,.sl 9100 0 (List.length (qK3 bk 0 s0 16++qK3 bk 1 s1 16))),(8,.t (.int .i64 2))]) (fun k=>match k with | 0=>[(9100,.live 1 ((([]:List UInt8).map qA).map V.t) true false),(4112,.live 1 [.t (.int .i64 s0),.t (.int .i64 s1)] true true),(4096,.live 2 [.t (yL bk u)] true true)] | 1=>[(9100,.live 1 (((qK3 bk 0 s0 16).map qA).map V.t) true false),(4112,.live 1 [.t (.int .i64 s0),.t (.int .i64 s1)] true true),(4096,.live 2 [.t (yL bk u)] true true)] | _=>[(9100,.live 1 (((qK3 bk 0 s0 16++qK3 bk 1 s1 16).map qA).map V.t) true false),(4112,.live 1 [.t (.int .i64 s0),.t (.int .i64 s1)] true true),(4096,.live 2 [.t (yL bk u)] true true)]) ⟨fun h=>absurd h oM,fun h=>absurd h oM⟩ ?_ (fun k hk hP=>?_)
 ·refine qI.cv0 (hv:=[(9100,.live 1 [] true false)]) (ho:=[(4112,.live 1 [.t (.int .i64 s0),.t (.int .i64 s1)] true true),(4096,.live 2 [.t (yL bk u)] true true)]) id ?_ ?_ rfl rfl;all_goals simp(disch:=omega)only[go_sem,id,mcn,List.length_nil]
 ·rcases (show k=0∨k=1∨k=2 by omega) with rfl | rfl | rfl
  ·by_cases z:s0=0
   ·have zz:(s0==0)=true:=by simpa using z
    simp(disch:=omega)only[go_sem,zz];refine qF 16 (fun i=>[(2,.ref 4096 0 0),(3,.ref 4112 0 0),(7,.sl 9100 0 (List.length (qK3 bk 0 s0 i))),(8,.t (.int .i64 0)),(9,.t (.int .i64 (i:Nat)))]) (fun i=>[(9100,.live 1 (((qK3 bk 0 s0 i).map qA).map V.t) true false),(4112,.live 1 [.t (.int .i64 s0),.t (.int .i64 s1)] true true),(4096,.live 2 [.t (yL bk u)] true true)]) ?_ (fun i hi=>?_)
    ·refine qI.rd id ?_ ?_ rfl;all_goals simp(disch:=omega)only[go_sem,id,zHk,List.append_nil]
    ·have l0:=qD6 hv 0 s0 16;have l1:=qD6 hv 0 s0 i;by_cases hlt:i<16
     ·have hsh:s0.fdiv (2^i)=s0/2^i:=Int.fdiv_eq_ediv_of_nonneg _ (Int.le_of_lt (Int.pow_pos (by decide)));have hb : ¬ s0/2^i%2=1:=by rw[z];simp
      simp(disch:=omega)only[go_sem,hsh,hb];refine⟨hlt,qI.rd id ?_ ?_ rfl⟩;all_goals simp(disch:=omega)only[go_sem,id,qSe (bk:=bk) (a:=0) hb]
     ·have e:i=16:=oM;subst e;simp(disch:=omega)only[go_sem];refine⟨⟨fun _=> .inl z,fun h=>absurd h oM⟩,qI.rd id ?_ ?_ rfl⟩;all_goals simp(disch:=omega)only[go_sem,id]
   ·have zz:(s0==0)=false:=by simpa using z
    have c0:=qG0 (u:=u) (a:=0) hv.1 oM;rw[show ((0:Nat):Int)=0 from rfl] at c0;cases ho:onB bk 0
    ·rw[ho] at c0;have hE:zGw bk s0 s1=27:=by
      unfold zGw;rw[if_neg (by rintro (h | h);exact b0 h;exact b1 h),if_pos (.inl ⟨z,ho⟩)]
     rw[zPg,zPf,hE];simp(disch:=omega)only[go_sem,zz,h1,c0]
    ·rw[ho] at c0;have hbl:=hv.1.len ho;have hbn:List.length (bk.getD 0 [])=16:=by simpa [onB] using ho
     simp(disch:=omega)only[go_sem,zz,h1,c0];refine qF 16 (fun i=>[(2,.ref 4096 0 0),(3,.ref 4112 0 0),(7,.sl 9100 0 (List.length (qK3 bk 0 s0 i))),(8,.t (.int .i64 0)),(9,.t (.int .i64 (i:Nat)))]) (fun i=>[(9100,.live 1 (((qK3 bk 0 s0 i).map qA).map V.t) true false),(4112,.live 1 [.t (.int .i64 s0),.t (.int .i64 s1)] true true),(4096,.live 2 [.t (yL bk u)] true true)]) ?_ (fun i hi=>?_)
     ·refine qI.rd id ?_ ?_ rfl;all_goals simp(disch:=omega)only[go_sem,id,zHk,List.append_nil]
     ·have l0:=qD6 hv 0 s0 16;have l1:=qD6 hv 0 s0 i;by_cases hlt:i<16
      ·have hsh:s0.fdiv (2^i)=s0/2^i:=Int.fdiv_eq_ediv_of_nonneg _ (Int.le_of_lt (Int.pow_pos (by decide)));by_cases hb:s0/2^i%2=1
       ·have hvl:=hm.val 0 i;have hx:(bk.getD 0 []).getD i []=zJo bk 0 i:=rfl;simp(disch:=omega)only[go_sem,hsh,hb,hx];refine⟨hlt,qI.rd (fun j=>if j=9100 then 69776 else j) ?_ ?_ rfl⟩;all_goals simp(disch:=omega)only[go_sem,zHj (bk:=bk) (a:=0) hb,List.append_assoc]
        all_goals try omega
       ·simp(disch:=omega)only[go_sem,hsh,hb];refine⟨hlt,qI.rd id ?_ ?_ rfl⟩;all_goals simp(disch:=omega)only[go_sem,id,qSe (bk:=bk) (a:=0) hb]
      ·have e:i=16:=oM;subst e;simp(disch:=omega)only[go_sem];refine⟨⟨fun _=>(by first | exact .inr ho | trivial),fun h=>absurd h oM⟩,qI.rd id ?_ ?_ rfl⟩;all_goals simp(disch:=omega)only[go_sem,id]
  ·by_cases z:s1=0
   ·have zz:(s1==0)=true:=by simpa using z
    simp(disch:=omega)only[go_sem,zz];refine qF 16 (fun i=>[(2,.ref 4096 0 0),(3,.ref 4112 0 0),(7,.sl 9100 0 (List.length (qK3 bk 0 s0 16++qK3 bk 1 s1 i))),(8,.t (.int .i64 1)),(9,.t (.int .i64 (i:Nat)))]) (fun i=>[(9100,.live 1 (((qK3 bk 0 s0 16++qK3 bk 1 s1 i).map qA).map V.t) true false),(4112,.live 1 [.t (.int .i64 s0),.t (.int .i64 s1)] true true),(4096,.live 2 [.t (yL bk u)] true true)]) ?_ (fun i hi=>?_)
    ·refine qI.rd id ?_ ?_ rfl;all_goals simp(disch:=omega)only[go_sem,id,zHk,List.append_nil]
    ·have l0:=qD6 hv 0 s0 16;have l1:=qD6 hv 1 s1 i;by_cases hlt:i<16
     ·have hsh:s1.fdiv (2^i)=s1/2^i:=Int.fdiv_eq_ediv_of_nonneg _ (Int.le_of_lt (Int.pow_pos (by decide)));have hb : ¬ s1/2^i%2=1:=by rw[z];simp
      simp(disch:=omega)only[go_sem,hsh,hb];refine⟨hlt,qI.rd id ?_ ?_ rfl⟩;all_goals simp(disch:=omega)only[go_sem,id,qSe (bk:=bk) (a:=1) hb]
     ·have e:i=16:=oM;subst e;simp(disch:=omega)only[go_sem];refine⟨⟨fun _=>hP.1 oM,fun _=> .inl z⟩,qI.rd id ?_ ?_ rfl⟩;all_goals simp(disch:=omega)only[go_sem,id]
   ·have zz:(s1==0)=false:=by simpa using z
    have c1:=qG0 (u:=u) (a:=1) hv.1 oM;rw[show ((1:Nat):Int)=1 from rfl] at c1;cases ho:onB bk 1
    ·rw[ho] at c1;have hE:zGw bk s0 s1=27:=by
      unfold zGw;rw[if_neg (by rintro (h | h);exact b0 h;exact b1 h),if_pos (.inr ⟨z,ho⟩)]
     rw[zPg,zPf,hE];simp(disch:=omega)only[go_sem,zz,h1,c1]
    ·rw[ho] at c1;have hbl:=hv.1.len ho;have hbn:List.length (bk.getD 1 [])=16:=by simpa [onB] using ho
     simp(disch:=omega)only[go_sem,zz,h1,c1];refine qF 16 (fun i=>[(2,.ref 4096 0 0),(3,.ref 4112 0 0),(7,.sl 9100 0 (List.length (qK3 bk 0 s0 16++qK3 bk 1 s1 i))),(8,.t (.int .i64 1)),(9,.t (.int .i64 (i:Nat)))]) (fun i=>[(9100,.live 1 (((qK3 bk 0 s0 16++qK3 bk 1 s1 i).map qA).map V.t) true false),(4112,.live 1 [.t (.int .i64 s0),.t (.int .i64 s1)] true true),(4096,.live 2 [.t (yL bk u)] true true)]) ?_ (fun i hi=>?_)
     ·refine qI.rd id ?_ ?_ rfl;all_goals simp(disch:=omega)only[go_sem,id,zHk,List.append_nil]
     ·have l0:=qD6 hv 0 s0 16;have l1:=qD6 hv 1 s1 i;by_cases hlt:i<16
      ·have hsh:s1.fdiv (2^i)=s1/2^i:=Int.fdiv_eq_ediv_of_nonneg _ (Int.le_of_lt (Int.pow_pos (by decide)));by_cases hb:s1/2^i%2=1
       ·have hvl:=hm.val 1 i;have hx:(bk.getD 1 []).getD i []=zJo bk 1 i:=rfl;simp(disch:=omega)only[go_sem,hsh,hb,hx];refine⟨hlt,qI.rd (fun j=>if j=9100 then 69776 else j) ?_ ?_ rfl⟩;all_goals simp(disch:=omega)only[go_sem,zHj (bk:=bk) (a:=1) hb,List.append_assoc]
        all_goals try omega
       ·simp(disch:=omega)only[go_sem,hsh,hb];refine⟨hlt,qI.rd id ?_ ?_ rfl⟩;all_goals simp(disch:=omega)only[go_sem,id,qSe (bk:=bk) (a:=1) hb]
      ·have e:i=16:=oM;subst e;simp(disch:=omega)only[go_sem];refine⟨⟨fun _=>hP.1 oM,fun _=>(by first | exact .inr ho | trivial)⟩,qI.rd id ?_ ?_ rfl⟩;all_goals simp(disch:=omega)only[go_sem,id]
  ·have l0:=qD6 hv 0 s0 16;have l1:=qD6 hv 1 s1 16;have p0:=hP.1 oM;have p1:=hP.2 oM;have hE:zGw bk s0 s1=0:=by
    unfold zGw;rw[if_neg (by rintro (h | h);exact b0 h;exact b1 h),if_neg];rintro (⟨h1,h2⟩ | ⟨h1,h2⟩)
    ·rcases p0 with h | h
     ·exact h1 h
     ·rw[h] at h2;cases h2
    ·rcases p1 with h | h
     ·exact h1 h
     ·rw[h] at h2;cases h2
   have hv2:(zV4 bk s0 s1).length≤2048:=by unfold zV4;rw[List.length_append];omega
   have hh2:(zEl s0 s1).length=4:=by unfold zEl;rw[List.length_append,qIv,qIv]
   have hvs:qK3 bk 0 s0 16++qK3 bk 1 s1 16=zV4 bk s0 s1:=rfl;rw[zPg,zPf,if_pos hE,if_pos hE];have hf:(jS 5 [zEl s0 s1,zV4 bk s0 s1]).length<1000000000:=by
    simp only[jS,List.flatMap_cons,List.flatMap_nil,List.length_cons,List.length_append,List.length_nil,qXo];omega
   have hq:=zQt hf;have hhs:beI 2 s0 2++beI 2 s1 2=zEl s0 s1:=rfl;have t2:List.take 2 (beI 2 s0 2)=beI 2 s0 2:=List.take_of_length_le (by rw[qIv];exact Nat.le_refl _);have t4:List.take 4 (zEl s0 s1)=zEl s0 s1:=List.take_of_length_le (by rw[hh2];exact Nat.le_refl _);have hu:=jAe (b:=[]) (n:=s0) (by decide);simp only[List.map_nil,List.length_nil,List.nil_append] at hu;have hu2:=jAe (b:=beI 2 s0 2) (n:=s1) (by rw[qIv];omega);rw[qIv,hhs] at hu2;have tv:List.take (zV4 bk s0 s1).length (zV4 bk s0 s1)=zV4 bk s0 s1:=List.take_of_length_le (Nat.le_refl _);simp(disch:=omega)only[go_sem,hvs,h2,h3,hu,hu2,hq,tv,t2,t4,hh2,qIv];all_goals try rfl
theorem zRe (n:Nat):n &&& 2=n/2%2*2:=by
 have h1:(n &&& 2)/2=n/2%2:=by
  rw[Nat.and_div_two];exact Nat.and_one_is_mod _
 have h2:(n &&& 2)%2=0:=by
  have:=Nat.and_mod_two_pow (a:=n) (b:=2) (n:=1);simpa using this
 omega
theorem jPs {x:Int}:qXp .and .i64 x .i64 2=some (.int .i64 (x/2%2*2)):=by
 have h2:((BitVec.ofInt 64 x &&& BitVec.ofInt 64 2).toNat:Int)=x/2%2*2:=by
  rw[BitVec.toNat_and,BitVec.toNat_ofInt];have e2:(BitVec.ofInt 64 2).toNat=2:=by decide
  rw[e2,zRe];have e3:((2^64:Nat):Int)=18446744073709551616:=by decide
  rw[e3];omega
 change some (T.int IntKind.i64 (IntKind.i64.wrap ((BitVec.ofInt 64 x &&& BitVec.ofInt 64 2).toNat:Int)))=_;rw[h2,xX oM]
attribute [go_sem ↓] jPs
def qLg:Ct where
 α:=List zE×Int×Int×Int
 aS x:=[.t (yL x.1 x.2.1),.t (.agg [.int .i64 x.2.2.1,.int .i64 x.2.2.2])]
 ins _:=[]
 pre x:=RV x.1
 r x:=zPg x.1 x.2.2.1 x.2.2.2
 outs x:=zPf x.1 x.2.2.1 x.2.2.2
 inj:=by
  rintro⟨a,u,l,i⟩ ⟨b,v,l',i'⟩ h _;simp only[List.cons.injEq,V.t.injEq,T.int.injEq,T.agg.injEq,true_and,and_true] at h;obtain⟨h1,rfl,rfl⟩:=h;obtain⟨rfl,rfl⟩:=qCt h1;exact⟨rfl,rfl⟩
theorem Ses.ok0:zN1.Ok:=by refine⟨?_,?_,?_,?_,?_⟩<;>simp[zN1]
theorem jRl {l:List Ses}:qPv 8 (l.map zZ)=true:=by simp only[qPv,List.all_map,List.all_eq_true];intro x _;rfl
theorem zIx {l:List Ix}:qPv 8 (l.map ixA)=true:=by simp only[qPv,List.all_map,List.all_eq_true];intro x _;rfl
theorem jRk {l:List Obj}:qPv 9 (l.map vF)=true:=by simp only[qPv,List.all_map,List.all_eq_true];intro x _;rfl
theorem zLv {l:List Lv}:qPv 2 (l.map lvA)=true:=by simp only[qPv,List.all_map,List.all_eq_true];intro x _;rfl
theorem zK3 {bk:List zE}{u s0 s1:Int}(h:RV bk):(∃ e:Int,e≠0∧qLg.fs [.t (.agg [.sl (bk.map vM),.int .i64 u]),.t (.agg [.int .i64 s0,.int .i64 s1])] []=some (.tup [.nil,.t (.int .i64 e)],[]))∨
  ∃ y:List UInt8,y.length=32∧qLg.fs [.t (.agg [.sl (bk.map vM),.int .i64 u]),.t (.agg [.int .i64 s0,.int .i64 s1])] []=some (.tup [.sl 0 0 32,.t (.int .i64 0)],[.live 1 ((y.map qA).map V.t) true false]):=by
 have he:qLg.fs [.t (.agg [.sl (bk.map vM),.int .i64 u]),.t (.agg [.int .i64 s0,.int .i64 s1])] []=some (zPg bk s0 s1,zPf bk s0 s1):=qLg.eq (bk,u,s0,s1) h;by_cases c:zGw bk s0 s1=0
 ·exact .inr ⟨_,qO,he.trans (by rw[zPg,if_pos c,zPf,if_pos c];rfl)⟩
 ·exact .inl ⟨_,c,he.trans (by rw[zPg,if_neg c,zPf,if_neg c])⟩
theorem zLx {t:Nat}{fs:List (List UInt8)}(ht:t<256)(h1:fs.length≤20)(h2 : ∀ x∈fs,x.length≤4000) : ∃ y:List UInt8,y.length≤200000∧xI.fs [.t (.int .i64 t),.t (.sl (fs.map bsT))] []=some (.sl 0 0 y.length,[.live 1 ((y.map qA).map V.t) true false]):=by
 have hl:=qKh (t:=t) h2;have:(4+4000)*fs.length≤(4+4000)*20:=Nat.mul_le_mul_left _ h1;exact⟨jS t fs,oM,qOp ⟨ht,oM⟩⟩
theorem qQ5 {s:St}(h:s.ses.length=3){k:Int}(h0:0≤k)(h2:k≤2) : ∃ x,s.ses[k.toNat]?=some x∧x∈s.ses:=by
 obtain⟨x,hg,hm,_⟩:=qQ (l:=s.ses) (k:=k.toNat) oM;exact⟨x,hg,hm⟩
def St.sput (s:St)(k:Int)(x:Ses):St := { s with ses:=s.ses.set k.toNat x }
theorem St.sput_ok {s:St}(h:s.Ok){k:Int}{x:Ses}(hx:x.Ok):(s.sput k x).Ok:=by
 refine { h with ses:=⟨by simp[St.sput,h.ses.1],fun y hy=>?_⟩ };rcases List.mem_or_eq_of_mem_set hy with h1 | rfl
 ·exact h.ses.2 y h1
 ·exact hx
theorem St.sput_go {s:St}(h:s.Ok){k:Int}{x:Ses}(hx:x.Ok):s.Go 0 (s.sput k x):=⟨St.sput_ok h hx,fun m hm=>by rw[Int.add_zero];exact hm⟩
theorem zCh  (s:St)(h:Int)(hp:s.ses.length=3∧tmI h) :
  kJ.1.wp tab gl (qD 0 [.t (stA s),.t (.int .i64 h)]) (qD 0 []) (qY [(4,none)] 0 (qHj.K (s,h))):=by
 obtain⟨hp,hh⟩:=hp;by_cases c1:h<768
 ·simp(disch:=omega)only[go_sem,kJ,stA,c1];exact zTe (-1) ⟨.inl rfl,by rw[zI4,if_pos (.inl c1)]⟩ rfl rfl
 by_cases c2:3≤h-768
 ·simp(disch:=omega)only[go_sem,kJ,stA,c1,c2,hp];exact zTe (-1) ⟨.inl rfl,by rw[zI4,if_pos (.inr c2)]⟩ rfl rfl
 obtain⟨x,hg,hm⟩:=qQ5 hp (k:=h-768) oM oM;have hd:s.ses.getD (h-768).toNat zN1=x:=by rw[List.getD_eq_getElem?_getD,hg];rfl
 have hn : ¬ (h<768∨3≤h-768):=oM;by_cases c3:x.kd=0
 ·simp(disch:=omega)only[go_sem,kJ,stA,c1,c2,hp,hg,c3,oms,zZ];exact zTe (-1) ⟨.inl rfl,by rw[zI4,if_neg hn,hd,if_pos c3]⟩ rfl rfl
 ·simp(disch:=omega)only[go_sem,kJ,stA,c1,c2,hp,hg,c3,oms,zZ];exact zTe (h-768) ⟨.inr oM,by rw[zI4,if_neg hn,hd,if_neg c3]⟩ rfl rfl
theorem zFf  (s:St)(k:Int)(x:Ses)(hp:s.ses.length=3∧0≤k∧k≤2) :
  qIe.1.wp tab gl (qD 0 [.t (stA s),.t (.int .i64 k),.t (zZ x)]) (qD 0 []) (qY [(6,(some (30,true)))] 0 (qAv.K (s,k,x))):=by
 obtain⟨q1,q2,q3⟩:=hp;obtain⟨y,hg,hm⟩:=qQ5 q1 q2 q3;simp(maxSteps:=9^9)(disch:=try exact dS)only[go_sem,qIe,stA,zZ,q1,q2,q3,jRl,hg,oms];exact jJ0 (by rw[List.take_of_length_le (by simp[q1])];simp only[stA,List.map_set,zZ]) rfl
theorem zCf {g1}(h1:LkE tab 182 qHj g1)(s:St)(h:Int)(hp:s.Ok∧tmI h) :
  qCg.1.wp tab gl (qD 0 [.t (stA s),.t (.int .i64 h)]) (qD 0 []) (qY [(4,(some (8,true))),(5,none)] 0 (qBc.K (s,h))):=by
 obtain⟨k,⟨hk,hq⟩,e⟩:=zOf (g:=g1) (h:=h) ⟨hp.1.ses.1,hp.2⟩;simp only[stA] at e;rcases hk with rfl | ⟨k0,k1,k2⟩
 ·simp(disch:=omega)only[go_sem,qCg,stA,h1,e];exact jCq zN1 8 ⟨Ses.ok0,oM⟩ rfl rfl
 ·obtain⟨x,hg,hm⟩:=qQ5 hp.1.ses.1 k0 k1;simp(disch:=omega)only[go_sem,qCg,stA,h1,e,k0,hp.1.ses.1,hg,oms,zZ];exact jCq x 0 ⟨hp.1.ses.2 x hm,fun _=>⟨oM,oM⟩⟩ rfl rfl
theorem qY4 {g1}(h1:LkE tab 182 qHj g1){g2}(h2:LkE tab 166 qAv g2)(s:St)(h:Int)(hp:s.Ok∧tmI h) :
  qBk.1.wp tab gl (qD 0 [.t (stA s),.t (.int .i64 h)]) (qD 0 []) (qY [(4,(some (30,true))),(5,none)] 0 (qI4.K (s,h))):=by
 obtain⟨k,⟨hk,hq⟩,e⟩:=zOf (g:=g1) (h:=h) ⟨hp.1.ses.1,hp.2⟩;rcases hk with rfl | ⟨k0,k1,k2⟩
 ·simp only[stA] at e;simp(disch:=omega)only[go_sem,qBk,stA,h1,e];exact jCa default 8 ⟨oM,oM⟩ rfl rfl
 ·have e2:=qW2 (g:=g2) (s:=s) (k:=k) (x:=zN1) ⟨hp.1.ses.1,k0,k1⟩;have hS:=St.sput_go hp.1 (k:=k) Ses.ok0;simp only[stA,zZ,zN1,List.map_nil] at e e2;simp(disch:=omega)only[go_sem,qBk,stA,h1,e,k0,h2,e2];exact jCa (s.sput k zN1) 0 ⟨fun _=>hS,fun _=>rfl⟩ rfl rfl
theorem qPo {g1}(h1:LkE tab 182 qHj g1)(s:St)(h:Int)(hp:s.ses.length=3∧tmI h) :
  yU.1.wp tab gl (qD 0 [.t (stA s),.t (.int .i64 h)]) (qD 0 []) (qY [(4,none)] 0 (qHe.K (s,h))):=by
 obtain⟨k,⟨hk,hq⟩,e⟩:=zOf (g:=g1) (h:=h) hp;simp only[stA] at e;rcases hk with rfl | ⟨k0,k1,k2⟩
 ·simp(disch:=omega)only[go_sem,yU,stA,h1,e];exact zYr (-1) (.inl rfl) rfl rfl
 ·obtain⟨x,hg,hm⟩:=qQ5 hp.1 k0 k1;by_cases c:x.kd=1
  ·simp(disch:=omega)only[go_sem,yU,stA,h1,e,k0,hp.1,hg,oms,zZ,c];exact zYr (-1) (.inl rfl) rfl rfl
  ·simp(disch:=omega)only[go_sem,yU,stA,h1,e,k0,hp.1,hg,oms,zZ,c];exact zYr k (.inr ⟨k0,k1⟩) rfl rfl
theorem qPp (h1:LkC tab 246 qWv){g2}(h2:LkE tab 249 qG6 g2)(a:Asr)(hp:a.B) :
  jO.1.wp tab gl (qD 0 [.t (yX a)]) (qD 0 []) (qY [(2,none)] 0 (qNu.K a)):=by
 obtain⟨x1,_,e1⟩:=zGi (g:=g2) hp;obtain⟨x2,_,e2⟩:=zGi (g:=g2) (a := { a with dg:=z32 }) ⟨by simp[z32],hp.2⟩;obtain⟨kd,s0,s1,dg,n,op,od,nm,rf,br⟩:=a;simp only[yX] at *;have t1:List.take 32 z32=z32:=rfl;have lz:=qQs;by_cases c1:kd=6
 ·subst c1;simp(disch:=omega)only[go_sem,jO,yX];exact zO6 19 trivial rfl rfl
 by_cases c2:kd=9
 ·subst c2;simp(disch:=omega)only[go_sem,jO,yX];exact zO6 19 trivial rfl rfl
 by_cases c3:kd=1
 ·subst c3;by_cases c4:dg.length=0
  ·simp(disch:=omega)only[go_sem,jO,yX,c4,h1,zMz,h2,e2,t1,lz];repeat refine aiG ?_
   exact zO6 _ trivial rfl rfl
  ·simp(disch:=omega)only[go_sem,jO,yX,c4,h2,e1];exact zO6 _ trivial rfl rfl
 ·simp(disch:=omega)only[go_sem,jO,yX,c1,c2,c3,h2,e1];exact zO6 _ trivial rfl rfl
theorem zFe  (l:List Int)(n:Int)(hp:l.length≤1000000) :
  qId.1.wp tab gl (qD 0 [.t (.sl (l.map iT)),.t (.int .i64 n)]) (qD 0 []) (qY [(4,none)] 0 (qG9.K (l,n))):=by
 simp(disch:=omega)only[go_sem,qId];refine qW (σ:=Nat) (fun k=>k≤l.length) (fun k=>l.length-k) (fun k=>[(0,.t (.sl (l.map iT))),(1,.t (.int .i64 n)),(5,.t (.int .i64 k))]) (fun _=>[]) 0 oM (qI.rd id ?_ ?_ rfl) ?_
 ·simp(disch:=omega)only[go_sem,id]
 ·simp(disch:=omega)only[go_sem,id]
 intro k hk;by_cases hlt:k<l.length
 ·obtain⟨x,hg,hm,_⟩:=qQ hlt;by_cases c:x=n
  ·subst c;simp(disch:=omega)only[go_sem,hlt,hg,oms,iT];exact jCy true trivial rfl rfl
  ·simp(disch:=omega)only[go_sem,hlt,hg,oms,iT,c];refine qAf.of (k+1) oM oM (qI.rd id ?_ ?_ rfl);all_goals simp(disch:=omega)only[go_sem,id]
 ·simp(disch:=omega)only[go_sem,hlt];exact jCy false trivial rfl rfl
theorem qUi  (o a b:Int) :
  qB1.1.wp tab gl (qD 0 [.t (.int .i64 o),.t (.int .i64 a),.t (.int .i64 b)]) (qD 0 []) (qY [(6,none)] 0 (qLu.K (o,a,b))):=by
 simp +contextual(disch:=omega)only[go_sem,qB1,↓qB,↓qC,qN]
 (repeat' (first | apply And.intro | intro _))<;>(try rfl)
 all_goals exact jIp _ trivial rfl rfl
theorem qQk (h1:LkC tab 244 qLg)(h2:LkC tab 20 wA)(s:St)(x:Ses)(a:Asr)(hp:s.Ok∧x.Ok∧a.B) :
  zD.1.wp tab gl (qD 0 [.t (stA s),.t (zZ x),.t (yX a)]) (qD 0 []) (qY [(6,(some (8,true))),(7,(some (10,true))),(8,none)] 0 (qNa.K (s,x,a))):=by
 obtain⟨hs,hx,ha⟩:=hp;obtain⟨xk,xn,xd,xu,xl,xc,xt,xv⟩:=x;obtain⟨kd,s0,s1,dg,n,op,od,nm,rf,br⟩:=a;have hrk:=hs.bk.rv;have hy : ∀ (u:Int),Ses.Ok ⟨xk,xn,xd,u,xl,xc,xt,xv⟩:=fun u=>hx
 have hb : ∀ d:List UInt8,d.length=32→Asr.B ⟨kd,s0,s1,d,n,op,od,nm,rf,br⟩:=fun d hd=>⟨by simp only;omega,ha.2⟩
 by_cases k1:xk=2
 ·subst k1;rcases @zK3 s.bk s.u s0 s1 hrk with⟨e,he,e1⟩ | ⟨y,hy2,e1⟩
  ·simp +contextual(maxSteps:=9^9)(disch:=try exact dS)only[go_sem,zD,stA,zZ,yX,h1,h2,e1,he,↓qB,↓qC,qN];repeat refine aiG ?_
   exact qTr _ _ e ⟨hx,ha⟩ rfl rfl
  ·have e2:=yG (a:=dg) (b:=y) ⟨by have:=ha.1;simp only at this;omega,oM⟩;have ty:List.take 32 y=y:=List.take_of_length_le oM;by_cases c1:dg.length=0
   ·obtain rfl:dg=[]:=List.length_eq_zero_iff.1 c1;by_cases c3:xu = -1
    ·subst c3;simp +contextual(maxSteps:=9^9)(disch:=try exact dS)only[go_sem,zD,stA,zZ,yX,h1,h2,e1,ty,hy2,↓qB,↓qC,qN]
     (repeat' (first | apply And.intro | intro _))<;>(try rfl)
     all_goals first | exact qTr ⟨2,xn,xd,_,xl,xc,xt,xv⟩ ⟨kd,s0,s1,y,n,op,od,nm,rf,br⟩ 0 ⟨hy _,hb y hy2⟩ rfl rfl | skip
    ·by_cases c4:xu=s.u
     ·subst c4;simp +contextual(maxSteps:=9^9)(disch:=try exact dS)only[go_sem,zD,stA,zZ,yX,h1,h2,e1,ty,hy2,c3,↓qB,↓qC,qN]
      (repeat' (first | apply And.intro | intro _))<;>(try rfl)
      all_goals first | exact qTr ⟨2,xn,xd,_,xl,xc,xt,xv⟩ ⟨kd,s0,s1,y,n,op,od,nm,rf,br⟩ 0 ⟨hy _,hb y hy2⟩ rfl rfl | skip
     ·simp +contextual(maxSteps:=9^9)(disch:=try exact dS)only[go_sem,zD,stA,zZ,yX,h1,h2,e1,ty,hy2,c3,c4,↓qB,↓qC,qN]
      (repeat' (first | apply And.intro | intro _))<;>(try rfl)
      all_goals first | exact qTr _ _ 12 ⟨hx,ha⟩ rfl rfl | skip
   ·by_cases c2:dg=y
    ·rw[decide_eq_true c2] at e2;by_cases c3:xu = -1
     ·subst c3;simp +contextual(maxSteps:=9^9)(disch:=try exact dS)only[go_sem,zD,stA,zZ,yX,h1,h2,e1,e2,ty,hy2,c1,↓qB,↓qC,qN]
      (repeat' (first | apply And.intro | intro _))<;>(try rfl)
      all_goals first | exact qTr ⟨2,xn,xd,_,xl,xc,xt,xv⟩ ⟨kd,s0,s1,y,n,op,od,nm,rf,br⟩ 0 ⟨hy _,hb y hy2⟩ rfl rfl | skip
     ·by_cases c4:xu=s.u
      ·subst c4;simp +contextual(maxSteps:=9^9)(disch:=try exact dS)only[go_sem,zD,stA,zZ,yX,h1,h2,e1,e2,ty,hy2,c1,c3,↓qB,↓qC,qN]
       (repeat' (first | apply And.intro | intro _))<;>(try rfl)
       all_goals first | exact qTr ⟨2,xn,xd,_,xl,xc,xt,xv⟩ ⟨kd,s0,s1,y,n,op,od,nm,rf,br⟩ 0 ⟨hy _,hb y hy2⟩ rfl rfl | skip
      ·simp +contextual(maxSteps:=9^9)(disch:=try exact dS)only[go_sem,zD,stA,zZ,yX,h1,h2,e1,e2,ty,hy2,c1,c3,c4,↓qB,↓qC,qN]
       (repeat' (first | apply And.intro | intro _))<;>(try rfl)
       all_goals first | exact qTr _ _ 12 ⟨hx,ha⟩ rfl rfl | skip
    ·rw[decide_eq_false c2] at e2;simp +contextual(maxSteps:=9^9)(disch:=try exact dS)only[go_sem,zD,stA,zZ,yX,h1,h2,e1,e2,ty,hy2,c1,↓qB,↓qC,qN]
     (repeat' (first | apply And.intro | intro _))<;>(try rfl)
     all_goals first | exact qTr _ _ 16 ⟨hx,ha⟩ rfl rfl | skip
 ·by_cases c1:dg.length=0
  ·obtain rfl:dg=[]:=List.length_eq_zero_iff.1 c1;rcases @zK3 s.bk s.u s0 s1 hrk with⟨e,he,e1⟩ | ⟨y,hy2,e1⟩
   ·simp +contextual(maxSteps:=9^9)(disch:=try exact dS)only[go_sem,zD,stA,zZ,yX,h1,h2,e1,he,k1,↓qB,↓qC,qN];repeat refine aiG ?_
    exact qTr _ _ e ⟨hx,ha⟩ rfl rfl
   ·have ty:List.take 32 y=y:=List.take_of_length_le oM;simp +contextual(maxSteps:=9^9)(disch:=try exact dS)only[go_sem,zD,stA,zZ,yX,h1,h2,e1,k1,ty,hy2,↓qB,↓qC,qN];repeat refine aiG ?_
    exact qTr ⟨xk,xn,xd,xu,xl,xc,xt,xv⟩ ⟨kd,s0,s1,y,n,op,od,nm,rf,br⟩ 0 ⟨hx,hb y hy2⟩ rfl rfl
  ·simp +contextual(maxSteps:=9^9)(disch:=try exact dS)only[go_sem,zD,stA,zZ,yX,h1,h2,k1,c1,↓qB,↓qC,qN];repeat refine aiG ?_
   exact qTr ⟨xk,xn,xd,xu,xl,xc,xt,xv⟩ ⟨kd,s0,s1,dg,n,op,od,nm,rf,br⟩ 0 ⟨hx,ha⟩ rfl rfl
theorem qY5 {g1}(h1:LkE tab 233 qJa g1)(h2:LkC tab 20 wA){g3}(h3:LkE tab 213 qG9 g3){g4}(h4:LkE tab 281 qLt g4)(s:St)(a:Asr)(hp:s.Ok∧s.cn 1000000∧a.B) :
  qEx.1.wp tab gl (qD 0 [.t (stA s),.t (yX a)]) (qD 0 []) (qY [(4,none)] 0 (qL7.K (s,a))):=by
 obtain⟨hs,hc,ha⟩:=hp;simp(disch:=omega)only[go_sem,qEx,stA,yX];refine qW (σ:=Nat) (fun k=>k≤s.a.ix.length) (fun k=>s.a.ix.length-k) (fun k=>[(2,.ref 4096 0 0),(3,.ref 4112 0 0),(5,.t (.int .i64 k))]) (fun k=>[(4112,.live 10 [.t (yX a)] true true),(4096,.live 30 [.t (stA s)] true true)]) 0 oM (qI.rd id ?_ ?_ rfl) ?_
 ·simp(disch:=omega)only[go_sem,id,stA,yX]
 ·simp(disch:=omega)only[go_sem,id,stA,yX]
 intro k hk;by_cases hlt:k<s.a.ix.length
 ·obtain⟨x,hg,hm,_⟩:=qQ hlt;have hx6:=hs.a.ix.1;have hx:=hs.a.ix.2 x hm;have hx5:=hx.2.2.2.2.1;have hx7:=hx.2.2.2.2.2.2.1;obtain⟨b,hb,e1⟩:=zU0 (g:=g1) (x:=x) oM;have e2:=yG (a:=b) (b:=a.nm) ⟨oM,by have:=ha.2.2.1;omega⟩;obtain⟨r,_,e3⟩:=zG0 (g:=g3) (l:=s.rl) (n:=x.n) (by have:=hc.2.2.2.2.2.1;omega);obtain⟨v,_,e4⟩:=jCd (g:=g4) (o:=a.op) (a:=x.da) (b:=a.od) ⟨oM,by have:=ha.2.1;omega⟩;generalize decide (b=a.nm)=d at *;simp only[ixA] at e1;simp +contextual(disch:=omega)only[go_sem,stA,yX,hlt,hg,oms,ixA,h1,h2,h3,h4,e1,e2,e3,e4,↓qB,↓qC,qN]
  (repeat' (first | apply And.intro | intro _))<;>(try rfl)
  all_goals first | exact jDc _ trivial rfl rfl | skip
  refine qAf.of (k+1) oM oM (qI.rd id ?_ ?_ rfl);all_goals simp(disch:=omega)only[go_sem,id,stA,yX]
 ·simp(disch:=omega)only[go_sem,stA,yX,hlt];exact jDc 7 trivial rfl rfl
theorem qRm (h1:LkC tab 231 xP)(d rf:List UInt8)(hp:d.length≤4000∧rf.length≤4000) :
  qA6.1.wp tab gl (qD 0 [.t (.sl (d.map qA)),.t (.sl (rf.map qA))]) (qD 0 []) (qY [(4,none)] 0 (qIz.K (d,rf))):=by
 obtain⟨z,hz,e⟩:=qOs (t:=9) (fs:=[d,rf]) oM sM (by intro x hx;simp only[List.mem_cons,List.not_mem_nil,or_false] at hx;rcases hx with rfl | rfl;omega;omega);simp only[mcn,bsT] at e;rw[show ((9:Nat):Int)=9 from rfl] at e;simp(disch:=omega)only[go_sem,qA6,h1,e,List.take_length];exact jId z hz rfl rfl
theorem zCg {g1}(h1:LkE tab 19 kS g1)(h2:LkC tab 246 qWv){g3}(h3:LkE tab 166 qAv g3)(s:St)(k:Int)(hp:s.Ok∧s.cn 1000000) :
  qAo.1.wp tab gl (qD 0 [.t (stA s),.t (.int .i64 k)]) (qD 0 []) (qY [(4,(some (30,true))),(5,none),(6,none)] 0 (qMy.K (s,k))):=by
 obtain⟨hs,hc⟩:=hp;have hc5:=hc.2.2.2.2.1;by_cases c1:k<1
 ·simp(maxSteps:=9^9)(disch:=try exact dS)only[go_sem,qAo,stA,c1];exact zRq default 0 1 oM rfl rfl
 by_cases c2:3<k
 ·simp(maxSteps:=9^9)(disch:=try exact dS)only[go_sem,qAo,stA,c1,c2];exact zRq default 0 1 oM rfl rfl
 obtain⟨t,b,⟨ht,hb⟩,e1⟩:=qTt (g:=g1) (s:=s) (n:=16) ⟨hs.a.en,⟨hs.dr,oM⟩,oM,oM⟩;have lb:b.length=16:=by rw[hb];exact qBb
 have tz:List.take 32 z32=z32:=rfl;have lz:=qQs;subst ht;simp(maxSteps:=9^9)(disch:=try exact dS)only[go_sem,qAo,stA,c1,c2];refine qW (σ:=Nat) (fun j=>j≤3) (fun j=>3-j) (fun j=>[(1,.t (.int .i64 k)),(2,.ref 4096 0 0),(4,.ref 4112 0 0),(7,.t (.int .i64 j))]) (fun j=>[(4112,.live 30 [.agg [.nil,.nil,.nil,.t (.int .i64 0),.t (.int .i64 0),.t (.int .i64 0),.t (.int .i64 0),.t (.bool false),.nil,.t (.int .i64 0),.t (.int .i64 0),.nil,.t (.int .i64 0),.t (.int .i64 0),.t (.int .i64 0),.t (.int .i64 0),.t (.int .i64 0),.t (.int .i64 0),.nil,.t (.bool false),.t (.bool false),.nil,.t (.int .i64 0),.t (.int .i64 0),.t (.bool false),.t (.int .i64 0),.nil,.nil,.nil,.nil]] true true),(4096,.live 30 [.t (stA s)] true true)]) 0 oM (qI.rd id ?_ ?_ rfl) ?_
 ·simp(maxSteps:=9^9)(disch:=try exact dS)only[go_sem,id,stA]
 ·simp(maxSteps:=9^9)(disch:=try exact dS)only[go_sem,id,stA]
 intro j hj;by_cases hlt:j<3
 ·obtain⟨x,hg,hm⟩:=qQ5 hs.ses.1 (k:=j) oM oM;rw[Int.toNat_natCast] at hg;by_cases c3:x.kd=0
  ·have e2:=qW2 (g:=g3) (s := { s with dr:=s.dr+1 }) (k:=(j:Int)) (x:=⟨k,b,z32,-1,31,0,0,false⟩) ⟨hs.ses.1,oM,oM⟩;have o1:St.Ok { s with dr:=s.dr+1 } := { hs with dr:=by have:=hs.dr;show 0≤s.dr+1;omega };have o2:=St.sput_ok (k:=(j:Int)) (x:=⟨k,b,z32,-1,31,0,0,false⟩) o1 (by simp only[Ses.Ok];omega);simp only[stA,zZ] at e1 e2;simp(maxSteps:=9^9)(disch:=try exact dS)only[go_sem,stA,hs.ses.1,hlt,hg,oms,zZ,c3,h1,h2,h3,zMz,e1,e2,tz,lz];exact⟨rfl,zRq (St.sput { s with dr:=s.dr+1 } j ⟨k,b,z32,-1,31,0,0,false⟩) (768+j) 0 (fun _=>⟨⟨o2,fun m hm=>by unfold St.cn at *;simp only[St.sput];omega⟩,oM⟩) rfl rfl⟩
  ·simp(maxSteps:=9^9)(disch:=try exact dS)only[go_sem,stA,hs.ses.1,hlt,hg,oms,zZ,c3];refine qAf.of (j+1) oM oM (qI.rd id ?_ ?_ rfl);all_goals simp(maxSteps:=9^9)(disch:=try exact dS)only[go_sem,id,stA]
 ·simp(maxSteps:=9^9)(disch:=try exact dS)only[go_sem,stA,hs.ses.1,hlt];exact zRq default 0 25 oM rfl rfl
theorem qVt {g1}(h1:LkE tab 248 qHe g1){g2}(h2:LkE tab 249 qG6 g2){g3}(h3:LkE tab 250 qFc g3){g4}(h4:LkE tab 166 qAv g4)(s:St)(h:Int)(nm rf:List UInt8)(n:Int)(hp:s.Ok∧nm.length≤4000∧rf.length≤4000∧tmI h) :
  jV.1.wp tab gl (qD 0 [.t (stA s),.t (.int .i64 h),.t (.sl (nm.map qA)),.t (.sl (rf.map qA)),.t (.int .i64 n)]) (qD 0 []) (qY [(10,(some (30,true))),(11,none)] 0 (qNd.K (s,h,nm,rf,n))):=by
 obtain⟨hs,q1,q2,q3⟩:=hp;obtain⟨k,hk,e1⟩:=zMy (g:=g1) (h:=h) ⟨hs.ses.1,q3⟩;obtain⟨w,_,e2⟩:=zGi (g:=g2) (a:=⟨6,0,0,[],0,0,[],nm,rf,[]⟩) ⟨sM,sM,q1,q2,sM,sM⟩;rcases hk with rfl | ⟨k0,k1⟩
 ·simp only[stA] at e1;simp(maxSteps:=9^9)(disch:=try exact dS)only[go_sem,jV,stA,h1,e1];exact qT0 default 8 oM rfl rfl
 by_cases c1:n<0
 ·simp only[stA] at e1;simp(maxSteps:=9^9)(disch:=try exact dS)only[go_sem,jV,stA,h1,e1,k0,c1];exact qT0 default 1 oM rfl rfl
 by_cases c2:1048576<n
 ·simp only[stA] at e1;simp(maxSteps:=9^9)(disch:=try exact dS)only[go_sem,jV,stA,h1,e1,k0,c1,c2];exact qT0 default 1 oM rfl rfl
 obtain⟨x,hg,hm⟩:=qQ5 hs.ses.1 k0 k1;have hx:=hs.ses.2 x hm;have hck:=hs.clk;obtain⟨y,hy,e3⟩:=zAo (g:=g3) (d:=x.dg) (a:=⟨6,0,0,[],0,0,[],nm,rf,[]⟩) ⟨by have:=hx.2.2.1;omega,sM,sM,q1,q2,sM,sM⟩;have put : ∀ dl:Int,(0≤dl∧dl≤1100000000000000) → ∃ t:St,s.Go 0 t∧qAv.fs g4 [.t (stA s),.t (.int .i64 k),.t (zZ { x with dg:=y,dl:=dl })] []=some (.t (stA t),[]):=by
  intro dl hd;exact⟨_,St.sput_go hs (k:=k) (x := { x with dg:=y,dl:=dl }) ⟨hx.1,hx.2.1,hy,hx.2.2.2.1,hd⟩,qW2 ⟨hs.ses.1,k0,k1⟩⟩
 obtain⟨t1,g5,f1⟩:=put x.dl hx.2.2.2.2;obtain⟨t2,g6,f2⟩:=put (s.clk+n) oM;simp only[stA,zZ,yX,List.map_nil] at e1 e2 e3 f1 f2;by_cases c3:n=0
 ·simp +contextual(maxSteps:=9^9)(disch:=try exact dS)only[go_sem,jV,stA,h1,e1,k0,c1,c2,h2,e2,h3,e3,hg,oms,zZ,h4,f1,c3,↓qB,↓qC,qN]
  (repeat' (first | apply And.intro | intro _))<;>(try rfl)
  ·exact qT0 default w (fun e=>absurd e ‹_›) rfl rfl
  ·exact qT0 t1 0 (fun _=>g5) rfl rfl
 ·obtain⟨xk,xn,xd,xu,xl,xc,xt,xv⟩:=x;simp only at *;by_cases c4:xt=0
  ·subst c4;simp +contextual(maxSteps:=9^9)(disch:=try exact dS)only[go_sem,jV,stA,h1,e1,k0,c1,c2,h2,e2,h3,e3,hg,oms,zZ,h4,f2,c3,↓qB,↓qC,qN]
   (repeat' (first | apply And.intro | intro _))<;>(try rfl)
   ·exact qT0 default w (fun e=>absurd e ‹_›) rfl rfl
   ·exact qT0 t2 0 (fun _=>g6) rfl rfl
  ·by_cases c5:s.clk+n<xt
   ·simp +contextual(maxSteps:=9^9)(disch:=try exact dS)only[go_sem,jV,stA,h1,e1,k0,c1,c2,h2,e2,h3,e3,hg,oms,zZ,h4,f2,c3,c4,c5,↓qB,↓qC,qN]
    (repeat' (first | apply And.intro | intro _))<;>(try rfl)
    ·exact qT0 default w (fun e=>absurd e ‹_›) rfl rfl
    ·exact qT0 t2 0 (fun _=>g6) rfl rfl
   ·simp +contextual(maxSteps:=9^9)(disch:=try exact dS)only[go_sem,jV,stA,h1,e1,k0,c1,c2,h2,e2,h3,e3,hg,oms,zZ,h4,f1,c3,c4,c5,↓qB,↓qC,qN]
    (repeat' (first | apply And.intro | intro _))<;>(try rfl)
    ·exact qT0 default w (fun e=>absurd e ‹_›) rfl rfl
    ·exact qT0 t1 0 (fun _=>g5) rfl rfl
theorem qUh {g1}(h1:LkE tab 248 qHe g1){g2}(h2:LkE tab 221 qHg g2){g3}(h3:LkE tab 174 qIz g3){g4}(h4:LkE tab 251 qNs g4){g5}(h5:LkE tab 223 qBd g5){g6}(h6:LkE tab 250 qFc g6){g7}(h7:LkE tab 166 qAv g7)(s:St)(h:Int)(k:Pu)(rf sg:List UInt8)(hp:s.Ok∧k.Ok∧rf.length≤4000∧sg.length≤4000∧tmI h) :
  vE.1.wp tab gl (qD 0 [.t (stA s),.t (.int .i64 h),.t (puA k),.t (.sl (rf.map qA)),.t (.sl (sg.map qA))]) (qD 0 []) (qY [(10,(some (30,true))),(11,none)] 0 (qLm.K (s,h,k,rf,sg))):=by
 obtain⟨hs,hk,q1,q2,q3⟩:=hp;have hk':=hk;obtain⟨p1,p2,p3,p4,p5⟩:=hk';obtain⟨j,hj,e1⟩:=zMy (g:=g1) (h:=h) ⟨hs.ses.1,q3⟩;obtain⟨w,_,e2⟩:=zM1 (g:=g2) (p:=k) ⟨oM,oM⟩;rcases hj with rfl | ⟨k0,k1⟩
 ·simp only[stA] at e1;simp(maxSteps:=9^9)(disch:=try exact dS)only[go_sem,vE,stA,puA,h1,e1];exact qSt default 8 oM rfl rfl
 obtain⟨x,hg,hm⟩:=qQ5 hs.ses.1 k0 k1;have hx:=hs.ses.2 x hm;obtain⟨m,hm2,e3⟩:=zUa (g:=g3) (d:=x.dg) (rf:=rf) ⟨by have:=hx.2.2.1;omega,oM⟩;obtain⟨v,vb,_,e4⟩:=jHc (g:=g4) (p:=k.un) (m:=m) (sg:=sg) ⟨oM,oM,q2⟩;obtain⟨nn,hnn,e5⟩:=qTo (g:=g5) (p:=k) ⟨oM,oM⟩;obtain⟨y,hy,e6⟩:=zAo (g:=g6) (d:=x.dg) (a:=⟨9,0,0,[],0,0,[],nn,rf,[]⟩) ⟨by have:=hx.2.2.1;omega,sM,sM,by simp only;omega,q1,sM,sM⟩;have e7:=qW2 (g:=g7) (s:=s) (k:=j) (x := { x with dg:=y }) ⟨hs.ses.1,k0,k1⟩;have hgo:=St.sput_go hs (k:=j) (x := { x with dg:=y }) ⟨hx.1,hx.2.1,hy,hx.2.2.2⟩;obtain⟨xk,xn,xd,xu,xl,xc,xt,xv⟩:=x;obtain⟨pk,par,pht,ppo,pun⟩:=k;simp only[stA,zZ,yX,puA,List.map_nil] at *;by_cases c2:pk=2
 rotate_left
 ·simp +contextual(maxSteps:=9^9)(disch:=try exact dS)only[go_sem,vE,stA,puA,h1,e1,k0,h2,e2,c2,↓qB,↓qC,qN]
  (repeat' (first | apply And.intro | intro _))<;>(try rfl)
  all_goals first | exact qSt default w (fun e=>absurd e ‹_›) rfl rfl | exact qSt default 19 oM rfl rfl
 subst c2;by_cases c1:xk=2
 ·subst c1;simp +contextual(maxSteps:=9^9)(disch:=try exact dS)only[go_sem,vE,stA,puA,h1,e1,k0,h2,e2,hg,oms,zZ,h3,e3,h4,e4,h5,e5,h6,e6,h7,e7,↓qB,↓qC,qN]
  (repeat' (first | apply And.intro | intro _))<;>(try rfl)
  all_goals first | exact qSt default w (fun e=>absurd e ‹_›) rfl rfl | exact qSt default 4 oM rfl rfl | exact qSt default 17 oM rfl rfl | exact qSt _ 0 (fun _=>hgo) rfl rfl
 ·simp +contextual(maxSteps:=9^9)(disch:=try exact dS)only[go_sem,vE,stA,puA,h1,e1,k0,h2,e2,hg,oms,zZ,h3,e3,h4,e4,h5,e5,h6,e6,h7,e7,c1,↓qB,↓qC,qN]
  (repeat' (first | apply And.intro | intro _))<;>(try rfl)
  all_goals first | exact qSt default w (fun e=>absurd e ‹_›) rfl rfl | exact qSt default 4 oM rfl rfl | exact qSt default 17 oM rfl rfl | exact qSt _ 0 (fun _=>hgo) rfl rfl
theorem jQa {α:Type}{l:List α}(h:(l.length:Int)=0):l=[]:=List.length_eq_zero_iff.1 oM
theorem qOu {α:Type}{l:List α}(h:(l.length:Int)=1) : ∃ a,l=[a]:=List.length_eq_one_iff.1 oM
theorem zXy {α:Type}{l:List α}(h:(l.length:Int)=2) : ∃ a b,l=[a,b]:=by
 match l,h with
 | [a,b],_=>exact⟨a,b,rfl⟩
 | [],h=>simp at h
 | [_],h=>simp at h
 | _::_::_::_,h=>simp at h;omega
theorem zQ6 {α:Type}{l:List α}(h:(l.length:Int)=3) : ∃ a b c,l=[a,b,c]:=by
 match l,h with
 | [a,b,c],_=>exact⟨a,b,c,rfl⟩
 | [],h=>simp at h
 | [_],h=>simp at h
 | [_,_],h=>simp at h
 | _::_::_::_::_,h=>simp at h;omega
theorem Obj.ok0:(default:Obj).Ok:=by refine⟨⟨?_,?_,?_,?_,?_⟩,⟨?_,?_,?_⟩,?_⟩<;>simp[default,instInhabitedObj.default,instInhabitedPu.default,instInhabitedSn.default]
def zVb:Obj:=⟨⟨0,0,0,[],[]⟩,⟨[],[],[]⟩,0⟩
theorem zMr:zVb.Ok:=by refine⟨⟨?_,?_,?_,?_,?_⟩,⟨?_,?_,?_⟩,?_⟩<;>simp[zVb]
def St.oput (s:St)(k:Int)(x:Obj):St := { s with obs:=s.obs.set k.toNat x }
theorem St.oput_ok {s:St}(h:s.Ok){k:Int}{x:Obj}(hx:x.Ok):(s.oput k x).Ok:=by
 refine { h with obs:=⟨by simp[St.oput,h.obs.1],fun y hy=>?_⟩ };rcases List.mem_or_eq_of_mem_set hy with h1 | rfl
 ·exact h.obs.2 y h1
 ·exact hx
theorem St.go_rfl {s:St}(h:s.Ok){k:Int}(hk:0≤k):s.Go k s:=⟨h,St.up.rfl' hk⟩
theorem St.Go.le {s t:St}{k l:Int}(h:s.Go k t)(e:k≤l):s.Go l t:=⟨h.1,h.2.le e⟩
theorem St.oput_go {s:St}(h:s.Ok){k:Int}{x:Obj}(hx:x.Ok):s.Go 0 (s.oput k x):=⟨St.oput_ok h hx,fun m hm=>by rw[Int.add_zero];exact hm⟩
def St.more (s:St):St := { s with dr:=s.dr+1 }
theorem St.more_go {s:St}(h:s.Ok):s.Go 1 s.more:=⟨{ h with dr:=by have:=h.dr;show 0≤s.dr+1;omega },fun m hm=>by unfold St.cn at *;simp only[St.more];omega⟩
theorem jFa {g:EF kS}{s:St}(h:s.Ok)(hc:s.cn 1000000){n:Int}(hn:1≤n∧n≤1024) : ∃ b:List UInt8,b.length=n.toNat∧kS.fs g [.t (stA s),.t (.int .i64 n)] []=some (.tup [.t (stA s.more),.t (.sl (b.map qA))],[]):=by
 obtain⟨t,b,⟨rfl,rfl⟩,e⟩:=qTt (g:=g) (s:=s) (n:=n) ⟨h.a.en,⟨h.dr,by have:=hc.2.2.2.2.1;omega⟩,hn⟩;exact⟨_,qBb,e⟩
theorem qHp {g:EF xR}{s:St}{e:Int} : ∃ r:Rs,xR.fs g [.t (stA s),.t (.int .i64 e)] []=some (.tup [.t (stA s),.t (rsA r)],[]):=by
 obtain⟨t,r,rfl,h⟩:=jE6 (g:=g) (s:=s) (e:=e);exact⟨r,h⟩
theorem qRo  (q:Rq)(hp:3≤q.ns.length∧1≤q.bl.length ∧ ∀ x∈q.bl,x.length≤1024) :
  qA8.1.wp tab gl (qD 0 [.t (rqA q)]) (qD 0 []) (qY [(2,(some (5,true)))] 0 (qJr.K q)):=by
 obtain⟨q1,q2,q3⟩:=hp;obtain⟨co,hh,au,ns,bl⟩:=q;simp only at q1 q2 q3;obtain⟨n0,g0,_,_⟩:=qQ (l:=ns) (k:=0) oM;obtain⟨n1,g1,_,_⟩:=qQ (l:=ns) (k:=1) oM;obtain⟨n2,g2,_,_⟩:=qQ (l:=ns) (k:=2) oM;obtain⟨b0,g3,m3,_⟩:=qQ (l:=bl) (k:=0) oM;have:=q3 b0 m3;simp(disch:=omega)only[go_sem,qA8,rqA,g0,g1,g2,g3,oms,iT];exact⟨rfl,jK5 ⟨n0,n1,n2,b0,[]⟩ ⟨this,rfl⟩ rfl rfl⟩
theorem qV0  (s:St)(e:Int) :
  qC9.1.wp tab gl (qD 0 [.t (stA s),.t (.int .i64 e)]) (qD 0 []) (qY [(4,(some (30,true))),(5,(some (4,true)))] 0 (xR.K (s,e))):=by
 simp(disch:=omega)only[go_sem,qC9,stA];exact jJ9 s ⟨e,[],[],[]⟩ rfl rfl rfl
theorem zCl  (s:St)(hp:s.obs.length=3) :
  qGl.1.wp tab gl (qD 0 [.t (stA s)]) (qD 0 []) (qY [(2,none)] 0 (qI8.K s)):=by
 simp(disch:=omega)only[go_sem,qGl,stA];refine qW (σ:=Nat) (fun k=>k≤3) (fun k=>3-k) (fun k=>[(1,.ref 4096 0 0),(3,.t (.int .i64 k))]) (fun k=>[(4096,.live 30 [.t (stA s)] true true)]) 0 oM (qI.rd id ?_ ?_ rfl) ?_
 ·simp(disch:=omega)only[go_sem,id,stA]
 ·simp(disch:=omega)only[go_sem,id,stA]
 intro k hk;by_cases hlt:k<3
 ·obtain⟨x,hg,hm,_⟩:=qQ (l:=s.obs) (k:=k) oM;by_cases c:x.p.kd=0
  ·simp(disch:=omega)only[go_sem,stA,hp,hlt,hg,oms,vF,c];exact jCr k (.inr oM) rfl rfl
  ·simp(disch:=omega)only[go_sem,stA,hp,hlt,hg,oms,vF,c];refine qAf.of (k+1) oM oM (qI.rd id ?_ ?_ rfl);all_goals simp(disch:=omega)only[go_sem,id,stA]
 ·simp(disch:=omega)only[go_sem,stA,hp,hlt];exact jCr (-1) (.inl rfl) rfl rfl
theorem zFh  (s:St)(k:Int)(x:Obj)(hp:s.obs.length=3∧0≤k∧k≤2) :
  qIm.1.wp tab gl (qD 0 [.t (stA s),.t (.int .i64 k),.t (vF x)]) (qD 0 []) (qY [(6,(some (30,true)))] 0 (qHf.K (s,k,x))):=by
 obtain⟨q1,q2,q3⟩:=hp;obtain⟨y,hg,hm,_⟩:=qQ (l:=s.obs) (k:=k.toNat) oM;simp(maxSteps:=9^9)(disch:=try exact dS)only[go_sem,qIm,stA,vF,q1,q2,q3,jRk,hg,oms];exact jJ1 (by rw[List.take_of_length_le (by simp[q1])];simp only[stA,List.map_set,vF]) rfl
theorem qVz {g1}(h1:LkE tab 142 kT g1)(s:St)(q:Rq)(hp:s.Ok∧1≤q.hs.length∧0≤slP s.obs q.h0 0) :
  qC8.1.wp tab gl (qD 0 [.t (stA s),.t (rqA q)]) (qD 0 []) (qY [(4,(some (9,true)))] 0 (qDu.K (s,q))):=by
 obtain⟨hs,hq,h0⟩:=hp;obtain⟨co,hh,au,ns,bl⟩:=q;simp only[Rq.h0] at hq h0;obtain⟨x,g0,_,hd⟩:=qQ (l:=hh) (k:=0) oM;have hx:hh.getD 0 0=x:=by rw[List.getD_eq_getElem?_getD,g0];rfl
 rw[hx] at h0;have l2:=hs.obs;have e:=qK5 (g:=g1) (h:=x) (s:=s) oM;have r2 := @zJd s.obs x 0;obtain⟨y,hg,hm,_⟩:=qQ (l:=s.obs) (k:=(slP s.obs x 0).toNat) oM;simp only[stA] at e;generalize slP s.obs x 0=j at *;simp(disch:=omega)only[go_sem,qC8,stA,rqA,g0,oms,iT,h1,e,hg,vF,h0];all_goals first | exact jEc y (l2.2 y hm) rfl rfl | exact⟨rfl,jEc y (l2.2 y hm) rfl rfl⟩
theorem qUj {g1}(h1:LkE tab 237 qJr g1)(h2:LkC tab 191 xI)(h3:LkC tab 43 qAd){g4}(h4:LkE tab 169 qHc g4){g5}(h5:LkE tab 238 xR g5){g6}(h6:LkE tab 239 qI8 g6){g7}(h7:LkE tab 240 qHf g7){g8}(h8:LkE tab 171 qBe g8){g9}(h9:LkE tab 223 qBd g9)(s:St)(q:Rq)(hp:(s.Ok∧s.cn 1000000)∧q.Ok∧q.Al s∧q.co=9) :
  wE.1.wp tab gl (qD 0 [.t (stA s),.t (rqA q)]) (qD 0 []) (qY [(4,(some (30,true))),(5,(some (4,true)))] 0 (qM5.K (s,q))):=by
 obtain⟨⟨hs,hc⟩,⟨_,q2,_,q4,q5⟩,al,rfl'⟩:=hp;obtain⟨co,hh,au,ns,bl⟩:=q;simp only at rfl' q2 q4 q5;subst rfl';rw[show qFh 9=(1,1,3,3) from rfl] at q2 q4 q5;obtain⟨h0,rfl⟩:=qOu q2.1;obtain⟨n0,n1',n2',rfl⟩:=zQ6 q4.1;obtain⟨b0,b1,b2,rfl⟩:=zQ6 (l:=bl) (by rcases q5.1 with h | h;exact h;exact absurd h.1 (by decide));have bb:=q5.2;have hb0:=bb b0 sM;have hb1:=bb b1 sM;have hb2:=bb b2 sM;have ha:=al.1 rfl;simp only[Rq.h0,List.getD_cons_zero] at ha;obtain⟨p,⟨lp,pun⟩,e1⟩:=zVz (g:=g1) (q:=⟨9,[h0],au,[n0,n1',n2'],[b0,b1,b2]⟩) ⟨sM,sM,bb⟩;obtain⟨sd,gsd,msd,_⟩:=qQ (l:=s.a.sd) (k:=h0.toNat) (by have:=hs.a.sd.1;omega);have lsd:=hs.a.sd.2 sd msd;obtain⟨fb,lf,e2⟩:=zLx (t:=0) (fs:=[[u8I p.kd,u8I p.ar,u8I p.ht],p.po,b2]) oM sM soM;obtain⟨se,lse,e3⟩:=zH9 (k:=sd) (l:=[112,114,105,109,97,114,121]) (c:=fb) (n:=32) ⟨oM,sM,oM,oM,oM⟩;obtain⟨pb,sn,e,hok,e4⟩:=zMl (g:=g4) (s:=se) (p:=p) (au:=b1) (da:=b2) ⟨oM,oM,oM,oM⟩;obtain⟨r0,e5⟩:=qHp (g:=g5) (s:=s) (e:=e);obtain⟨k,hk,e6⟩:=zUu (g:=g6) (s:=s) hs.obs.1;obtain⟨r1,e7⟩:=qHp (g:=g5) (s:=s) (e:=25);have hG : ∀ {k:Int},0≤k→s.Go k s:=fun hk=>St.go_rfl hs hk
 by_cases c:e=0
 rotate_left
 ·simp only[mcn,bsT,stA,rqA,puA,snA,iT,rsA] at e1 e2 e3 e4 e5;rw[show ((0:Nat):Int)=0 from rfl] at e2;rw[show ((32:Nat):Int)=32 from rfl] at e3;simp(maxSteps:=9^9)(disch:=try exact dS)only[go_sem,wE,stA,rqA,puA,mcn,iT,h1,h2,h3,h4,h5,e1,e2,e3,e4,e5,gsd,ha.1,u8w,c,List.take_length];exact⟨rfl,rfl,zYp s r0 (hG oM) rfl rfl⟩
 obtain⟨po1,sn1⟩:=hok c;subst c;rcases hk with rfl | ⟨k0,k1⟩
 ·simp only[mcn,bsT,stA,rqA,puA,snA,iT,rsA] at e1 e2 e3 e4 e6 e7;rw[show ((0:Nat):Int)=0 from rfl] at e2;rw[show ((32:Nat):Int)=32 from rfl] at e3;simp(maxSteps:=9^9)(disch:=try exact dS)only[go_sem,wE,stA,rqA,puA,mcn,iT,h1,h2,h3,h4,h5,h6,e1,e2,e3,e4,e6,e7,gsd,ha.1,u8w,List.take_length];exact⟨rfl,rfl,zYp s r1 (hG oM) rfl rfl⟩
 ·have e8:=zM0 (g:=g7) (s:=s) (k:=k) (x:=⟨pb,sn,h0⟩) ⟨hs.obs.1,k0,k1⟩;have hgo:=St.oput_go hs (k:=k) (x:=⟨pb,sn,h0⟩) ⟨po1,sn1,ha⟩;obtain⟨x,lx,e9⟩:=qTp (g:=g8) (p:=pb) ⟨by have:=po1.2.2.2.1;omega,by have:=po1.2.2.2.2;omega⟩;obtain⟨y,ly,e10⟩:=qTo (g:=g9) (p:=pb) ⟨by have:=po1.2.2.2.1;omega,by have:=po1.2.2.2.2;omega⟩;simp only[mcn,bsT,stA,rqA,puA,snA,vF,iT,rsA] at e1 e2 e3 e4 e6 e8 e9 e10;rw[show ((0:Nat):Int)=0 from rfl] at e2;rw[show ((32:Nat):Int)=32 from rfl] at e3;simp(maxSteps:=9^9)(disch:=try exact dS)only[go_sem,wE,stA,rqA,puA,mcn,iT,h1,h2,h3,h4,h6,h7,h8,h9,e1,e2,e3,e4,e6,e8,e9,e10,gsd,ha.1,u8w,List.take_length,k0];repeat refine aiG ?_
  exact zYp (s.oput k ⟨pb,sn,h0⟩) ⟨0,[512+k],[x,y],[]⟩ (hgo.le oM) rfl rfl
theorem qVx {g1}(h1:LkE tab 241 qDu g1){g2}(h2:LkE tab 238 xR g2){g3}(h3:LkE tab 19 kS g3){g4}(h4:LkE tab 237 qJr g4){g5}(h5:LkE tab 169 qHc g5){g6}(h6:LkE tab 171 qBe g6){g7}(h7:LkE tab 170 qJl g7)(s:St)(q:Rq)(hp:(s.Ok∧s.cn 1000000)∧q.Ok∧q.Al s∧q.co=10) :
  wY.1.wp tab gl (qD 0 [.t (stA s),.t (rqA q)]) (qD 0 []) (qY [(4,(some (30,true))),(5,(some (4,true)))] 0 (qLv.K (s,q))):=by
 obtain⟨⟨hs,hc⟩,hq,al,rfl'⟩:=hp;have hq':=hq;obtain⟨_,q2,_,q4,q5⟩:=hq';obtain⟨co,hh,au,ns,bl⟩:=q;simp only at rfl' q2 q4 q5;subst rfl';rw[show qFh 10=(1,1,3,3) from rfl] at q2 q4 q5;obtain⟨h0,rfl⟩:=qOu q2.1;obtain⟨n0,n1',n2',rfl⟩:=zQ6 q4.1;obtain⟨b0,b1,b2,rfl⟩:=zQ6 (l:=bl) (by rcases q5.1 with h | h;exact h;exact absurd h.1 (by decide));have bb:=q5.2;have hb1:=bb b1 sM;have hb2:=bb b2 sM;have ha:=al.2.1 (.inl rfl);obtain⟨x,hx,e1⟩:=zA9 (g:=g1) (s:=s) (q:=⟨10,[h0],au,[n0,n1',n2'],[b0,b1,b2]⟩) ⟨hs,sM,ha⟩;obtain⟨r0,e2⟩:=qHp (g:=g2) (s:=s) (e:=19);obtain⟨rn,lrn,e3⟩:=jFa (g:=g3) hs hc (n:=32) oM;obtain⟨p,⟨lp,pun⟩,e4⟩:=zVz (g:=g4) (q:=⟨10,[h0],au,[n0,n1',n2'],[b0,b1,b2]⟩) ⟨sM,sM,bb⟩;obtain⟨pb,sn,e,hok,e5⟩:=zMl (g:=g5) (s:=rn) (p:=p) (au:=b1) (da:=b2) ⟨by rw[lrn];decide,oM,oM,oM⟩;obtain⟨r1,e6⟩:=qHp (g:=g2) (s:=s) (e:=e);have hG : ∀ {k:Int},0≤k→s.Go k s:=fun hk=>St.go_rfl hs hk
 by_cases c1:x.p.kd=1
 rotate_left
 ·simp only[mcn,bsT,stA,rqA,vF,iT,rsA] at e1 e2;simp(maxSteps:=9^9)(disch:=try exact dS)only[go_sem,wY,stA,rqA,vF,mcn,iT,h1,h2,e1,e2,c1];exact zW0 s r0 (hG oM) rfl rfl
 by_cases c:e=0
 rotate_left
 ·simp only[mcn,bsT,stA,St.more,rqA,vF,iT,rsA,puA,snA] at e1 e3 e4 e5 e6;simp(maxSteps:=9^9)(disch:=try exact dS)only[go_sem,wY,stA,rqA,vF,puA,mcn,iT,h1,h2,h3,h4,h5,e1,e3,e4,e5,e6,c1,c];repeat refine aiG ?_
  exact zW0 s r1 (hG oM) rfl rfl
 obtain⟨po1,sn1⟩:=hok c;subst c;obtain⟨y,ly,e7⟩:=qTp (g:=g6) (p:=pb) ⟨by have:=po1.2.2.2.1;omega,by have:=po1.2.2.2.2;omega⟩;obtain⟨z,lz,e8⟩:=zVi (g:=g7) (s:=x.s) (p:=pb) (z:=sn) ⟨hx.2.1,po1,sn1⟩;have hgo:=St.more_go hs;simp only[mcn,bsT,stA,St.more,rqA,vF,iT,rsA,puA,snA] at e1 e3 e4 e5 e7 e8;simp(maxSteps:=9^9)(disch:=try exact dS)only[go_sem,wY,stA,rqA,vF,puA,snA,mcn,iT,h1,h3,h4,h5,h6,h7,e1,e3,e4,e5,e7,e8,c1,List.take_length];repeat refine aiG ?_
 exact zW0 s.more ⟨0,[],[y,z],[]⟩ (hgo.le oM) rfl rfl
theorem zCj {g1}(h1:LkE tab 241 qDu g1){g2}(h2:LkE tab 238 xR g2){g3}(h3:LkE tab 208 qJm g3){g4}(h4:LkE tab 242 qMz g4){g5}(h5:LkE tab 239 qI8 g5){g6}(h6:LkE tab 240 qHf g6){g7}(h7:LkE tab 223 qBd g7)(s:St)(q:Rq)(hp:(s.Ok∧s.cn 1000000)∧q.Ok∧q.Al s∧q.co=11) :
  vX.1.wp tab gl (qD 0 [.t (stA s),.t (rqA q)]) (qD 0 []) (qY [(4,(some (30,true))),(5,(some (4,true)))] 0 (qMp.K (s,q))):=by
 obtain⟨⟨hs,hc⟩,hq,al,rfl'⟩:=hp;have hq':=hq;obtain⟨_,q2,_,q4,q5⟩:=hq';obtain⟨co,hh,au,ns,bl⟩:=q;simp only at rfl' q2 q4 q5;subst rfl';rw[show qFh 11=(1,1,0,2) from rfl] at q2 q4 q5;obtain⟨h0,rfl⟩:=qOu q2.1;obtain rfl:=jQa q4.1;obtain⟨b0,b1,rfl⟩:=zXy (l:=bl) (by rcases q5.1 with h | h;exact h;exact absurd h.1 (by decide));have bb:=q5.2;have hb0:=bb b0 sM;have hb1:=bb b1 sM;have ha:=al.2.1 (.inr (.inl rfl));obtain⟨x,hx,e1⟩:=zA9 (g:=g1) (s:=s) (q:=⟨11,[h0],au,[],[b0,b1]⟩) ⟨hs,sM,ha⟩;obtain⟨r0,e2⟩:=qHp (g:=g2) (s:=s) (e:=19);obtain⟨pb,e,hok,e3⟩:=zVj (g:=g3) (b:=b0) oM;obtain⟨r1,e4⟩:=qHp (g:=g2) (s:=s) (e:=e);have hG : ∀ {k:Int},0≤k→s.Go k s:=fun hk=>St.go_rfl hs hk
 by_cases c1:x.p.kd=1
 rotate_left
 ·simp only[mcn,bsT,stA,rqA,vF,iT,rsA] at e1 e2;simp(maxSteps:=9^9)(disch:=try exact dS)only[go_sem,vX,stA,rqA,vF,mcn,iT,h1,h2,e1,e2,c1];exact zMf s r0 (hG oM) rfl rfl
 by_cases c:e=0
 rotate_left
 ·simp only[mcn,bsT,stA,rqA,vF,iT,rsA,puA] at e1 e3 e4;simp(maxSteps:=9^9)(disch:=try exact dS)only[go_sem,vX,stA,rqA,vF,puA,mcn,iT,bsT,h1,h2,h3,e1,e3,e4,c1,c];exact zMf s r1 (hG oM) rfl rfl
 have po1:=hok c;subst c;obtain⟨sn,e',hok2,e5⟩:=jEi (g:=g4) (s:=x.s) (p:=pb) (b:=b1) ⟨hx.2.1,po1,oM⟩;obtain⟨r2,e6⟩:=qHp (g:=g2) (s:=s) (e:=e');by_cases c:e'=0
 rotate_left
 ·simp only[mcn,bsT,stA,rqA,vF,iT,rsA,puA,snA] at e1 e3 e5 e6;simp(maxSteps:=9^9)(disch:=try exact dS)only[go_sem,vX,stA,rqA,vF,puA,snA,mcn,iT,bsT,h1,h2,h3,h4,e1,e3,e5,e6,c1,c];repeat refine aiG ?_
  exact zMf s r2 (hG oM) rfl rfl
 have sn1:=hok2 c;subst c;obtain⟨k,hk,e7⟩:=zUu (g:=g5) (s:=s) hs.obs.1;obtain⟨r3,e8⟩:=qHp (g:=g2) (s:=s) (e:=25);rcases hk with rfl | ⟨k0,k1⟩
 ·simp only[mcn,bsT,stA,rqA,vF,iT,rsA,puA,snA] at e1 e3 e5 e7 e8;simp(maxSteps:=9^9)(disch:=try exact dS)only[go_sem,vX,stA,rqA,vF,puA,snA,mcn,iT,bsT,h1,h2,h3,h4,h5,e1,e3,e5,e7,e8,c1];repeat refine aiG ?_
  exact zMf s r3 (hG oM) rfl rfl
 have e9:=zM0 (g:=g6) (s:=s) (k:=k) (x:=⟨pb,sn,x.h⟩) ⟨hs.obs.1,k0,k1⟩;have hgo:=St.oput_go hs (k:=k) (x:=⟨pb,sn,x.h⟩) ⟨po1,sn1,hx.2.2⟩;obtain⟨y,ly,e10⟩:=qTo (g:=g7) (p:=pb) ⟨by have:=po1.2.2.2.1;omega,by have:=po1.2.2.2.2;omega⟩;simp only[mcn,bsT,stA,rqA,vF,iT,rsA,puA,snA] at e1 e3 e5 e7 e9 e10;simp(maxSteps:=9^9)(disch:=try exact dS)only[go_sem,vX,stA,rqA,vF,puA,snA,mcn,iT,bsT,h1,h3,h4,h5,h6,h7,e1,e3,e5,e7,e9,e10,c1,k0];repeat refine aiG ?_
 exact zMf (s.oput k ⟨pb,sn,x.h⟩) ⟨0,[512+k],[y],[]⟩ (hgo.le oM) rfl rfl
end Go.Eng
end
