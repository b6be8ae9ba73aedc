/- A part of an abstract machine, its walks, their tie. -/
import Derived.Test.YteglhhgmfnbalaaGreatDoorK20
set_option linter.all false
section
set_option maxHeartbeats 64000000
set_option maxRecDepth 20000
namespace Go.Eng
open List
variable (tab:Tab)(gl:Gl)
def evB (bk:List zD)(n:Nat)(data:List UInt8):List zD:=qSb bk n (qWd bk data)
theorem RK.cases {bk:List zD}(h:RK bk):bk=[]\/∃b0 b1,bk=[b0,b1]/\zD0 b0/\zD0 b1:=by
 cases h with
 |nil=>exact .inl rfl
 |two b0 b1 h0 h1=>exact .inr ⟨b0,b1,rfl,h0,h1⟩
theorem zQs {bk:List zD}{data:List UInt8}:((qWd bk data).getD 0 []).length=if(bk.getD 0 []).length=16 then 20 else 0:=by
 show(if onB bk 0 then zG4 data else []).length=_;unfold onB;by_cases h:(bk.getD 0 []).length=16
 .rw[if_pos h,decide_eq_true h,if_pos rfl,yH]
 .rw[if_neg h,decide_eq_false h];rfl
theorem zQt {bk:List zD}{data:List UInt8}:((qWd bk data).getD 1 []).length=if(bk.getD 1 []).length=16 then 32 else 0:=by
 show(if onB bk 1 then jF data else []).length=_;unfold onB;by_cases h:(bk.getD 1 []).length=16
 .rw[if_pos h,decide_eq_true h,if_pos rfl,qO]
 .rw[if_neg h,decide_eq_false h];rfl
theorem jUi {bk:List zD}{u i:Int}{data:List UInt8}(hi:0<=i/\i<16)(hd:data.length<=128):evR bk u 4 i data=.tup [.t (yR (evB bk i.toNat data) (u+1)),.t (.int .i64 0)]:=by
 have hl:qDu i false<=3:=by unfold qDu;split<;>(try split)<;>(try split)<;>simp_all
 have he:qLd (bk.getD 0 []).length (bk.getD 1 []).length 4 i (qWd bk data).length ((qWd bk data).getD 0 []).length ((qWd bk data).getD 1 []).length=0:=by
  rw[zQs,zQt];have h2:(qWd bk data).length=2:=rfl;rw[h2];unfold qLd;rw[if_neg oM,if_neg oM,if_neg (by rintro (⟨h1,h2⟩|⟨h1,h2⟩)<;>(rw[if_neg h1]at h2;omega)),if_neg (by rintro (⟨h1,h2⟩|⟨h1,h2⟩)<;>exact h2 (if_pos h1))]
 rw[evR,if_neg oM,qT5,if_pos he];rfl
theorem zEo {b0 b1:zD}{i:Nat}{ds:List (List UInt8)}:qSb [b0,b1] i ds=[qC4 0 b0 i (ds.getD 0 []),qC4 1 b1 i (ds.getD 1 [])]:=rfl
theorem jL5 {bk:List zD}{u i:Int}{data:List UInt8}(hv:RV bk)(hu:0<=u/\u<1000000000)(hi:0<=i/\i<16)(hd:data.length<=128):zQo.fs [.t (.agg [.sl (bk.map vU),.int .i64 u]),.t (.int .i64 4),.t (.int .i64 i),.t (.sl (data.map qA))] []=some (.tup [.t (.agg [.sl ((evB bk i.toNat data).map vU),.int .i64 (u+1)]),.t (.int .i64 0)],[]):=by
 have hE:=zQo.eq (bk,u,4,i,data) ⟨hv,hu,by show data.length<1000000000;omega⟩;have hE2:zQo.fs [.t (.agg [.sl (bk.map vU),.int .i64 u]),.t (.int .i64 4),.t (.int .i64 i),.t (.sl (data.map qA))] []=some (evR bk u 4 i data,[]):=hE;rw[hE2,jUi hi hd];rfl
theorem RV.ev {bk:List zD}(h:RV bk)(n:Nat)(d:List UInt8):RV (evB bk n d):=h.ext _ _
def yQ:Ct where
 α:=List UInt8×Nat×Int
 aS x:=[.t (.sl (x.1.map qA)),.t (.int .i64 x.2.1),.t (.int .i64 x.2.2)]
 ins _:=[]
 pre x:=x.1.length<1000000000/\1<=x.2.1/\x.2.1<=8
 r x:= .sl 0 0 (x.1.length+x.2.1)
 outs x:=[.live 1 (((x.1++beI x.2.1 x.2.2 x.2.1).map qA).map V.t) true false]
 inj:=by
  rintro⟨a,s,n⟩ ⟨c,t,m⟩ h _;simp only[List.cons.injEq,V.t.injEq,T.sl.injEq,T.int.injEq,true_and,and_true,jC,Int.natCast_inj]at h;obtain⟨rfl,rfl,rfl⟩:=h;exact⟨rfl,rfl⟩
theorem qLs {b:List UInt8}{n:Int}(hb:b.length<1000000000):yQ.fs [.t (.sl (b.map qA)),.t (.int .i64 2),.t (.int .i64 n)] []=some (.sl 0 0 (b.length+2),[.live 1 (((b++beI 2 n 2).map qA).map V.t) true false]):=yQ.eq (b,2,n) ⟨hb,by show 1<=2;omega,by show 2<=8;omega⟩
theorem qN {s k:Nat}{n:Int}:(beI s n k).length=k:=by simp[beI]
def qC5 (bk:List zD)(a:Nat)(s:Int):Nat->List UInt8
 |0=>[]
 |i+1=>if s/2^i%2=1 then qC5 bk a s i++zG6 bk a i else qC5 bk a s i
theorem qBq {n:Nat}:(zJ8 n).length=4:=rfl
theorem qTy {bk:List zD}{a:Nat}{s:Int}:qC5 bk a s 0=[]:=rfl
theorem qVg {bk:List zD}{a i:Nat}{s:Int}(h:s/2^i%2=1):qC5 bk a s (i+1)=qC5 bk a s i++zG6 bk a i:=if_pos h
theorem qF6 {bk:List zD}{a i:Nat}{s:Int}(h:¬ s/2^i%2=1):qC5 bk a s (i+1)=qC5 bk a s i:=if_neg h
def PD (A B:Prop)(k:Nat):Prop:=(1<=k->A)/\(2<=k->B)
def zDz (s:Int):Prop:=s<0\/65535<s
instance {s:Int}:Decidable (zDz s):=inferInstanceAs (Decidable (_\/_))
def qCz (s0 s1:Int):List UInt8:=beI 2 s0 2++beI 2 s1 2
def zG7 (bk:List zD)(s0 s1:Int):List UInt8:=qC5 bk 0 s0 16++qC5 bk 1 s1 16
def qR5 (bk:List zD)(s0 s1:Int):Int:=if zDz s0\/zDz s1 then 1 else if(s0≠0/\onB bk 0=false)\/(s1≠0/\onB bk 1=false) then 27 else 0
def zHv (bk:List zD)(s0 s1:Int):V:=if qR5 bk s0 s1=0 then .tup [.sl 0 0 32,.t (.int .i64 0)] else .tup [.nil,.t (.int .i64 (qR5 bk s0 s1))]
def zHu (bk:List zD)(s0 s1:Int):List Ob:=if qR5 bk s0 s1=0 then [.live 1 (((kX 5 [qCz s0 s1,zG7 bk s0 s1]).map qA).map V.t) true false] else []
theorem vX {bk:List zD}(h:RV bk)(a:Nat)(s:Int):∀i,(qC5 bk a s i).length<=64*i
 |0=>by simp[qC5]
 |i+1=>by
  have ih:=vX h a s i;have hv:(zG6 bk a i).length<=64:=by
   unfold zG6;rcases h.cases with rfl|⟨b0,b1,rfl,_,_,m0,m1⟩
   .simp
   .match a with
    |0=>exact qPg m0
    |1=>exact qPg m1
    |a+2=>simp
  unfold qC5;split
  .rw[length_append];omega
  .omega
def yP:Ct where
 α:=Nat×List (List UInt8)
 aS x:=[.t (.int .i64 x.1),.t (.sl (x.2.map bsT))]
 ins _:=[]
 pre x:=x.1<256/\(zB x.1 x.2).length<1000000000
 r _:= .sl 0 0 32
 outs x:=[.live 1 (((kX x.1 x.2).map qA).map V.t) true false]
 inj:=by
  rintro⟨a,b⟩ ⟨c,d⟩ h _;simp[qC0,Int.natCast_inj]at h;obtain⟨rfl,rfl⟩:=h;exact⟨rfl,rfl⟩
theorem zLd {x y:List UInt8}(h:(zB 5 [x,y]).length<1000000000):yP.fs [.t (.int .i64 5),.t (.sl [.sl (x.map qA),.sl (y.map qA)])] []=some (.sl 0 0 32,[.live 1 (((kX 5 [x,y]).map qA).map V.t) true false]):=yP.eq (5,[x,y]) ⟨by show 5<256;omega,h⟩
theorem qRn (h1:LkC tab 63 yQ)(h2:LkC tab 233 qL8)(h3:LkC tab 102 yP)(bk:List zD)(u s0 s1:Int)(hv:RV bk) :
  qAv.1.wp tab gl (qD 0 [.t (yR bk u),.t (.agg [.int .i64 s0,.int .i64 s1])]) (qD 0 []) (xO [] [(4,none),(5,none)] 0 (λr o=>r=zHv bk s0 s1/\o=zHu bk s0 s1)):=by
 simp(disch:=omega)only[go_sem,qAv];have t2:List.take 2 (beI 2 s0 2)=beI 2 s0 2:=take_of_length_le (by rw[qN];exact Nat.le_refl _);have t4:List.take 4 (beI 2 s0 2++beI 2 s1 2)=beI 2 s0 2++beI 2 s1 2:=take_of_length_le (by rw[length_append,qN,qN];exact Nat.le_refl _);by_cases b0:zDz s0
 .have hE:qR5 bk s0 s1=1:=by unfold qR5;rw[if_pos (.inl b0)]
  rw[zHv,zHu,hE];unfold zDz at b0;refine qJ 1 ?_;by_cases c0:s0<0
  .simp(disch:=omega)only[go_sem,qF,c0]
  .simp(disch:=omega)only[go_sem,qF,c0]
 have hb0:¬ s0<0/\¬ 65535<s0:=by unfold zDz at b0;omega
 obtain⟨c0,d0⟩:=hb0;have hm:=hv.rm;have hu:=qLs (b:=[]) (n:=s0) (by decide);simp only[map_nil,length_nil,nil_append]at hu;by_cases b1:zDz s1
 .have hE:qR5 bk s0 s1=1:=by unfold qR5;rw[if_pos (.inr b1)]
  rw[zHv,zHu,hE];unfold zDz at b1;refine qJ 2 ?_;by_cases c1:s1<0
  .simp(disch:=omega)only[go_sem,qF,c0,d0,c1,h1,hu,map_nil]
  .simp(disch:=omega)only[go_sem,qF,c0,d0,c1,h1,hu,map_nil]
 have hb1:¬ s1<0/\¬ 65535<s1:=by unfold zDz at b1;omega
 obtain⟨c1,d1⟩:=hb1;refine qB 2 (λk=>match k with
  |0=>[(2,.ref 4096 0 0),(3,.ref 4112 0 0),(6,.t (.sl (([]:List UInt8).map qA))),(7,.nil),(13,.t (.agg [.int .i64 s0,.int .i64 s1])),(14,.t (.int .i64 0))]
  |1=>[(2,.ref 4096 0 0),(3,.ref 4112 0 0),(6,.t (.sl ((beI 2 s0 2).map qA))),(7,.nil),(13,.t (.agg [.int .i64 s0,.int .i64 s1])),(14,.t (.int .i64 1))]
  |_=>[(2,.ref 4096 0 0),(3,.ref 4112 0 0),(6,.t (.sl ((qCz s0 s1).map qA))),(7,.nil),(13,.t (.agg [.int .i64 s0,.int .i64 s1])),(14,.t (.int .i64 2))])
  (λ_=>[(4112,.live 1 [.t (.int .i64 s0),.t (.int .i64 s1)] true true),(4096,.live 2 [.t (yR bk u)] true true)]) ?_ (λk hk=>?_)
 .refine qL.rd id ?_ ?_ rfl;all_goals simp(disch:=omega)only[go_sem,id,map_nil]
 .rcases(show k=0\/k=1\/k=2 by omega)with rfl|rfl|rfl
  .simp(disch:=omega)only[go_sem,c0,d0,h1,hu,map_nil];refine qL.cv (hv:=[]) [32800] id ?_ rfl;simp(disch:=omega)only[go_sem,id,qN,t2];rfl
  .have hu:=qLs (b:=beI 2 s0 2) (n:=s1) (by rw[qN];omega);rw[qN]at hu;simp(disch:=omega)only[go_sem,c1,d1,h1,hu];refine qL.cv (hv:=[]) [32800] id ?_ rfl;simp(disch:=omega)only[go_sem,id,qN,qCz,t4];rfl
  .simp(disch:=omega)only[go_sem];refine zAi 2 (PD (s0=0\/onB bk 0=true) (s1=0\/onB bk 1=true)) (λk=>match k with|0=>[(2,.ref 4096 0 0),(6,.t (.sl ((qCz s0 s1).map qA))),(7,.sl 9100 0 (List.length ([]:List UInt8))),(27,.t (.agg [.int .i64 s0,.int .i64 s1])),(28,.t (.int .i64 0))]|1=>[(2,.ref 4096 0 0),(6,.t (.sl ((qCz s0 s1).map qA))),(7,.sl 9100 0 (List.length (qC5 bk 0 s0 16))),(27,.t (.agg [.int .i64 s0,.int .i64 s1])),(28,.t (.int .i64 1))]|_=>[(2,.ref 4096 0 0),(6,.t (.sl ((qCz s0 s1).map qA))),(7,.sl 9100 0 (List.length (qC5 bk 0 s0 16++qC5 bk 1 s1 16))),(27,.t (.agg [.int .i64 s0,.int .i64 s1])),(28,.t (.int .i64 2))]) (λk=>match k with|0=>[(9100,.live 1 ((([]:List UInt8).map qA).map V.t) true false),(4096,.live 2 [.t (yR bk u)] true true)]|1=>[(9100,.live 1 (((qC5 bk 0 s0 16).map qA).map V.t) true false),(4096,.live 2 [.t (yR bk u)] true true)]|_=>[(9100,.live 1 (((qC5 bk 0 s0 16++qC5 bk 1 s1 16).map qA).map V.t) true false),(4096,.live 2 [.t (yR bk u)] true true)]) ⟨λh=>absurd h oM,λh=>absurd h oM⟩ ?_ (λk hk hP=>?_)
   .refine qL.cv0 (hv:=[(9100,.live 1 [] true false)]) (ho:=[(4096,.live 2 [.t (yR bk u)] true true)]) id ?_ ?_ rfl rfl;all_goals simp(disch:=omega)only[go_sem,id,mcn,length_nil]
   .rcases(show k=0\/k=1\/k=2 by omega)with rfl|rfl|rfl
    .by_cases z:s0=0
     .have zz:(s0==0)=true:=by simpa using z
      simp(disch:=omega)only[go_sem,zz];refine qB 16 (λi=>[(2,.ref 4096 0 0),(6,.t (.sl ((qCz s0 s1).map qA))),(7,.sl 9100 0 (List.length (qC5 bk 0 s0 i))),(10,.t (.int .i64 0)),(11,.t (.int .i64 s0)),(27,.t (.agg [.int .i64 s0,.int .i64 s1])),(28,.t (.int .i64 0)),(40,.t (.int .i64 (i:Nat)))]) (λi=>[(9100,.live 1 (((qC5 bk 0 s0 i).map qA).map V.t) true false),(4096,.live 2 [.t (yR bk u)] true true)]) ?_ (λi hi=>?_)
      .refine qL.rd id ?_ ?_ rfl;all_goals simp(disch:=omega)only[go_sem,id,qTy,append_nil]
      .have l0:=vX hv 0 s0 16;have l1:=vX hv 0 s0 i;by_cases hlt:i<16
       .have hsh:s0.fdiv (2^i)=s0/2^i:=Int.fdiv_eq_ediv_of_nonneg _ (Int.le_of_lt (Int.pow_pos (by decide)));have hb:¬ s0/2^i%2=1:=by rw[z];simp
        simp(disch:=omega)only[go_sem,hsh,hb];refine⟨hlt,qL.rd id ?_ ?_ rfl⟩;all_goals simp(disch:=omega)only[go_sem,id,qF6 (bk:=bk) (a:=0) hb]
       .have e:i=16:=oM;subst e;simp(disch:=omega)only[go_sem];refine⟨⟨λ_=>.inl z,λh=>absurd h oM⟩,qL.rd id ?_ ?_ rfl⟩;all_goals simp(disch:=omega)only[go_sem,id]
     .have zz:(s0==0)=false:=by simpa using z
      have c0:=zSt (u:=u) (a:=0) hv.1 oM;rw[show((0:Nat):Int)=0 from rfl]at c0;cases ho:onB bk 0
      .rw[ho]at c0;have hE:qR5 bk s0 s1=27:=by
        unfold qR5;rw[if_neg (by rintro (h|h);exact b0 h;exact b1 h),if_pos (.inl ⟨z,ho⟩)]
       rw[zHv,zHu,hE];simp(disch:=omega)only[go_sem,zz,h2,c0]
      .rw[ho]at c0;have hbl:=hv.1.len ho;have hbn:List.length (bk.getD 0 [])=16:=by simpa [onB]using ho
       simp(disch:=omega)only[go_sem,zz,h2,c0];refine qB 16 (λi=>[(2,.ref 4096 0 0),(6,.t (.sl ((qCz s0 s1).map qA))),(7,.sl 9100 0 (List.length (qC5 bk 0 s0 i))),(10,.t (.int .i64 0)),(11,.t (.int .i64 s0)),(27,.t (.agg [.int .i64 s0,.int .i64 s1])),(28,.t (.int .i64 0)),(40,.t (.int .i64 (i:Nat)))]) (λi=>[(9100,.live 1 (((qC5 bk 0 s0 i).map qA).map V.t) true false),(4096,.live 2 [.t (yR bk u)] true true)]) ?_ (λi hi=>?_)
       .refine qL.rd id ?_ ?_ rfl;all_goals simp(disch:=omega)only[go_sem,id,qTy,append_nil]
       .have l0:=vX hv 0 s0 16;have l1:=vX hv 0 s0 i;by_cases hlt:i<16
        .have hsh:s0.fdiv (2^i)=s0/2^i:=Int.fdiv_eq_ediv_of_nonneg _ (Int.le_of_lt (Int.pow_pos (by decide)));by_cases hb:s0/2^i%2=1
         .have hvl:=hm.val 0 i;have hx:(bk.getD 0 []).getD i []=zG6 bk 0 i:=rfl;simp(disch:=omega)only[go_sem,hsh,hb,hx];refine⟨hlt,qL.rd (λj=>if j=9100 then 77968 else j) ?_ ?_ rfl⟩;all_goals simp(disch:=omega)only[go_sem,qVg (bk:=bk) (a:=0) hb,append_assoc]
          all_goals try omega
         .simp(disch:=omega)only[go_sem,hsh,hb];refine⟨hlt,qL.rd id ?_ ?_ rfl⟩;all_goals simp(disch:=omega)only[go_sem,id,qF6 (bk:=bk) (a:=0) hb]
        .have e:i=16:=oM;subst e;simp(disch:=omega)only[go_sem];refine⟨⟨λ_=>(by first|exact .inr ho|trivial),λh=>absurd h oM⟩,qL.rd id ?_ ?_ rfl⟩;all_goals simp(disch:=omega)only[go_sem,id]
    .by_cases z:s1=0
     .have zz:(s1==0)=true:=by simpa using z
      simp(disch:=omega)only[go_sem,zz];refine qB 16 (λi=>[(2,.ref 4096 0 0),(6,.t (.sl ((qCz s0 s1).map qA))),(7,.sl 9100 0 (List.length (qC5 bk 0 s0 16++qC5 bk 1 s1 i))),(10,.t (.int .i64 1)),(11,.t (.int .i64 s1)),(27,.t (.agg [.int .i64 s0,.int .i64 s1])),(28,.t (.int .i64 1)),(40,.t (.int .i64 (i:Nat)))]) (λi=>[(9100,.live 1 (((qC5 bk 0 s0 16++qC5 bk 1 s1 i).map qA).map V.t) true false),(4096,.live 2 [.t (yR bk u)] true true)]) ?_ (λi hi=>?_)
      .refine qL.rd id ?_ ?_ rfl;all_goals simp(disch:=omega)only[go_sem,id,qTy,append_nil]
      .have l0:=vX hv 0 s0 16;have l1:=vX hv 1 s1 i;by_cases hlt:i<16
       .have hsh:s1.fdiv (2^i)=s1/2^i:=Int.fdiv_eq_ediv_of_nonneg _ (Int.le_of_lt (Int.pow_pos (by decide)));have hb:¬ s1/2^i%2=1:=by rw[z];simp
        simp(disch:=omega)only[go_sem,hsh,hb];refine⟨hlt,qL.rd id ?_ ?_ rfl⟩;all_goals simp(disch:=omega)only[go_sem,id,qF6 (bk:=bk) (a:=1) hb]
       .have e:i=16:=oM;subst e;simp(disch:=omega)only[go_sem];refine⟨⟨λ_=>hP.1 oM,λ_=>.inl z⟩,qL.rd id ?_ ?_ rfl⟩;all_goals simp(disch:=omega)only[go_sem,id]
     .have zz:(s1==0)=false:=by simpa using z
      have c1:=zSt (u:=u) (a:=1) hv.1 oM;rw[show((1:Nat):Int)=1 from rfl]at c1;cases ho:onB bk 1
      .rw[ho]at c1;have hE:qR5 bk s0 s1=27:=by
        unfold qR5;rw[if_neg (by rintro (h|h);exact b0 h;exact b1 h),if_pos (.inr ⟨z,ho⟩)]
       rw[zHv,zHu,hE];simp(disch:=omega)only[go_sem,zz,h2,c1]
      .rw[ho]at c1;have hbl:=hv.1.len ho;have hbn:List.length (bk.getD 1 [])=16:=by simpa [onB]using ho
       simp(disch:=omega)only[go_sem,zz,h2,c1];refine qB 16 (λi=>[(2,.ref 4096 0 0),(6,.t (.sl ((qCz s0 s1).map qA))),(7,.sl 9100 0 (List.length (qC5 bk 0 s0 16++qC5 bk 1 s1 i))),(10,.t (.int .i64 1)),(11,.t (.int .i64 s1)),(27,.t (.agg [.int .i64 s0,.int .i64 s1])),(28,.t (.int .i64 1)),(40,.t (.int .i64 (i:Nat)))]) (λi=>[(9100,.live 1 (((qC5 bk 0 s0 16++qC5 bk 1 s1 i).map qA).map V.t) true false),(4096,.live 2 [.t (yR bk u)] true true)]) ?_ (λi hi=>?_)
       .refine qL.rd id ?_ ?_ rfl;all_goals simp(disch:=omega)only[go_sem,id,qTy,append_nil]
       .have l0:=vX hv 0 s0 16;have l1:=vX hv 1 s1 i;by_cases hlt:i<16
        .have hsh:s1.fdiv (2^i)=s1/2^i:=Int.fdiv_eq_ediv_of_nonneg _ (Int.le_of_lt (Int.pow_pos (by decide)));by_cases hb:s1/2^i%2=1
         .have hvl:=hm.val 1 i;have hx:(bk.getD 1 []).getD i []=zG6 bk 1 i:=rfl;simp(disch:=omega)only[go_sem,hsh,hb,hx];refine⟨hlt,qL.rd (λj=>if j=9100 then 77968 else j) ?_ ?_ rfl⟩;all_goals simp(disch:=omega)only[go_sem,qVg (bk:=bk) (a:=1) hb,append_assoc]
          all_goals try omega
         .simp(disch:=omega)only[go_sem,hsh,hb];refine⟨hlt,qL.rd id ?_ ?_ rfl⟩;all_goals simp(disch:=omega)only[go_sem,id,qF6 (bk:=bk) (a:=1) hb]
        .have e:i=16:=oM;subst e;simp(disch:=omega)only[go_sem];refine⟨⟨λ_=>hP.1 oM,λ_=>by first|exact .inr ho|trivial⟩,qL.rd id ?_ ?_ rfl⟩;all_goals simp(disch:=omega)only[go_sem,id]
    .have l0:=vX hv 0 s0 16;have l1:=vX hv 1 s1 16;have p0:=hP.1 oM;have p1:=hP.2 oM;have hE:qR5 bk s0 s1=0:=by
      unfold qR5;rw[if_neg (by rintro (h|h);exact b0 h;exact b1 h),if_neg];rintro (⟨h1,h2⟩|⟨h1,h2⟩)
      .rcases p0 with h|h
       .exact h1 h
       .rw[h]at h2;cases h2
      .rcases p1 with h|h
       .exact h1 h
       .rw[h]at h2;cases h2
     have hv2:(zG7 bk s0 s1).length<=2048:=by unfold zG7;rw[length_append];omega
     have hh2:(qCz s0 s1).length=4:=by unfold qCz;rw[length_append,qN,qN]
     have hvs:qC5 bk 0 s0 16++qC5 bk 1 s1 16=zG7 bk s0 s1:=rfl;rw[zHv,zHu,if_pos hE,if_pos hE];have hf:(zB 5 [qCz s0 s1,zG7 bk s0 s1]).length<1000000000:=by
      simp only[zB,flatMap_cons,flatMap_nil,length_cons,length_append,length_nil,qBq];omega
     have hq:=zLd hf;have tv:List.take (zG7 bk s0 s1).length (zG7 bk s0 s1)=zG7 bk s0 s1:=take_of_length_le (Nat.le_refl _);simp(disch:=omega)only[go_sem,hvs,h3,hq,tv]
def zPd (bk:List zD)(u:Int):List UInt8:=UInt8.ofNat (qZ6 bk).toNat::beI 8 u 8
theorem qQj {bk:List zD}{u:Int}:(zPd bk u).length=9:=by simp[zPd,beI]
def qDn (bk:List zD)(u:Int):List UInt8:=zPd bk u++bk.flatten.flatten
theorem qPd {b:zD}(h:∀x∈b,x.length<=64):∀i,(List.take i b).flatten.length<=64*i
 |0=>sM
 |i+1=>by
  have ih:=qPd h i;by_cases hi:i<List.length b
  .rw[qLr (d:=[]) hi,flatten_append,length_append];have:=qPg (n:=i) h;simp only[flatten_cons,flatten_nil,append_nil];omega
  .rw[take_of_length_le oM,<-take_of_length_le (l:=b) (i:=i) oM];omega
theorem zF2 {b:zD}{i:Nat}(h:i<List.length b):(List.take (i+1) b).flatten=(List.take i b).flatten++b.getD i []:=by
 rw[qLr (d:=[]) h,flatten_append];simp
theorem qUd {b:List UInt8}{n:Int}(hb:b.length<1000000000):yQ.fs [.t (.sl (b.map qA)),.t (.int .i64 8),.t (.int .i64 n)] []=some (.sl 0 0 (b.length+8),[.live 1 (((b++beI 8 n 8).map qA).map V.t) true false]):=yQ.eq (b,8,n) ⟨hb,by show 1<=8;omega,by show 8<=8;omega⟩
theorem zPo {bk:List zD}(hk:RK bk):0<=qZ6 bk/\qZ6 bk<4:=by
 rcases hk.cases with rfl|⟨b0,b1,rfl,h0,h1⟩
 .exact⟨by decide,by decide⟩
 .show 0<=zDy b0 b1/\zDy b0 b1<4;unfold zDy;split<;>split<;>decide
theorem qRo (h1:LkC tab 105 kD)(h2:LkC tab 63 yQ)(bk:List zD)(u:Int)(hv:RV bk) :
  wQ.1.wp tab gl (qD 0 [.t (yR bk u)]) (qD 0 []) (xO [] [(2,none)] 0 (λr o=>r=.sl 0 0 (qDn bk u).length/\o=[.live 1 (((qDn bk u).map qA).map V.t) true false])):=by
 have ha:=zD3 (u:=u) hv.1;have hact:=zPo hv.1;obtain⟨m,hm⟩:=Int.eq_ofNat_of_zero_le hact.1;have hu:=qUd (b:=[UInt8.ofNat m]) (n:=u) sM;simp only[mcn]at hu;rw[hm]at ha;have hbk:UInt8.ofNat m::beI 8 u 8=zPd bk u:=by unfold zPd;rw[hm];rfl
 rcases hv.cases with rfl|⟨b0,b1,rfl,g0,g1,m0,m1⟩
 .rw[map_nil]at ha;simp(disch:=omega)only[go_sem,wQ,h1,h2,ha,hu,map_nil];repeat refine And.intro rfl ?_
  refine qJ 1 ?_;simp(disch:=omega)only[go_sem,qF];have e1:qDn [] u=zPd [] u:=by simp[qDn]
  rw[e1];refine⟨qQj.symm,?_⟩;rw[<-hbk];rfl
 .simp only[mcn,zD7]at ha;have q0:List.length b0<=16:=by rcases g0 with h|h<;>omega
  have q1:List.length b1<=16:=by rcases g1 with h|h<;>omega
  have f0:b0.flatten.length<=1024:=by have:=qPd m0 16;rw[take_of_length_le q0]at this;omega
  have f1:b1.flatten.length<=1024:=by have:=qPd m1 16;rw[take_of_length_le q1]at this;omega
  have hl9:=qQj (bk:=[b0,b1]) (u:=u);generalize hH:zPd [b0,b1] u=H at *;simp(disch:=omega)only[go_sem,wQ,h1,h2,ha,hu,mcn];repeat refine And.intro rfl ?_
  refine qB 2 (λk=>match k with|0=>[(1,.ref 4096 0 0),(3,.sl 9100 0 (List.length (H))),(16,.t (.int .i64 2)),(17,.t (.int .i64 0))]|1=>[(1,.ref 4096 0 0),(3,.sl 9100 0 (List.length (H++b0.flatten))),(16,.t (.int .i64 2)),(17,.t (.int .i64 1))]|_=>[(1,.ref 4096 0 0),(3,.sl 9100 0 (List.length (H++b0.flatten++b1.flatten))),(16,.t (.int .i64 2)),(17,.t (.int .i64 2))]) (λk=>match k with|0=>[(9100,.live 1 (((H).map qA).map V.t) true false),(4096,.live 2 [.t (yR [b0,b1] u)] true true)]|1=>[(9100,.live 1 (((H++b0.flatten).map qA).map V.t) true false),(4096,.live 2 [.t (yR [b0,b1] u)] true true)]|_=>[(9100,.live 1 (((H++b0.flatten++b1.flatten).map qA).map V.t) true false),(4096,.live 2 [.t (yR [b0,b1] u)] true true)]) ?_ (λk hk=>?_)
  .refine qL.rd (λj=>if j=9100 then 8288 else j) ?_ ?_ rfl;all_goals simp(disch:=omega)only[go_sem,mcn]
   .exact hl9.symm
   .rw[<-hbk];rfl
  .rcases(show k=0\/k=1\/k=2 by omega)with rfl|rfl|rfl
   .simp(disch:=omega)only[go_sem,mcn];refine qB (List.length b0) (λi=>[(1,.ref 4096 0 0),(3,.sl 9100 0 (List.length (H++(List.take i b0).flatten))),(16,.t (.int .i64 2)),(17,.t (.int .i64 0)),(24,.t (.sl (b0.map bsT))),(25,.t (.int .i64 (List.length b0))),(26,.t (.int .i64 (i:Nat)))]) (λi=>[(9100,.live 1 (((H++(List.take i b0).flatten).map qA).map V.t) true false),(4096,.live 2 [.t (yR [b0,b1] u)] true true)]) ?_ (λi hi=>?_)
    .refine qL.rd id ?_ ?_ rfl;all_goals simp(disch:=omega)only[go_sem,id,take_zero,flatten_nil,append_nil,mcn]
    .have hfl:=qPd m0 i;by_cases hlt:i<List.length b0
     .have hg:=qPg (n:=i) m0;have hts:=zF2 (b:=b0) hlt;simp(disch:=omega)only[go_sem,mcn];refine⟨hlt,qL.rd (λj=>if j=9100 then 36896 else j) ?_ ?_ rfl⟩;all_goals simp(disch:=omega)only[go_sem,hts,append_assoc]
      all_goals try omega
     .have e:i=List.length b0:=oM;subst e;simp(disch:=omega)only[go_sem,mcn,take_length];refine qL.rd id ?_ ?_ rfl;all_goals simp(disch:=omega)only[go_sem,id,take_length]
   .simp(disch:=omega)only[go_sem,mcn];refine qB (List.length b1) (λi=>[(1,.ref 4096 0 0),(3,.sl 9100 0 (List.length (H++b0.flatten++(List.take i b1).flatten))),(16,.t (.int .i64 2)),(17,.t (.int .i64 1)),(24,.t (.sl (b1.map bsT))),(25,.t (.int .i64 (List.length b1))),(26,.t (.int .i64 (i:Nat)))]) (λi=>[(9100,.live 1 (((H++b0.flatten++(List.take i b1).flatten).map qA).map V.t) true false),(4096,.live 2 [.t (yR [b0,b1] u)] true true)]) ?_ (λi hi=>?_)
    .refine qL.rd id ?_ ?_ rfl;all_goals simp(disch:=omega)only[go_sem,id,take_zero,flatten_nil,append_nil,mcn]
    .have hfl:=qPd m1 i;by_cases hlt:i<List.length b1
     .have hg:=qPg (n:=i) m1;have hts:=zF2 (b:=b1) hlt;simp(disch:=omega)only[go_sem,mcn];refine⟨hlt,qL.rd (λj=>if j=9100 then 36896 else j) ?_ ?_ rfl⟩;all_goals simp(disch:=omega)only[go_sem,hts,append_assoc]
      all_goals try omega
     .have e:i=List.length b1:=oM;subst e;simp(disch:=omega)only[go_sem,mcn,take_length];refine qL.rd id ?_ ?_ rfl;all_goals simp(disch:=omega)only[go_sem,id,take_length]
   .simp(disch:=omega)only[go_sem,mcn];have e1:qDn [b0,b1] u=H++List.flatten b0++List.flatten b1:=by rw[qDn,hH];simp
    rw[e1,length_append,length_append];exact⟨rfl,rfl⟩
abbrev rdO (s:Rd):Ob:= .live 3 [.t (.agg [.sl (s.1.map qA),.int .i64 (s.2.1:Int),.int .i64 s.2.2])] true true
def qE5:Ct where
 α:=List UInt8
 aS x:=[.t (.sl (x.map qA))]
 ins _:=[]
 pre x:=x.length<1000000000
 r _:= .ref 0 0 0
 outs x:=[yS (x,0,0)]
 inj:=by
  intro a b h _;simp only[List.cons.injEq,V.t.injEq,T.sl.injEq,and_true,jC]at h;subst h;exact⟨rfl,rfl⟩
theorem qIm {b:List UInt8}(h:b.length<1000000000):qE5.fs [.t (.sl (b.map qA))] []=some (.ref 0 0 0,[rdO (b,0,0)]):=qE5.eq b h
def qE4:Ct where
 α:=Rd×Nat
 aS x:=[.ref 0 0 0,.t (.int .i64 x.2)]
 ins x:=[yS x.1]
 pre x:=qG4 x.1/\1<=x.2/\x.2<=8
 r x:= .t (.int .i64 (qI x.1 x.2).1)
 outs x:=[yS (qI x.1 x.2).2]
 inj:=by
  rintro⟨s,a⟩ ⟨t,c⟩ h1 h2;simp only[List.cons.injEq,V.t.injEq,T.int.injEq,true_and,and_true,Int.natCast_inj]at h1;simp only[List.cons.injEq,and_true]at h2;subst h1;cases wD h2;exact⟨rfl,rfl⟩
theorem wW {s:Rd}{k:Nat}(h:qG4 s/\1<=k/\k<=8):qE4.fs [.ref 0 0 0,.t (.int .i64 k)] [rdO s]=some (.t (.int .i64 (qI s k).1),[rdO (qI s k).2]):=qE4.eq (s,k) h
def zBs:Ct where
 α:=Rd×Nat
 aS x:=[.ref 0 0 0,.t (.int .i64 x.2)]
 ins x:=[yS x.1]
 pre x:=qG4 x.1/\x.2<=1000000000
 r x:= .t (.sl ((qAj x.1 x.2).1.map qA))
 outs x:=[yS (qAj x.1 x.2).2]
 inj:=by
  rintro⟨s,a⟩ ⟨t,c⟩ h1 h2;simp only[List.cons.injEq,V.t.injEq,T.int.injEq,true_and,and_true,Int.natCast_inj]at h1;simp only[List.cons.injEq,and_true]at h2;subst h1;cases wD h2;exact⟨rfl,rfl⟩
theorem zTr {s:Rd}{k:Nat}(h:qG4 s/\k<=1000000000):zBs.fs [.ref 0 0 0,.t (.int .i64 k)] [rdO s]=some (.t (.sl ((qAj s k).1.map qA)),[rdO (qAj s k).2]):=zBs.eq (s,k) h
def qNc:Ct where
 α:=Rd
 aS _:=[.ref 0 0 0]
 ins x:=[yS x]
 pre x:=qG4 x
 r x:= .t (.int .i64 x.2.2)
 outs x:=[yS x]
 inj:=by
  intro s t _ h2;simp only[List.cons.injEq,and_true]at h2;cases wD h2;exact⟨rfl,rfl⟩
theorem qW8 {s:Rd}(h:qG4 s):qNc.fs [.ref 0 0 0] [rdO s]=some (.t (.int .i64 s.2.2),[rdO s]):=qNc.eq s h
def qJx:Ct where
 α:=Rd
 aS _:=[.ref 0 0 0]
 ins x:=[yS x]
 pre x:=qG4 x
 r x:= .t (.int .i64 (xM x))
 outs x:=[yS x]
 inj:=by
  intro s t _ h2;simp only[List.cons.injEq,and_true]at h2;cases wD h2;exact⟨rfl,rfl⟩
theorem qSn {s:Rd}(h:qG4 s):qJx.fs [.ref 0 0 0] [rdO s]=some (.t (.int .i64 (xM s)),[rdO s]):=qJx.eq s h
theorem zTa {s:Rd}{k:Nat}(h:qG4 s):qG4 (qI s k).2:=by
 unfold qI qG4 at *;split
 .exact h
 .split
  .exact h
  .split
   .exact h
   .exact⟨by simp only;omega,h.2⟩
theorem zZm {s:Rd}{k:Nat}:(qAj s k).1.length<=k:=by
 unfold qAj;split
 .simp
 .split
  .simp
  .simp only[length_take];omega
def qDw (s:Rd)(z:Nat):Nat->List (List UInt8)×Rd
 |0=>([],s)
 |n+1=>((qDw s z n).1++[(qAj (qDw s z n).2 z).1],(qAj (qDw s z n).2 z).2)
theorem qSl {s:Rd}{z:Nat}:∀n,(qDw s z n).1.length=n
 |0=>rfl
 |n+1=>by simp[qDw,qSl n]
def zQr (bk:List zD)(s:Rd):List zD×Rd:=match bk with
 |[b0,b1]=>([(qDw s 20 (List.length b0)).1,(qDw (qDw s 20 (List.length b0)).2 32 (List.length b1)).1],(qDw (qDw s 20 (List.length b0)).2 32 (List.length b1)).2)
 |_=>([],s)
def zEk (s:Rd):Int:=(qI s 1).1
def dcU (s:Rd):Int:=(qI (qI s 1).2 8).1
def dcB (s:Rd):List zD×Rd:=zQr (vL (zEk s)) (qI (qI s 1).2 8).2
def dcR (b:List UInt8):V:=
 let s:Rd:=(b,0,0)
 if(qI s 1).2.2.2=0/\4<=zEk s then .tup [.t (yR [] 0),.t (.int .i64 1)]
 else if xM (dcB s).2≠0 then .tup [.t (yR [] 0),.t (.int .i64 (xM (dcB s).2))]
 else .tup [.t (yR (dcB s).1 (dcU s)),.t (.int .i64 0)]
theorem jCp {b:List UInt8}{bk:List zD}{s:Rd}{u:Int}(h:¬ ((qI (b,0,0) 1).2.2.2=0/\4<=zEk (b,0,0)))(hB:dcB (b,0,0)=(bk,s))(hU:dcU (b,0,0)=u):dcR b=if xM s≠0 then .tup [.t (yR [] 0),.t (.int .i64 (xM s))] else .tup [.t (yR bk u),.t (.int .i64 0)]:=by
 unfold dcR;simp only[hB,hU];rw[if_neg h]
def jWq (s:Rd):Prop:=(qI s 1).2.2.2=0/\4<=zEk s
instance {s:Rd}:Decidable (jWq s):=inferInstanceAs (Decidable (_/\_))
theorem zTu {b0 b1:zD}{i:Nat}:zTt [b0,b1] i=[zPj 0 b0 i,zPj 1 b1 i]:=rfl
def jB9 (bk:List zD)(a:Nat):Nat:=(bk.getD a []).length
def RZ (bk:List zD):Prop:=∀a,a<2->∀x∈bk.getD a [],x.length=szA a
theorem zCu {b:zD}{i z:Nat}{y:List UInt8}(h:∀x∈b,x.length=z)(hy:y.length=z):∀x∈b.set i y,x.length=z:=by
 intro x hx;rcases mem_or_eq_of_mem_set hx with h1|rfl
 .exact h x h1
 .exact hy
theorem zUv {y:List UInt8}{b:zD}{z:Nat}(hy:y.length=z)(h:∀x∈b,x.length=z):∀k,∀x∈stN y b k,x.length=z
 |0=>h
 |k+1=>zCu (zUv hy h k) hy
theorem RZ.two {b0 b1:zD}(h0:∀x∈b0,x.length=20)(h1:∀x∈b1,x.length=32):RZ [b0,b1]:=by
 intro a ha
 match a,ha with
 |0,_=>exact h0
 |1,_=>exact h1
theorem RZ.nil:RZ []:=by
 intro a ha x hx;simp at hx
theorem RZ.ext {bk:List zD}{i:Nat}{ds:List (List UInt8)}(hv:RV bk)(h:RZ bk):RZ (qSb bk i ds):=by
 rcases hv.1.cases with rfl|⟨b0,b1,rfl,g0,g1⟩
 .exact RZ.nil
 .rw[zEo];refine RZ.two ?_ ?_
  .unfold qC4;split
   .exact zCu (h 0 oM) (qIr (a:=0))
   .exact h 0 oM
  .unfold qC4;split
   .exact zCu (h 1 oM) (qIr (a:=1))
   .exact h 1 oM
theorem RZ.rst {bk:List zD}{i:Nat}(hv:RV bk)(h:RZ bk):RZ (zTt bk i):=by
 rcases hv.1.cases with rfl|⟨b0,b1,rfl,g0,g1⟩
 .exact RZ.nil
 .rw[zTu];refine RZ.two ?_ ?_
  .unfold zPj;split
   .exact zCu (h 0 oM) length_replicate
   .exact h 0 oM
  .unfold zPj;split
   .exact zCu (h 1 oM) length_replicate
   .exact h 1 oM
theorem RZ.res {bk:List zD}(hv:RV bk)(h:RZ bk):RZ (zCi bk):=by
 rcases hv.1.cases with rfl|⟨b0,b1,rfl,g0,g1⟩
 .exact RZ.nil
 .exact RZ.two (zUv length_replicate (h 0 oM) 4) (zUv length_replicate (h 1 oM) 4)
theorem zLp {a:Nat}:∀x∈qB0 a,x.length=szA a:=by
 intro x hx;unfold qB0 at hx;obtain⟨i,_,rfl⟩:=mem_map.1 hx;exact length_replicate
theorem RZ.new {s:Int}:RZ (vL s):=by
 unfold vL;split
 .exact RZ.nil
 .refine RZ.two ?_ ?_
  .split
   .exact zLp (a:=0)
   .intro x hx;simp at hx
  .split
   .exact zLp (a:=1)
   .intro x hx;simp at hx
def Shp (s:Int)(bk:List zD):Prop:=bk.length=(vL s).length/\jB9 bk=jB9 (vL s)/\RZ bk
theorem zUk {s:Int}{bk:List zD}(hv:RV bk)(h:Shp s bk):(bk=[]/\vL (qZ6 bk)=[])\/∃b0 b1 c0 c1:zD,bk=[b0,b1]/\vL (qZ6 bk)=[c0,c1]/\List.length c0=List.length b0/\List.length c1=List.length b1:=by
 obtain⟨hl,hb,_⟩:=h;rcases hv.1.cases with rfl|⟨b0,b1,rfl,g0,g1⟩
 .exact .inl ⟨rfl,rfl⟩
 .refine .inr ?_;have hs:¬ s%4=0:=by
   intro e;unfold vL at hl;rw[if_pos e]at hl;simp at hl
  rw[qEa hs]at hb;have e0:List.length b0=List.length (if s%2=1 then qB0 0 else []):=congrFun hb 0;have e1:List.length b1=List.length (if s/2%2=1 then qB0 1 else []):=congrFun hb 1;have n0:=qK (a:=0);have n1:=qK (a:=1);by_cases q0:s%2=1<;>by_cases q1:s/2%2=1
  .rw[if_pos q0,n0]at e0;rw[if_pos q1,n1]at e1;have ea:qZ6 [b0,b1]=3:=by show zDy b0 b1=3;unfold zDy;rw[if_pos e0,if_pos e1];rfl
   exact⟨b0,b1,qB0 0,qB0 1,rfl,by rw[ea];rfl,by rw[n0,e0],by rw[n1,e1]⟩
  .rw[if_pos q0,n0]at e0;rw[if_neg q1]at e1;have ea:qZ6 [b0,b1]=1:=by show zDy b0 b1=1;unfold zDy;rw[if_pos e0,if_neg (by rw[e1];decide)];rfl
   exact⟨b0,b1,qB0 0,[],rfl,by rw[ea];rfl,by rw[n0,e0],by rw[e1]⟩
  .rw[if_neg q0]at e0;rw[if_pos q1,n1]at e1;have ea:qZ6 [b0,b1]=2:=by show zDy b0 b1=2;unfold zDy;rw[if_neg (by rw[e0];decide),if_pos e1];rfl
   exact⟨b0,b1,[],qB0 1,rfl,by rw[ea];rfl,by rw[e0],by rw[n1,e1]⟩
  .exfalso;omega
theorem qVl {α:Type}{b p q t:List α}{k:Nat}(hb:b=p++q++t)(hq:q.length=k):List.take k (List.drop p.length b)=q:=by
 subst hb;subst hq;rw[append_assoc,drop_left,take_left]
theorem qLn {b p q t:List UInt8}{k:Nat}(hb:b=p++q++t)(hq:q.length=k)(hv:beV q<9223372036854775808):qI (b,p.length,0) k=(((beV q:Nat):Int),(b,p.length+k,0)):=by
 have h1:=qVl hb hq;have h2:b.length=p.length+k+t.length:=by rw[hb];simp only[length_append,hq]
 unfold qI;simp only[h1];rw[if_neg sM,if_neg oM,if_neg oM]
theorem zCh {b p q t:List UInt8}{k:Nat}(hb:b=p++q++t)(hq:q.length=k):qAj (b,p.length,0) k=(q,(b,p.length+k,0)):=by
 have h1:=qVl hb hq;have h2:b.length=p.length+k+t.length:=by rw[hb];simp only[length_append,hq]
 unfold qAj;simp only[h1];rw[if_neg sM,if_neg oM]
theorem zNd {b:List (List UInt8)}{i:Nat}(h:i<b.length):b.flatten=(b.take i).flatten++b.getD i []++(b.drop (i+1)).flatten:=by
 conv=>lhs;rw[<-take_append_drop (i+1) b,qLr (d:=[]) h]
 simp
theorem qW6 {b p t:List UInt8}{rows:List (List UInt8)}{z:Nat}(hb:b=p++rows.flatten++t)(hz:∀x∈rows,x.length=z):∀i,i<=rows.length->qDw (b,p.length,0) z i=(rows.take i,(b,(p++(rows.take i).flatten).length,0))
 |0,_=>by simp[qDw]
 |i+1,h=>by
  have ih:=qW6 hb hz i oM;have hg:(rows.getD i []).length=z:=by
   have e:rows.getD i []=rows[i]:=by simp[List.getD,show i<rows.length by omega]
   rw[e];exact hz _ (getElem_mem _)
  have hb2:b=(p++(rows.take i).flatten)++rows.getD i []++((rows.drop (i+1)).flatten++t):=by
   rw[hb,zNd (i:=i) oM];simp only[append_assoc]
  have hr:=zCh hb2 hg;simp only[qDw,ih,hr];rw[qLr (d:=[]) oM];simp only[flatten_append,flatten_cons,flatten_nil,append_nil,length_append,hg,Nat.add_assoc]
theorem jFb {l:List UInt8}{x:UInt8}:beV (l++[x])=256*beV l+x.toNat:=by simp[beV]
theorem zPz {size:Nat}{n:Int}:∀k,k<=size->beV (beI size n k)=m64 n/2^(8*(size-k))%256^k
 |0,_=>by simp[beI,beV,Nat.mod_one]
 |k+1,h=>by
  have ih:=zPz (size:=size) (n:=n) k oM;rw[zBa,jFb,ih];have e1:8*(size-k)=8*(size-1-k)+8:=oM;have e2:size-(k+1)=size-1-k:=oM;rw[e1,e2,Nat.pow_add,<-Nat.div_div_eq_div_mul];generalize m64 n/2^(8*(size-1-k))=q;have e3:(UInt8.ofNat q).toNat=q%256:=by rw[UInt8.toNat_ofNat']
  have e4:q/2^8=q/256:=rfl;have e5:256^(k+1)=256*256^k:=by rw[Nat.pow_succ,Nat.mul_comm]
  rw[e3,e4,e5,Nat.mod_mul,Nat.add_comm]
theorem qJt {size:Nat}{n:Int}:beV (beI size n size)=m64 n%256^size:=by
 rw[zPz size (Nat.le_refl _)];simp
theorem qMu {n:Int}(h:0<=n/\n<18446744073709551616):((m64 n:Nat):Int)=n:=by unfold m64;omega
theorem jFt {s u:Int}{bk:List zD}(hv:RV bk)(hs:Shp s bk)(hu:0<=u/\u<9223372036854775808):dcR (qDn bk u)=.tup [.t (yR bk u),.t (.int .i64 0)]:=by
 have hact:=zPo hv.1;obtain⟨m,hm⟩:=Int.eq_ofNat_of_zero_le hact.1;have hm4:m<4:=oM;have hE:qDn bk u=[UInt8.ofNat m]++beI 8 u 8++bk.flatten.flatten:=by unfold qDn zPd;rw[hm];rfl
 have v1:beV [UInt8.ofNat m]=m:=by
  rcases(show m=0\/m=1\/m=2\/m=3 by omega)with rfl|rfl|rfl|rfl<;>rfl
 have v8:((beV (beI 8 u 8):Nat):Int)=u:=by
  rw[qJt];have:=qMu (n:=u) oM;have e:(256:Nat)^8=18446744073709551616:=by decide
  rw[e];omega
 have h1:qI (qDn bk u,0,0) 1=(((m:Nat):Int),(qDn bk u,1,0)):=by
  have:=qLn (b:=qDn bk u) (p:=[]) (q:=[UInt8.ofNat m]) (t:=beI 8 u 8++bk.flatten.flatten) (k:=1) (by rw[hE];simp) rfl (by rw[v1];omega);rw[v1]at this;exact this
 have h2:qI (qDn bk u,1,0) 8=(u,(qDn bk u,9,0)):=by
  have:=qLn (b:=qDn bk u) (p:=[UInt8.ofNat m]) (q:=beI 8 u 8) (t:=bk.flatten.flatten) (k:=8) hE qLy oM;rw[v8]at this;exact this
 have hset:zEk (qDn bk u,0,0)=qZ6 bk:=by unfold zEk;rw[h1,hm]
 have hU:dcU (qDn bk u,0,0)=u:=by unfold dcU;rw[h1];simp only;rw[h2]
 have hbad:¬ ((qI (qDn bk u,0,0) 1).2.2.2=0/\4<=zEk (qDn bk u,0,0)):=by rw[hset];omega
 have hend:∀b:List UInt8,xM (b,b.length,0)=0:=λb=>by unfold xM;rw[if_neg sM]
 rcases zUk hv hs with⟨rfl,hn⟩|⟨b0,b1,c0,c1,rfl,hn,l0,l1⟩
 .have hB:dcB (qDn [] u,0,0)=([],(qDn [] u,(qDn [] u).length,0)):=by
   unfold dcB;rw[hset,hn,h1];simp only;rw[h2];have e:(qDn [] u).length=9:=by unfold qDn;simp[qQj]
   rw[e];rfl
  rw[jCp hbad hB hU,hend,if_neg sM]
 .have hz:=hs.2.2;have z0:∀x∈b0,x.length=20:=hz 0 oM;have z1:∀x∈b1,x.length=32:=hz 1 oM;have hE2:qDn [b0,b1] u=zPd [b0,b1] u++b0.flatten++b1.flatten:=by unfold qDn;simp
  have r0:=qW6 (b:=qDn [b0,b1] u) (p:=zPd [b0,b1] u) (t:=b1.flatten) hE2 z0 (List.length b0) (Nat.le_refl _);rw[take_length,qQj]at r0;have r1:=qW6 (b:=qDn [b0,b1] u) (p:=zPd [b0,b1] u++b0.flatten) (t:=[]) (by rw[hE2];simp) z1 (List.length b1) (Nat.le_refl _);rw[take_length]at r1;have hB:dcB (qDn [b0,b1] u,0,0)=([b0,b1],(qDn [b0,b1] u,(qDn [b0,b1] u).length,0)):=by
   unfold dcB;rw[hset,hn,h1];simp only;rw[h2];have hLen:(qDn [b0,b1] u).length=(zPd [b0,b1] u++List.flatten b0++List.flatten b1).length:=by rw[<-hE2]
   simp only[zQr,l0,l1,r0,r1,hLen]
  rw[jCp hbad hB hU,hend,if_neg sM]
def zBg:Ct where
 α:=List zD×Int
 aS x:=[.t (yR x.1 x.2)]
 ins _:=[]
 pre x:=RV x.1
 r x:= .sl 0 0 (qDn x.1 x.2).length
 outs x:=[.live 1 (((qDn x.1 x.2).map qA).map V.t) true false]
 inj:=by
  rintro⟨a,u⟩ ⟨b,v⟩ h _;simp only[List.cons.injEq,V.t.injEq,and_true]at h;obtain⟨rfl,rfl⟩:=qCt h;exact⟨rfl,rfl⟩
theorem jF2 {bk:List zD}{u:Int}(h:RV bk):zBg.fs [.t (.agg [.sl (bk.map vU),.int .i64 u])] []=some (.sl 0 0 (qDn bk u).length,[.live 1 (((qDn bk u).map qA).map V.t) true false]):=zBg.eq (bk,u) h
def zHs:Ct where
 α:=List UInt8
 aS x:=[.t (.sl (x.map qA))]
 ins _:=[]
 pre x:=x.length<1000000000
 r x:=dcR x
 outs _:=[]
 inj:=by
  intro a b h _;simp only[List.cons.injEq,V.t.injEq,T.sl.injEq,and_true,jC]at h;subst h;exact⟨rfl,rfl⟩
theorem qW5 {s:Rd}{z:Nat}:∀n,∀x∈(qDw s z n).1,x.length<=z
 |0=>by intro x hx;simp[qDw]at hx
 |n+1=>by
  intro x hx;simp only[qDw,mem_append,mem_singleton]at hx;rcases hx with hx|rfl
  .exact qW5 n x hx
  .exact zZm
theorem qQg {b:List UInt8}:∃bk u e,dcR b=.tup [.t (.agg [.sl (bk.map vU),.int .i64 u]),.t (.int .i64 e)]/\RV bk:=by
 have hnil:RV []:=⟨.nil,sM⟩;unfold dcR;simp only;split
 .exact⟨[],0,1,rfl,hnil⟩
 .split
  .exact⟨[],0,_,rfl,hnil⟩
  .refine⟨_,_,0,rfl,?_⟩;unfold dcB zQr;split
   .rename_i b0 b1 h;have hn:=zYv (s:=zEk (b,0,0));rw[h]at hn;rcases hn.cases with h|⟨c0,c1,h,g0,g1,_,_⟩
    .simp at h
    .obtain⟨rfl,rfl⟩:b0=c0/\b1=c1:=by simpa using h
     refine RV.of2 (qFu g0 (qSl _)) (qFu g1 (qSl _)) ?_ ?_
     .intro x hx;have:=qW5 _ x hx;omega
     .intro x hx;have:=qW5 _ x hx;omega
   .exact hnil
theorem zGq (x:wS.α)(hx:wS.pre x):yF.1.wp tab gl (qD 0 (wS.aS x)) (qD 0 (wS.ins x)) (qZ [(6,none),(7,none)] (wS.ins x).length (λr o=>r=wS.r x/\o=wS.outs x)):=by
 obtain⟨⟨b,a,e⟩,p,n⟩:=x;obtain⟨h1,h2,h3⟩:=hx;simp only[qG4]at h1 h2 h3;by_cases h:p+n<=b.length
 .have hr:wS.r ((b,a,e),p,n)=.tup [.t (.sl (((b.drop p).take n).map qA)),.t (.int .i64 0)]:=if_pos h;rw[hr];exact zJq tab gl (b,a,e) h1 p n h
 .have hr:wS.r ((b,a,e),p,n)=.tup [.t (.sl []),.t (.int .i64 2)]:=if_neg h;rw[hr];show yF.1.wp tab gl (qD 0 [.ref 0 0 0,.t (.int .i64 p),.t (.int .i64 n)]) (qD 0 [yS (b,a,e)]) (qZ [(6,none),(7,none)] 1 (λr o=>r=.tup [.t (.sl []),.t (.int .i64 2)]/\o=[yS (b,a,e)]));simp(disch:=omega)only[go_sem,yF,yS,rdT]
theorem zGo (x:qAd.α)(hx:qAd.pre x):yB.1.wp tab gl (qD 0 (qAd.aS x)) (qD 0 (qAd.ins x)) (qZ [(4,none)] (qAd.ins x).length (λr o=>r=qAd.r x/\o=qAd.outs x)):=
 qZx tab gl x.1.1 x.1.2.1 x.1.2.2 x.2 hx.1 hx.2
abbrev Ev:=Int×Int×List (List UInt8)×List UInt8
def evM (e:Ev):Prop:=zYr e.2.2.1/\e.2.2.2.length<1000000000
def yC3 (r k act:Int):Prop:=act<1\/3<act\/r<0\/11<r\/k<1\/5<k
instance {r k act:Int}:Decidable (yC3 r k act):=by unfold yC3;infer_instance
def okC (c:UInt8):Bool := !decide (c.toNat<32) && !decide (c.toNat>126)
def blL (b x:List UInt8):List UInt8:=b++beI 2 (x.length:Int) 2++x
theorem jY {b x:List UInt8}:(blL b x).length=b.length+2+x.length:=by unfold blL;rw[length_append,length_append,qN]
def qGu:Ct where
 α:=List UInt8×List UInt8
 aS x:=[.t (.sl (x.1.map qA)),.t (.sl (x.2.map qA))]
 ins _:=[]
 pre x:=x.1.length<100000000/\x.2.length<=65535
 r x:= .sl 0 0 (x.1.length+2+x.2.length)
 outs x:=[.live 1 (((blL x.1 x.2).map qA).map V.t) true false]
 inj:=by
  rintro⟨a,b⟩ ⟨c,d⟩ h _;simp only[List.cons.injEq,V.t.injEq,T.sl.injEq,and_true,jC]at h;obtain⟨rfl,rfl⟩:=h;exact⟨rfl,rfl⟩
theorem qAc {b x:List UInt8}(h:b.length<100000000/\x.length<=65535):qGu.fs [.t (.sl (b.map qA)),.t (.sl (x.map qA))] []=some (.sl 0 0 (b.length+2+x.length),[.live 1 (((blL b x).map qA).map V.t) true false]):=qGu.eq (b,x) h
theorem zJn (h1:LkC tab 63 yQ)(b x:List UInt8)(hb:b.length<100000000)(hx:x.length<=65535) :
  qJq.1.wp tab gl (qD 0 [.t (.sl (b.map qA)),.t (.sl (x.map qA))]) (qD 0 []) (xO [] [(4,none)] 0 (λr o=>r=.sl 0 0 (b.length+2+x.length)/\o=[.live 1 (((blL b x).map qA).map V.t) true false])):=by
 have hu:=qLs (b:=b) (n:=(x.length:Int)) oM;have hl:(b++beI 2 (x.length:Int) 2).length=b.length+2:=by rw[length_append,qN]
 have hbl:blL b x=b++beI 2 (x.length:Int) 2++x:=rfl;have hno:¬ 65535<(x.length:Int):=oM;rw[hbl];generalize b++beI 2 (x.length:Int) 2=B at *;simp(disch:=omega)only[go_sem,qJq,h1,hu,hl,hno,take_length]
theorem zJi (h1:LkC tab 34 yQ)(b x:List UInt8)(hb:b.length<100000000)(hx:x.length<=65535) :
  qJk.1.wp tab gl (qD 0 [.t (.sl (b.map qA)),.t (.sl (x.map qA))]) (qD 0 []) (xO [] [(4,none)] 0 (λr o=>r=.sl 0 0 (b.length+2+x.length)/\o=[.live 1 (((blL b x).map qA).map V.t) true false])):=by
 have hu:=qLs (b:=b) (n:=(x.length:Int)) oM;have hl:(b++beI 2 (x.length:Int) 2).length=b.length+2:=by rw[length_append,qN]
 have hbl:blL b x=b++beI 2 (x.length:Int) 2++x:=rfl;have hno:¬ 65535<(x.length:Int):=oM;rw[hbl];generalize b++beI 2 (x.length:Int) 2=B at *;simp(disch:=omega)only[go_sem,qJk,h1,hu,hl,hno,take_length]
def jR2 (r k:Int)(n m:Nat):Prop:=r<0\/11<r\/k<1\/5<k\/n≠2\/64<m
instance {r k:Int}{n m:Nat}:Decidable (jR2 r k n m):=by unfold jR2;infer_instance
theorem jAy {a:Nat}{k':IntKind}(h:a<1000000):qLz .shl .i64 (a:Int) k' 8=some (.int .i64 ((256*a:Nat):Int)):=by
 change (if(8:Int)<0 then none else some (T.int .i64 (IntKind.i64.wrap ((a:Int)*2^min (8:Int).toNat 64))))=_;rw[if_neg oM,show(a:Int)*2^min (8:Int).toNat 64=((256*a:Nat):Int) by
  rw[show min (8:Int).toNat 64=8 from rfl];omega,xP oM]
theorem jG4 {a:Nat}{x:UInt8}(h:a<1000000):qLz .or .i64 ((256*a:Nat):Int) .i64 (x.toNat:Int)=some (.int .i64 ((256*a+x.toNat:Nat):Int)):=by
 have hx:=x.toNat_lt;change some (T.int .i64 (IntKind.i64.wrap ((BitVec.ofInt 64 ((256*a:Nat):Int) ||| BitVec.ofInt 64 (x.toNat:Int)).toNat:Int)))=_;have e:(BitVec.ofInt 64 ((256*a:Nat):Int) ||| BitVec.ofInt 64 (x.toNat:Int)).toNat=256*a+x.toNat:=by
  rw[BitVec.toNat_or,BitVec.toNat_ofInt,BitVec.toNat_ofInt,Int.emod_eq_of_lt oM oM,Int.emod_eq_of_lt oM oM,Int.toNat_natCast,Int.toNat_natCast,or8 oM]
 rw[e,xP oM]
attribute [go_sem ↓] jAy jG4
def zF (s:Rd)(most:Nat):List UInt8×Rd:=
 if s.2.2≠0 then([],s) else if s.1.length<s.2.1+2 then([],(s.1,s.2.1,2))
 else if most<beV ((s.1.drop s.2.1).take 2) then([],(s.1,s.2.1,4))
 else if s.1.length<s.2.1+2+beV ((s.1.drop s.2.1).take 2) then([],(s.1,s.2.1,2))
 else((s.1.drop (s.2.1+2)).take (beV ((s.1.drop s.2.1).take 2)),(s.1,s.2.1+2+beV ((s.1.drop s.2.1).take 2),0))
def qFw:Ct where
 α:=Rd×Nat
 aS x:=[.ref 0 0 0,.t (.int .i64 x.2)]
 ins x:=[yS x.1]
 pre x:=qG4 x.1/\x.2<=65535
 r x:= .t (.sl ((zF x.1 x.2).1.map qA))
 outs x:=[yS (zF x.1 x.2).2]
 inj:=by
  rintro⟨s,a⟩ ⟨t,c⟩ h1 h2;simp only[List.cons.injEq,V.t.injEq,T.int.injEq,true_and,and_true,Int.natCast_inj]at h1;simp only[List.cons.injEq,and_true]at h2;subst h1;cases wD h2;exact⟨rfl,rfl⟩
theorem qF2 {s:Rd}{k:Nat}(h:qG4 s/\k<=65535):qFw.fs [.ref 0 0 0,.t (.int .i64 k)] [rdO s]=some (.t (.sl ((zF s k).1.map qA)),[rdO (zF s k).2]):=qFw.eq (s,k) h
theorem jQi {b:List UInt8}{a:Nat}(h:a+2<=b.length):List.take 2 (List.drop a b)=[b.getD a 0,b.getD (a+1) 0]:=by
 have e:List.drop a b=b[a]'(oM)::b[a+1]'(oM)::List.drop (a+2) b:=by
  rw[drop_eq_getElem_cons oM,drop_eq_getElem_cons oM]
 have g0:b.getD a 0=b[a]'(oM):=by simp[List.getD,show a<b.length by omega]
 have g1:b.getD (a+1) 0=b[a+1]'(oM):=by simp[List.getD,show a+1<b.length by omega]
 rw[e,g0,g1];rfl
theorem yC5 {x y:UInt8}:beV [x,y]=256*x.toNat+y.toNat:=by simp[beV]
theorem zS6 {s:Rd}{k:Nat}:(zF s k).1.length<=k:=by
 unfold zF;split
 .simp
 .split
  .simp
  .split
   .simp
   .split
    .simp
    .simp only[length_take];omega
theorem zS7 {s:Rd}{k:Nat}(h:qG4 s):qG4 (zF s k).2:=by
 unfold zF;unfold qG4 at *;split
 .exact h
 .split
  .exact h
  .split
   .exact h
   .split
    .exact h
    .exact⟨by simp only;omega,h.2⟩
theorem qRq (h1:LkC tab 128 wS)(h2:LkC tab 127 qR1)(s:Rd)(hs:qG4 s)(k:Nat)(hk:k<=65535) :
  jN.1.wp tab gl (qD 0 [.ref 0 0 0,.t (.int .i64 k)]) (qD 0 [yS s]) (qZ [(4,none)] 1 (λr o=>r=.t (.sl ((zF s k).1.map qA))/\o=[yS (zF s k).2])):=by
 obtain⟨b,a,e⟩:=s;have ha:a<=b.length/\b.length<1000000000:=hs;by_cases he:e=0
 .subst he;by_cases hl:b.length<a+2
  .have hr:zF (b,a,0) k=([],(b,a,2)):=by unfold zF;simp[hl]
   rw[hr];have ht:=zCv (b:=b) (a:=a) (p:=a) (n:=2) (e:=0) ⟨ha.1,ha.2,ha.1,oM,oM⟩;have k2:((2:Nat):Int)=2:=rfl;rw[k2]at ht;simp(disch:=omega)only[go_sem,jN,zK,h1,h2,ht,qPa,map_nil]
  .have t2:=jQi (b:=b) (a:=a) oM;have ht:=zCw (b:=b) (a:=a) (p:=a) (n:=2) (e:=0) ⟨ha.1,ha.2,oM⟩;have k2:((2:Nat):Int)=2:=rfl;rw[k2,t2]at ht;have hb:=yC5 (x:=b.getD a 0) (y:=b.getD (a+1) 0);have hx:=(b.getD a 0).toNat_lt;have hy:=(b.getD (a+1) 0).toNat_lt;have hr:zF (b,a,0) k=if k<256*(b.getD a 0).toNat+(b.getD (a+1) 0).toNat then([],(b,a,4)) else if b.length<a+2+(256*(b.getD a 0).toNat+(b.getD (a+1) 0).toNat) then([],(b,a,2)) else((b.drop (a+2)).take (256*(b.getD a 0).toNat+(b.getD (a+1) 0).toNat),(b,a+2+(256*(b.getD a 0).toNat+(b.getD (a+1) 0).toNat),0)):=by
    unfold zF;simp only[t2,hb];rw[if_neg sM,if_neg hl]
   rw[hr];simp only[mcn]at ht;by_cases c1:k<256*(b.getD a 0).toNat+(b.getD (a+1) 0).toNat
   .rw[if_pos c1];simp(disch:=omega)only[go_sem,jN,zK,h1,h2,ht,qPa,c1,map_nil];rfl
   .rw[if_neg c1];have hn:((b.getD a 0).toNat<256)/\(b.getD (a+1) 0).toNat<256:=⟨hx,hy⟩;generalize hN:256*(b.getD a 0).toNat+(b.getD (a+1) 0).toNat=N at *;have hN2:N<=65535:=oM;by_cases c2:b.length<a+2+N
    .rw[if_pos c2];have ht2:=zCv (b:=b) (a:=a) (p:=a+2) (n:=N) (e:=0) ⟨ha.1,ha.2,oM,oM,c2⟩;simp(disch:=omega)only[go_sem,jN,zK,h1,h2,ht,hN,ht2,qPa,c1,map_nil];rfl
    .rw[if_neg c2];have ht2:=zCw (b:=b) (a:=a) (p:=a+2) (n:=N) (e:=0) ⟨ha.1,ha.2,oM⟩;have hc:(List.take N (List.drop (a+2) b)).length=N:=by simp only[length_take,length_drop];omega
     have tt:List.take N (List.take N (List.drop (a+2) b))=List.take N (List.drop (a+2) b):=take_of_length_le oM;simp(disch:=omega)only[go_sem,jN,zK,h1,h2,ht,hN,ht2,qPa,c1,hc,tt];exact⟨rfl,oM⟩
 .have hr:zF (b,a,e) k=([],(b,a,e)):=by unfold zF;rw[if_pos he]
  rw[hr];simp(disch:=omega)only[go_sem,jN,zK,ne_eq,he,map_nil]
theorem qRk (h1:LkC tab 31 qAd)(s:Rd)(hs:qG4 s)(k:Nat)(hk:k<=65535) :
  jM.1.wp tab gl (qD 0 [.ref 0 0 0,.t (.int .i64 k)]) (qD 0 [yS s]) (qZ [(4,none)] 1 (λr o=>r=.t (.sl ((zF s k).1.map qA))/\o=[yS (zF s k).2])):=by
 obtain⟨b,a,e⟩:=s;have ha:a<=b.length/\b.length<1000000000:=hs;by_cases he:e=0
 .subst he;by_cases hl:b.length<a+2
  .have hr:zF (b,a,0) k=([],(b,a,2)):=by unfold zF;simp[hl]
   rw[hr];have ht:=zIe (b:=b) (a:=a) (k:=2) ⟨ha.1,ha.2,oM,oM⟩;have k2:((2:Nat):Int)=2:=rfl;rw[k2]at ht;simp(disch:=omega)only[go_sem,jM,zK,h1,ht,map_nil]
  .have t2:=jQi (b:=b) (a:=a) oM;have ht:=zIf (b:=b) (a:=a) (k:=2) ⟨ha.1,ha.2,oM⟩;have k2:((2:Nat):Int)=2:=rfl;rw[k2]at ht;have hb:=yC5 (x:=b.getD a 0) (y:=b.getD (a+1) 0);have hx:=(b.getD a 0).toNat_lt;have hy:=(b.getD (a+1) 0).toNat_lt;have hr:zF (b,a,0) k=if k<256*(b.getD a 0).toNat+(b.getD (a+1) 0).toNat then([],(b,a,4)) else if b.length<a+2+(256*(b.getD a 0).toNat+(b.getD (a+1) 0).toNat) then([],(b,a,2)) else((b.drop (a+2)).take (256*(b.getD a 0).toNat+(b.getD (a+1) 0).toNat),(b,a+2+(256*(b.getD a 0).toNat+(b.getD (a+1) 0).toNat),0)):=by
    unfold zF;simp only[t2,hb];rw[if_neg sM,if_neg hl]
   rw[hr];have hn:((b.getD a 0).toNat<256)/\(b.getD (a+1) 0).toNat<256:=⟨hx,hy⟩;generalize hN:256*(b.getD a 0).toNat+(b.getD (a+1) 0).toNat=N at *;have hN2:N<=65535:=oM;by_cases c1:k<N
   .rw[if_pos c1];simp(disch:=omega)only[go_sem,jM,zK,h1,ht,hN,c1,map_nil];rfl
   .rw[if_neg c1];by_cases c2:b.length<a+2+N
    .rw[if_pos c2];have ht2:=zIe (b:=b) (a:=a) (k:=2+N) ⟨ha.1,ha.2,oM,oM⟩;simp(disch:=omega)only[go_sem,jM,zK,h1,ht,hN,ht2,c1,map_nil];rfl
    .rw[if_neg c2];have ht2:=zIf (b:=b) (a:=a) (k:=2+N) ⟨ha.1,ha.2,oM⟩;have hc:(List.take N (List.drop (a+2) b)).length=N:=by simp only[length_take,length_drop];omega
     have tt:List.take N (List.take N (List.drop (a+2) b))=List.take N (List.drop (a+2) b):=take_of_length_le oM;have e1:a+(2+N)-N=a+2:=oM;have e2:a+(2+N)-(a+2)=N:=oM;have e3:a+2+N=a+(2+N):=oM;rw[e3];simp(disch:=omega)only[go_sem,jM,zK,h1,ht,hN,ht2,c1,e1,e2,hc,tt];exact⟨rfl,rfl⟩
 .have hr:zF (b,a,e) k=([],(b,a,e)):=by unfold zF;rw[if_pos he]
  rw[hr];simp(disch:=omega)only[go_sem,jM,zK,ne_eq,he,map_nil]
abbrev Cd:=List UInt8×Nat
def nx (c:Cd)(n:Nat):Nat×Cd:=if c.1.length<=c.2 then(0,c) else((c.1.getD c.2 0).toNat%n,(c.1,c.2+1))
theorem qQw {b p x t:List UInt8}{most:Nat}(hb:b=p++beI 2 (x.length:Int) 2++x++t)(hx:x.length<=most)(hm:most<=65535):zF (b,p.length,0) most=(x,(b,p.length+2+x.length,0)):=by
 have hlen:b.length=p.length+2+x.length+t.length:=by rw[hb];simp only[length_append,qN]
 have h1:List.take 2 (List.drop p.length b)=beI 2 (x.length:Int) 2:=qVl (t:=x++t) (by rw[hb];simp only[append_assoc]) qN;have h2:beV (beI 2 (x.length:Int) 2)=x.length:=by
  rw[qJt];have e:(256:Nat)^2=65536:=by decide
  have:=qMu (n:=(x.length:Int)) oM;rw[e];omega
 have h3:List.take x.length (List.drop (p.length+2) b)=x:=by
  have:=qVl (b:=b) (p:=p++beI 2 (x.length:Int) 2) (q:=x) (t:=t) (k:=x.length) hb rfl;rw[length_append,qN]at this;exact this
 unfold zF;simp only[h1,h2];rw[if_neg sM,if_neg oM,if_neg oM,if_neg oM,h3]
theorem zP2 {a b:UInt8}:qJu .and (qA a) (qA b)=some (qA (a &&& b)):=by
 change some (T.int .u8 (IntKind.u8.wrap ((BitVec.ofInt 8 (a.toNat:Int) &&& BitVec.ofInt 8 (b.toNat:Int)).toNat:Int)))=_;have e:∀x:UInt8,BitVec.ofInt 8 (x.toNat:Int)=x.toBitVec:=λx=>BitVec.eq_of_toNat_eq sM
 rw[e,e,<-UInt8.toBitVec_and,qP9];have:=(a &&& b).toNat_lt;unfold qA;rw[UInt8.toNat_toBitVec];congr 2;omega
def rI (n:Int):Prop := -9223372036854775808<=n/\n<9223372036854775808
def evX (e:Ev):Prop:=e.2.2.1.length<=9223372036854775807/\(∀x∈e.2.2.1,x.length<=9223372036854775807)/\e.2.2.2.length<=9223372036854775807
abbrev Im:=Int×List UInt8×Int×List UInt8
def imM (x:Im):Prop:=x.2.1.length<=9223372036854775807/\x.2.2.2.length<1000000000/\rI x.1/\rI x.2.2.1
def imX (x:Im):Prop:=rI x.1/\rI x.2.2.1/\x.2.1.length<=9223372036854775807/\x.2.2.2.length<=9223372036854775807
theorem imM.x {x:Im}(h:imM x):imX x:=⟨h.2.2.1,h.2.2.2,h.1,by have:=h.2.1;omega⟩
def okN (c:UInt8):Bool:=(!decide (c.toNat<97) && !decide (c.toNat>122))||((!decide (c.toNat<48) && !decide (c.toNat>57))||decide (c=45))
def jWc (s:List UInt8):Bool:=(!decide (s.length<1) && !decide (12<s.length))&&s.all okN
def lnS (out:List (List UInt8))(line:List UInt8):List UInt8->List (List UInt8)
 |[]=>if 0<line.length then [] else out
 |c::r=>if c=10 then(if line.length=0\/4<=out.length then [] else lnS (out++[line]) [] r) else if okC c=true then lnS out (line++[c]) r else []
def lnL (p:List UInt8):List (List UInt8):=lnS [] [] p
def jTo (r v:Int):Prop:=r<1\/4<r\/v<0\/1000000<v
instance {r v:Int}:Decidable (jTo r v):=by unfold jTo;infer_instance
def jT0 (x:Im):Int:=if jTo x.1 x.2.2.1 then 1 else if jWc x.2.1=false then 43 else if 64<x.2.2.2.length then 4 else if x.1=4/\(lnL x.2.2.2).length=0 then 40 else 0
def chF (pre:List Im):List Im->Int
 |[]=>if pre.any (λy=>decide (y.1=1))&&pre.any (λy=>decide (y.1=3)) then 0 else 40
 |x::r=>if jT0 x≠0 then jT0 x else if pre≠[]/\x.1<(pre.getLastD (0,[],0,[])).1 then 41 else if pre.any (λy=>decide (y.1=x.1)&&decide (y.2.1=x.2.1)) then 42 else chF (pre++[x]) r
def chP (l:List Im):Prop:=∀r,chF [] (l++r)=chF l r
structure ChO (r:Int)(l:List Im):Prop where
 p:chP l
 ok:∀x∈l,jT0 x=0
 le:∀x∈l,x.1<=r
theorem ChO.up {r q:Int}{l:List Im}(h:ChO r l)(hq:r<=q):ChO q l:=⟨h.p,h.ok,λx hx=>by have:=h.le x hx;omega⟩
theorem evM.x {e:Ev}(h:evM e):evX e:=⟨by have:=h.1.1;omega,λx hx=>by have:=h.1.2 x hx;omega,by have:=h.2;omega⟩
abbrev Rg:=List zD×Int
def rpS (x:Rg)(e:Ev):Rg:=if e.2.1=5 then x else jF5 x 0 e.1 e.2.2.1
def rp0 (act:Int):Rg:=(vL act,0)
def ShA (act:Int)(bk:List zD):Prop:=∃b0 b1:zD,bk=[b0,b1]/\List.length b0=(if act%2=1 then 16 else 0)/\List.length b1=(if act/2%2=1 then 16 else 0)/\(∀x∈b0,x.length=20)/\∀x∈b1,x.length=32
theorem ShA.new {act:Int}(ha:1<=act/\act<=3):ShA act (vL act):=by
 have h:vL act=[if act%2=1 then qB0 0 else [],if act/2%2=1 then qB0 1 else []]:=qEa oM;refine⟨_,_,h,?_,?_,λx hx=>?_,λx hx=>?_⟩
 .split
  .exact qK
  .rfl
 .split
  .exact qK
  .rfl
 .split at hx
  .exact zLp (a:=0) x hx
  .simp at hx
 .split at hx
  .exact zLp (a:=1) x hx
  .simp at hx
theorem ShA.rv {act:Int}{bk:List zD}(h:ShA act bk):RV bk:=by
 obtain⟨b0,b1,rfl,h0,h1,z0,z1⟩:=h;refine⟨.two _ _ ?_ ?_,λb hb x hx=>?_⟩
 .split at h0
  .exact .inr h0
  .exact .inl h0
 .split at h1
  .exact .inr h1
  .exact .inl h1
 .simp only[mem_cons,not_mem_nil,or_false]at hb;rcases hb with rfl|rfl
  .have:=z0 x hx;omega
  .have:=z1 x hx;omega
theorem ShA.ext {act:Int}{bk:List zD}(h:ShA act bk)(i:Nat)(ds:List (List UInt8)):ShA act (qSb bk i ds):=by
 obtain⟨b0,b1,rfl,h0,h1,z0,z1⟩:=h;rw[zEo];refine⟨_,_,rfl,zA.trans h0,zA.trans h1,?_,?_⟩
 .unfold qC4;split
  .exact zCu z0 (qIr (a:=0))
  .exact z0
 .unfold qC4;split
  .exact zCu z1 (qIr (a:=1))
  .exact z1
def RQ (act:Int)(n:Nat)(x:Rg):Prop:=ShA act x.1/\0<=x.2/\x.2<=n
theorem RQ.zero {act:Int}(ha:1<=act/\act<=3):RQ act 0 (rp0 act):=⟨ShA.new ha,by simp[rp0],by simp[rp0]⟩
theorem RQ.up {act:Int}{n m:Nat}{x:Rg}(h:RQ act n x)(hm:n<=m):RQ act m x:=⟨h.1,h.2.1,by have:=h.2.2;omega⟩
theorem RQ.ext {act:Int}{n:Nat}{x:Rg}(h:RQ act n x)(l i:Int)(ds:List (List UInt8)):RQ act (n+1) (jF5 x l i ds):=by
 unfold jF5;split
 .exact⟨h.1.ext _ _,by have:=h.2.1;simp only;omega,by have:=h.2.2;simp only;omega⟩
 .exact h.up oM
theorem RQ.step {act:Int}{n:Nat}{x:Rg}{e:Ev}(h:RQ act n x):RQ act (n+1) (rpS x e):=by
 unfold rpS;split
 .exact h.up oM
 .exact h.ext _ _ _
end Go.Eng
end
