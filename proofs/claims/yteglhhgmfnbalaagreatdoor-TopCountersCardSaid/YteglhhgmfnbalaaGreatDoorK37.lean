/- A part of an abstract machine, its walks, their tie. -/
import Derived.Test.YteglhhgmfnbalaaGreatDoorK36
import Derived.Test.YteglhhgmfnbalaaGreatDoorK33
set_option linter.all false
section
set_option maxHeartbeats 64000000
set_option maxRecDepth 100000
namespace Go.Eng
open List
theorem zZg {M t p:List UInt8}{n w:Int}{L:Nat}(hM:M.length=32)(hn:0<=n/\n<=1000000)(hL:L<=65000)(ht:t=beI 8 n 8++beI 4 (L:Int) 4++p)(hp:p.length<L) :
  prV (M++t) w=([],0,false)/\lnV (M++t)=L:=by
 have A0:At (M++t) 0 (M++(beI 8 n 8++(beI 4 (L:Int) 4++p))):=⟨[],rfl,by rw[ht];simp only[append_assoc,nil_append]⟩;have f1:=jOx (B:=M++t) (M:=M) rfl hM;have A1:At (M++t) 32 (beI 8 n 8++(beI 4 (L:Int) 4++p)):=by have:=A0.next;rw[hM]at this;exact this
 obtain⟨f2,A2⟩:=At.uint A1 (.inl ⟨rfl,oM⟩);have f3:qI (M++t,32+8,0) 4=((L:Int),(M++t,32+8+4,0)):=by
  obtain⟨h,h0,hb⟩:=A2;have v:beV (beI 4 (L:Int) 4)=L:=by
   rw[qJt];have:=qMu (n:=(L:Int)) oM;have e:(256:Nat)^4=4294967296:=by decide
   rw[e];omega
  have:=qLn (b:=M++t) (p:=h) (q:=beI 4 (L:Int) 4) (k:=4) (by rw[hb,<-append_assoc]) qN oM;rw[h0,v]at this;exact this
 have hl:(M++t).length=44+p.length:=by rw[ht];simp only[length_append,hM,qN];omega
 have f4:qAj (M++t,32+8+4,0) L=([],(M++t,32+8+4,2)):=by
  unfold qAj;rw[if_neg sM,if_pos (by show(M++t).length<32+8+4+L;omega)]
 refine⟨?_,by unfold lnV;rw[f1];show(qI (qI (M++t,32,0) 8).2 4).1=_;rw[f2];show(qI (M++t,32+8,0) 4).1=_;rw[f3]⟩;unfold prV;rw[f1];simp only;rw[f2];simp only;rw[f3];simp only[Int.toNat_natCast];rw[f4];exact if_pos (.inl (show(2:Int)≠0 by decide))
theorem yEv {x y:UInt8}{u:Nat}(h:u<=7):([0,0,0,0,0,0,0,x]:List UInt8).take u++([0,0,0,0,0,0,0,y]:List UInt8).drop u=[0,0,0,0,0,0,0,y]:=by
 rcases(by omega:u=0\/u=1\/u=2\/u=3\/u=4\/u=5\/u=6\/u=7)with rfl|rfl|rfl|rfl|rfl|rfl|rfl|rfl<;>rfl
theorem jFr {α:Type}{a b c d:List α}{t:Nat}(h:a.length=c.length)(ht:t<=a.length):(a++b).take t++(c++d).drop t=(a.take t++c.drop t)++d:=by
 rw[take_append_of_le_length ht,drop_append_of_le_length oM,append_assoc]
theorem jFs {α:Type}{a b c d:List α}{t:Nat}(h:a.length=c.length)(ht:a.length<=t):(a++b).take t++(c++d).drop t=a++(b.take (t-a.length)++d.drop (t-a.length)):=by
 rw[take_append,drop_append,take_of_length_le ht,drop_of_length_le oM,<-h,append_assoc,nil_append]
theorem zB7 {n:Int}{p r:List UInt8}(hn:1<=n/\n<=1000000)(lp:p.length<=300)(lr:r.length<=300):neV (qAe n p++r) n p:=by
 have e:qAe n p++r=mkB n p++(beI 8 n 8++beI 4 (p.length:Int) 4++p++r):=by unfold qAe;simp only[append_assoc]
 obtain⟨h1,h2⟩:=zLt (M:=mkB n p) (t:=beI 8 n 8++beI 4 (p.length:Int) 4++p++r) (p:=p) (r:=r) (n:=n) (w:=n%2) qCl oM oM rfl;rw[<-e]at h1 h2;rw[if_neg (by rintro (h|h|h);omega;exact h rfl;exact h rfl)]at h1;refine⟨h1,?_,by rw[h2];omega⟩;rw[length_append,qFd];omega
theorem zIz {n:Int}(hn:2<=n/\n<=200){new old jk:List UInt8}(ln:new.length=240\/new.length=260)(lo:old.length=240\/old.length=260)(lj:jk.length<=20){t:Nat}(ht:t<=255)
  (H1:old.length≠new.length->mkB (n+1) new≠mkB (n+1) old) (H2:new.length<old.length->mkB (n+1) new≠mkB (n+1) (old.take 4))
  (H3:∀p,p<212->new.length<=(old++jk).length->qYw new (old++jk) p=new\/mkB (n+1) new≠mkB (n+1) (qYw new (old++jk) p)) :
  loV ((qAe (n+1) new).take t++(qAe (n-1) old++jk).drop t) n\/(qAe (n+1) new).take t++(qAe (n-1) old++jk).drop t=qAe (n+1) new++(old++jk).drop new.length:=by
 have loj:(old++jk).length=old.length+jk.length:=length_append;have lmn:(mkB (n+1) new).length=32:=qCl;have lmo:(mkB (n-1) old).length=32:=qCl;have eN:qAe (n+1) new=mkB (n+1) new++(beI 8 (n+1) 8++(beI 4 (new.length:Int) 4++new)):=by unfold qAe;simp only[append_assoc]
 have eO:qAe (n-1) old++jk=mkB (n-1) old++(beI 8 (n-1) 8++(beI 4 (old.length:Int) 4++(old++jk))):=by unfold qAe;simp only[append_assoc]
 have eN2:∀r,qAe (n+1) new++r=mkB (n+1) new++(beI 8 (n+1) 8++(beI 4 (new.length:Int) 4++(new++r))):=λr=>by unfold qAe;simp only[append_assoc]
 rw[eN2,eN,eO];have old_no:∀M:List UInt8,M.length=32->loV (M++(beI 8 (n-1) 8++(beI 4 (old.length:Int) 4++(old++jk)))) n:=by
  intro M hM;obtain⟨h1,h2⟩:=zLt (M:=M) (t:=beI 8 (n-1) 8++(beI 4 (old.length:Int) 4++(old++jk))) (p:=old) (r:=jk) (n:=n-1) (w:=(n+1)%2) hM oM oM (by simp only[append_assoc]);refine⟨⟨?_,by rw[h2];omega⟩,λ_=>?_⟩
  .simp only[length_append,hM,qN];omega
  .rw[h1];split
   .show(0:Int)<n;omega
   .show n-1<n;omega
 have new_no:∀p r:List UInt8,p.length<=300->r.length<=300->(p=new/\r=(old++jk).drop new.length\/mkB (n+1) new≠mkB (n+1) p)->loV (mkB (n+1) new++(beI 8 (n+1) 8++(beI 4 (p.length:Int) 4++(p++r)))) n\/mkB (n+1) new++(beI 8 (n+1) 8++(beI 4 (p.length:Int) 4++(p++r)))=mkB (n+1) new++(beI 8 (n+1) 8++(beI 4 (new.length:Int) 4++(new++(old++jk).drop new.length))):=by
  intro p r lp lr h;obtain⟨h1,h2⟩:=zLt (M:=mkB (n+1) new) (t:=beI 8 (n+1) 8++(beI 4 (p.length:Int) 4++(p++r))) (p:=p) (r:=r) (n:=n+1) (w:=(n+1)%2) lmn oM oM (by simp only[append_assoc]);have ha:zGz (mkB (n+1) new++(beI 8 (n+1) 8++(beI 4 (p.length:Int) 4++(p++r)))):=by
   refine⟨?_,by rw[h2];omega⟩;simp only[length_append,lmn,qN];omega
  rcases h with⟨rfl,rfl⟩|h
  .exact .inr rfl
  .left;rw[if_pos (.inr (.inr h))]at h1;exact⟨ha,λh=>by rw[h1]at h;cases h⟩
 have long_no:∀(L:Nat)(p:List UInt8),L<=600->p.length<L->loV (mkB (n+1) new++(beI 8 (n+1) 8++(beI 4 (L:Int) 4++p))) n:=by
  intro L p hL hp;obtain⟨h1,h2⟩:=zZg (M:=mkB (n+1) new) (t:=beI 8 (n+1) 8++(beI 4 (L:Int) 4++p)) (p:=p) (n:=n+1) (w:=(n+1)%2) (L:=L) lmn oM oM (by simp only[append_assoc]) hp;refine⟨⟨?_,by rw[h2];omega⟩,λh=>by rw[h1]at h;cases h⟩;simp only[length_append,lmn,qN];omega
 rcases Nat.lt_or_ge t 32 with c1|c1
 .left;rw[jFr (by rw[lmn,lmo]) oM];exact old_no _ (by rw[length_append,length_take,length_drop,lmn,lmo];omega)
 rw[jFs (by rw[lmn,lmo]) oM,lmn];rcases Nat.lt_or_ge t 40 with c2|c2
 .left;have e1:beI 8 (n+1) 8=[0,0,0,0,0,0,0,UInt8.ofNat (n+1).toNat]:=by
   have:=zAa (n:=(n+1).toNat) oM;rwa [show(((n+1).toNat:Nat):Int)=n+1 by omega]at this
  have e2:beI 8 (n-1) 8=[0,0,0,0,0,0,0,UInt8.ofNat (n-1).toNat]:=by
   have:=zAa (n:=(n-1).toNat) oM;rwa [show(((n-1).toNat:Nat):Int)=n-1 by omega]at this
  have e3:(beI 8 (n+1) 8++(beI 4 (new.length:Int) 4++new)).take (t-32)++(beI 8 (n-1) 8++(beI 4 (old.length:Int) 4++(old++jk))).drop (t-32)=beI 8 (n-1) 8++(beI 4 (old.length:Int) 4++(old++jk)):=by
   rw[jFr (by simp only[qN]) (by rw[qN];omega),e1,e2,yEv oM]
  rw[e3];exact old_no _ lmn
 rw[jFs (by simp only[qN]) (by rw[qN];omega),qN];have b4:beI 4 (240:Int) 4=[0,0,0,240]/\beI 4 (260:Int) 4=[0,0,1,4]/\beI 4 (4:Int) 4=[0,0,0,4]/\beI 4 (496:Int) 4=[0,0,1,240]:=by decide +kernel
 obtain⟨b1,b2,b3,b5⟩:=b4;have whole:loV (mkB (n+1) new++(beI 8 (n+1) 8++(beI 4 (old.length:Int) 4++(old++jk)))) n\/mkB (n+1) new++(beI 8 (n+1) 8++(beI 4 (old.length:Int) 4++(old++jk)))=mkB (n+1) new++(beI 8 (n+1) 8++(beI 4 (new.length:Int) 4++(new++(old++jk).drop new.length))):=by
  refine new_no old jk oM oM ?_;by_cases c:old.length=new.length
  .have h:=H3 0 oM oM;have e:qYw new (old++jk) 0=old:=by
    unfold qYw;rw[take_zero,drop_zero,nil_append,<-c,take_left'];rfl
   rw[e]at h;rcases h with h|h
   .refine .inl ⟨h,?_⟩;rw[<-c,drop_left]
   .exact .inr h
  .exact .inr (H1 c)
 rcases Nat.lt_or_ge t 44 with c3|c3
 .rw[show t-32-8=t-40 by omega,jFr (by simp only[qN]) (by rw[qN];omega)];by_cases c:old.length=new.length
  .rw[c]at whole⊢;rw[take_append_drop];exact whole
  .rcases(by omega:t-40<=2\/t-40=3)with c4|c4
   .have e:(beI 4 (new.length:Int) 4).take (t-40)++(beI 4 (old.length:Int) 4).drop (t-40)=beI 4 (old.length:Int) 4:=by
     have hu:t-40=0\/t-40=1\/t-40=2:=oM;rcases ln with h1|h1<;>rcases lo with h2|h2
     .exact absurd (h2.trans h1.symm) c
     .rw[h1,h2];show(beI 4 (240:Int) 4).take _++(beI 4 (260:Int) 4).drop _=beI 4 (260:Int) 4;rw[b1,b2];rcases hu with h|h|h<;>rw[h]<;>rfl
     .rw[h1,h2];show(beI 4 (260:Int) 4).take _++(beI 4 (240:Int) 4).drop _=beI 4 (240:Int) 4;rw[b1,b2];rcases hu with h|h|h<;>rw[h]<;>rfl
     .exact absurd (h2.trans h1.symm) c
    rw[e];exact whole
   .rw[c4];rcases ln with h1|h1<;>rcases lo with h2|h2
    .exact absurd (h2.trans h1.symm) c
    .have e:(beI 4 (new.length:Int) 4).take 3++(beI 4 (old.length:Int) 4).drop 3=beI 4 (((old.take 4).length:Nat):Int) 4:=by
      rw[length_take,h1,h2];show(beI 4 (240:Int) 4).take 3++(beI 4 (260:Int) 4).drop 3=beI 4 (4:Int) 4;rw[b1,b2,b3];rfl
     have e5:old++jk=old.take 4++(old.drop 4++jk):=by rw[<-append_assoc,take_append_drop]
     have key:=new_no (old.take 4) (old.drop 4++jk) (by rw[length_take];omega) (by rw[length_append,length_drop];omega) (.inr (H2 oM));rw[<-e5]at key;rw[e];exact key
    .left;have e:(beI 4 (new.length:Int) 4).take 3++(beI 4 (old.length:Int) 4).drop 3=beI 4 ((496:Nat):Int) 4:=by
      rw[h1,h2];show(beI 4 (260:Int) 4).take 3++(beI 4 (240:Int) 4).drop 3=beI 4 (496:Int) 4;rw[b1,b2,b5];rfl
     rw[e];exact long_no 496 _ oM oM
    .exact absurd (h2.trans h1.symm) c
 .rw[show t-32-8=t-40 by omega,jFs (by simp only[qN]) (by rw[qN];omega),qN,show t-40-4=t-44 by omega];by_cases c:new.length<=(old++jk).length
  .have hY:(new.take (t-44)++(old++jk).drop (t-44))=qYw new (old++jk) (t-44)++(new.take (t-44)++(old++jk).drop (t-44)).drop new.length:=by
    unfold qYw;rw[take_append_drop]
   have hl:(new.take (t-44)++(old++jk).drop (t-44)).length=(old++jk).length:=by
    rw[length_append,length_take,length_drop];omega
   have hm:(qYw new (old++jk) (t-44)).length=new.length:=by
    unfold qYw;rw[length_take,hl];omega
   have key:=new_no (qYw new (old++jk) (t-44)) ((new.take (t-44)++(old++jk).drop (t-44)).drop new.length) oM (by rw[length_drop,hl];omega) (by
    rcases H3 (t-44) oM c with h|h
    .refine .inl ⟨h,?_⟩;rw[drop_append,length_take,drop_of_length_le (by rw[length_take];omega),nil_append,drop_drop];congr 1;omega
    .exact .inr h)
   rw[hm]at key;rw[hY];exact key
  .left;refine long_no new.length _ oM ?_;rw[length_append,length_take,length_drop];omega
theorem jLa:yC7=true:=by decide +kernel
abbrev kc0:Kc:=⟨.n,.u,1,0,1,1,0,false⟩
theorem jU5:kc0.chk 0=true:=by decide +kernel
theorem jU6:kc0.Good where
 la:=(by decide +kernel:∀y∈kc0.la,y.1<=50/\y.2.1<=50/\y.2.2<=50)
 sy:=by decide +kernel
 sm:=by decide +kernel
 ln:=by decide +kernel
 lj:=by decide +kernel
 ck:=by
  intro j hj;have hl:kc0.ms.length=1:=by decide +kernel
  rw[hl]at hj
  match j,hj with
  |0,_=>exact jU5
  |j+1,hj=>omega
abbrev kc1:Kc:=⟨.u,.n,1,0,0,2,0,false⟩
theorem jU7:kc1.chk 0=true:=by decide +kernel
theorem jU8:kc1.chk 1=true:=by decide +kernel
theorem jU9:kc1.chk 2=true:=by decide +kernel
theorem jVa:kc1.chk 3=true:=by decide +kernel
theorem jVb:kc1.Good where
 la:=(by decide +kernel:∀y∈kc1.la,y.1<=50/\y.2.1<=50/\y.2.2<=50)
 sy:=by decide +kernel
 sm:=by decide +kernel
 ln:=by decide +kernel
 lj:=by decide +kernel
 ck:=by
  intro j hj;have hl:kc1.ms.length=11:=by decide +kernel
  rw[hl]at hj
  match j,hj with
  |0,_=>exact jU7
  |1,_=>exact jU8
  |2,_=>exact jU9
  |3,_=>exact jVa
  |j+4,hj=>omega
abbrev kc2:Kc:=⟨.w,.n,1,0,0,2,1,false⟩
theorem jVc:kc2.chk 0=true:=by decide +kernel
theorem jVd:kc2.chk 1=true:=by decide +kernel
theorem jVe:kc2.chk 2=true:=by decide +kernel
theorem jVf:kc2.chk 3=true:=by decide +kernel
theorem jVg:kc2.chk 4=true:=by decide +kernel
theorem jVh:kc2.Good where
 la:=(by decide +kernel:∀y∈kc2.la,y.1<=50/\y.2.1<=50/\y.2.2<=50)
 sy:=by decide +kernel
 sm:=by decide +kernel
 ln:=by decide +kernel
 lj:=by decide +kernel
 ck:=by
  intro j hj;have hl:kc2.ms.length=13:=by decide +kernel
  rw[hl]at hj
  match j,hj with
  |0,_=>exact jVc
  |1,_=>exact jVd
  |2,_=>exact jVe
  |3,_=>exact jVf
  |4,_=>exact jVg
  |j+5,hj=>omega
abbrev kc3:Kc:=⟨.u,.w,1,1,0,2,0,false⟩
theorem jVi:kc3.chk 0=true:=by decide +kernel
theorem jVj:kc3.chk 1=true:=by decide +kernel
theorem jVk:kc3.Good where
 la:=(by decide +kernel:∀y∈kc3.la,y.1<=50/\y.2.1<=50/\y.2.2<=50)
 sy:=by decide +kernel
 sm:=by decide +kernel
 ln:=by decide +kernel
 lj:=by decide +kernel
 ck:=by
  intro j hj;have hl:kc3.ms.length=4:=by decide +kernel
  rw[hl]at hj
  match j,hj with
  |0,_=>exact jVi
  |1,_=>exact jVj
  |j+2,hj=>omega
abbrev kc4:Kc:=⟨.w,.w,1,1,0,2,1,false⟩
theorem jVl:kc4.chk 0=true:=by decide +kernel
theorem jVm:kc4.Good where
 la:=(by decide +kernel:∀y∈kc4.la,y.1<=50/\y.2.1<=50/\y.2.2<=50)
 sy:=by decide +kernel
 sm:=by decide +kernel
 ln:=by decide +kernel
 lj:=by decide +kernel
 ck:=by
  intro j hj;have hl:kc4.ms.length=3:=by decide +kernel
  rw[hl]at hj
  match j,hj with
  |0,_=>exact jVl
  |j+1,hj=>omega
abbrev kc5:Kc:=⟨.n,.w,0,1,0,2,0,false⟩
theorem jVn:kc5.chk 0=true:=by decide +kernel
theorem jVo:kc5.Good where
 la:=(by decide +kernel:∀y∈kc5.la,y.1<=50/\y.2.1<=50/\y.2.2<=50)
 sy:=by decide +kernel
 sm:=by decide +kernel
 ln:=by decide +kernel
 lj:=by decide +kernel
 ck:=by
  intro j hj;have hl:kc5.ms.length=1:=by decide +kernel
  rw[hl]at hj
  match j,hj with
  |0,_=>exact jVn
  |j+1,hj=>omega
abbrev kc6:Kc:=⟨.w,.u,0,0,1,1,1,false⟩
theorem jVp:kc6.chk 0=true:=by decide +kernel
theorem jVq:kc6.Good where
 la:=(by decide +kernel:∀y∈kc6.la,y.1<=50/\y.2.1<=50/\y.2.2<=50)
 sy:=by decide +kernel
 sm:=by decide +kernel
 ln:=by decide +kernel
 lj:=by decide +kernel
 ck:=by
  intro j hj;have hl:kc6.ms.length=2:=by decide +kernel
  rw[hl]at hj
  match j,hj with
  |0,_=>exact jVp
  |j+1,hj=>omega
abbrev kc7:Kc:=⟨.u,.n,0,1,1,3,0,false⟩
theorem jVr:kc7.chk 0=true:=by decide +kernel
theorem jVs:kc7.chk 1=true:=by decide +kernel
theorem jVt:kc7.chk 2=true:=by decide +kernel
theorem jVu:kc7.chk 3=true:=by decide +kernel
theorem jVv:kc7.Good where
 la:=(by decide +kernel:∀y∈kc7.la,y.1<=50/\y.2.1<=50/\y.2.2<=50)
 sy:=by decide +kernel
 sm:=by decide +kernel
 ln:=by decide +kernel
 lj:=by decide +kernel
 ck:=by
  intro j hj;have hl:kc7.ms.length=11:=by decide +kernel
  rw[hl]at hj
  match j,hj with
  |0,_=>exact jVr
  |1,_=>exact jVs
  |2,_=>exact jVt
  |3,_=>exact jVu
  |j+4,hj=>omega
abbrev kc8:Kc:=⟨.w,.n,0,1,1,3,1,false⟩
theorem jVw:kc8.chk 0=true:=by decide +kernel
theorem jVx:kc8.chk 1=true:=by decide +kernel
theorem jVy:kc8.chk 2=true:=by decide +kernel
theorem jVz:kc8.chk 3=true:=by decide +kernel
theorem jV0:kc8.chk 4=true:=by decide +kernel
theorem jV1:kc8.Good where
 la:=(by decide +kernel:∀y∈kc8.la,y.1<=50/\y.2.1<=50/\y.2.2<=50)
 sy:=by decide +kernel
 sm:=by decide +kernel
 ln:=by decide +kernel
 lj:=by decide +kernel
 ck:=by
  intro j hj;have hl:kc8.ms.length=13:=by decide +kernel
  rw[hl]at hj
  match j,hj with
  |0,_=>exact jVw
  |1,_=>exact jVx
  |2,_=>exact jVy
  |3,_=>exact jVz
  |4,_=>exact jV0
  |j+5,hj=>omega
abbrev kc9:Kc:=⟨.u,.w,0,2,1,3,0,false⟩
theorem jV2:kc9.chk 0=true:=by decide +kernel
theorem jV3:kc9.Good where
 la:=(by decide +kernel:∀y∈kc9.la,y.1<=50/\y.2.1<=50/\y.2.2<=50)
 sy:=by decide +kernel
 sm:=by decide +kernel
 ln:=by decide +kernel
 lj:=by decide +kernel
 ck:=by
  intro j hj;have hl:kc9.ms.length=3:=by decide +kernel
  rw[hl]at hj
  match j,hj with
  |0,_=>exact jV2
  |j+1,hj=>omega
abbrev jS2:Kc:=⟨.w,.w,0,2,1,3,1,false⟩
theorem jNd:jS2.chk 0=true:=by decide +kernel
theorem jNe:jS2.Good where
 la:=(by decide +kernel:∀y∈jS2.la,y.1<=50/\y.2.1<=50/\y.2.2<=50)
 sy:=by decide +kernel
 sm:=by decide +kernel
 ln:=by decide +kernel
 lj:=by decide +kernel
 ck:=by
  intro j hj;have hl:jS2.ms.length=2:=by decide +kernel
  rw[hl]at hj
  match j,hj with
  |0,_=>exact jNd
  |j+1,hj=>omega
abbrev jGj:Kc:=⟨.n,.u,1,0,1,1,0,true⟩
theorem jNf:jGj.chk 0=true:=by decide +kernel
theorem jNg:jGj.chk 1=true:=by decide +kernel
theorem jNh:jGj.chk 2=true:=by decide +kernel
theorem jNi:jGj.chk 3=true:=by decide +kernel
theorem jNj:jGj.Good where
 la:=(by decide +kernel:∀y∈jGj.la,y.1<=50/\y.2.1<=50/\y.2.2<=50)
 sy:=by decide +kernel
 sm:=by decide +kernel
 ln:=by decide +kernel
 lj:=by decide +kernel
 ck:=by
  intro j hj;have hl:jGj.ms.length=10:=by decide +kernel
  rw[hl]at hj
  match j,hj with
  |0,_=>exact jNf
  |1,_=>exact jNg
  |2,_=>exact jNh
  |3,_=>exact jNi
  |j+4,hj=>omega
def enK (o:Bool)(r m:Nat)(kd:Kd):List UInt8:=qCs (ctA o (r:Int) (m:Int) kd)
def jkB:List UInt8:=uB [0,0,0,0,0,0,0,0,0,0,0,0,0,0,0,0,0,3,232,0]
theorem zQx {o:Bool}{r m:Nat}{kd:Kd}{a b:Sy}{x y z:Nat}(h1:a.n x y z=r)(h2:b.n x y z=m)(hr:r<256)(hm:m<256):enK o r m kd=(zVy (if o then 1 else 0) a b kd).map (Sy.b x y z):=by
 unfold enK;rw[<-h1,<-h2];exact jL2 oM oM
theorem zSz:∀o a b kd,(zVy o a b kd).length=if kd=.n then 240 else 260:=by
 intro o a b kd;cases kd<;>rfl
theorem jF1 {o:Bool}{r m:Nat}{kd:Kd}(hr:r<256)(hm:m<256):(enK o r m kd).length=if kd=.n then 240 else 260:=by
 rw[zQx (a:=Sy.c r) (b:=Sy.c m) (x:=0) (y:=0) (z:=0) (by simp[Sy.n,Sy.c]) (by simp[Sy.n,Sy.c]) hr hm,length_map,zSz]
theorem zBx {o:Bool}{r m:Nat}{kd:Kd}(hr:r<256)(hm:m<256):(enK o r m kd).length=240\/(enK o r m kd).length=260:=by
 rw[jF1 hr hm];split
 .exact .inl rfl
 .exact .inr rfl
theorem qI1 {x:Kc}{r k m:Nat}(hr:1<=r/\r<=20)(hk:k<=20)(hm:m<=20)(h1:m+x.lo<=k)(h2:x.lm<=m)(h3:(k+m)%2=x.par):(r,k,m)∈x.la:=by
 unfold Kc.la;rw[mem_flatMap];refine⟨r-1,mem_range.2 oM,?_⟩;rw[mem_flatMap];refine⟨k,mem_range.2 oM,?_⟩;rw[mem_map];refine⟨m,?_,soM⟩;rw[mem_filter];refine⟨mem_range.2 oM,?_⟩;simp[h1,h2,h3]
def TnO (n:Int)(B new:List UInt8)(kd2:Kd):Prop:=loV B n\/∃jk2,B=qAe (n+1) new++jk2/\(jk2=[]\/jk2=jkB/\kd2=.n)
theorem qDo {x:Kc}(g:x.Good){r k m:Nat}(h:(r,k,m)∈x.la)(hr:1<=r/\r<=20)(hk:1<=k/\k<=20)(hm:m<=20)(hd:x.dr<=1/\x.dm<=2)(hz:(x.oj.length=x.new.length\/x.oj.length<x.new.length)\/x.kn=.n/\x.oj.drop x.new.length=jkS){t:Nat}(ht:t<=255){n:Int}(hn:n=((x.dr+r+k:Nat):Int)) :
  TnO n ((qAe (n+1) (enK false (r+x.dr) (m+x.dm) x.kn)).take t++(qAe (n-1) (enK false r m x.ko)++(if x.jk=true then jkB else [])).drop t) (enK false (r+x.dr) (m+x.dm) x.kn) x.kn:=by
 have e1:enK false (r+x.dr) (m+x.dm) x.kn=x.new.map (Sy.b r k m):=zQx (by simp[Sy.n];omega) (by simp[Sy.n];omega) oM oM;have e2:enK false r m x.ko=x.old.map (Sy.b r k m):=zQx (by simp[Sy.n]) (by simp[Sy.n]) oM oM;have e3:(if x.jk=true then jkB else [])=(if x.jk=true then jkS else []).map (Sy.b r k m):=by
  split
  .exact jWa.symm
  .rfl
 have e4:x.old.map (Sy.b r k m)++(if x.jk=true then jkS else []).map (Sy.b r k m)=x.oj.map (Sy.b r k m):=by
  unfold Kc.oj;rw[map_append]
 have hs:((x.sq.n r k m:Nat):Int)=n+1:=by
  rw[hn];simp only[Kc.sq,Sy.n];omega
 obtain⟨t1,t2,t3⟩:=g.torn h;rw[hs]at t1 t2 t3;have lN:=zBx (o:=false) (r:=r+x.dr) (m:=m+x.dm) (kd:=x.kn) oM oM;have lO:=zBx (o:=false) (r:=r) (m:=m) (kd:=x.ko) oM oM;rw[e1]at lN;rw[e2]at lO;have lj:((if x.jk=true then jkS else []).map (Sy.b r k m)).length<=20:=by
  rw[length_map];split
  .exact Nat.le_refl 20
  .simp
 rw[e1,e2,e3];have key:=zIz (n:=n) (new:=x.new.map (Sy.b r k m)) (old:=x.old.map (Sy.b r k m)) (jk:=(if x.jk=true then jkS else []).map (Sy.b r k m)) (t:=t) oM lN lO lj ht (λc=>t1 (by simpa using c)) (λc=>t2 (by simpa using c)) (λp hp c=>by
  rw[e4]at c⊢;exact t3 p hp (by simpa using c))
 rcases key with key|key
 .exact .inl key
 .right;rw[e4,length_map]at key;rcases hz with hz|⟨hz1,hz2⟩
  .refine⟨[],?_,.inl rfl⟩;rw[key,drop_of_length_le (by rw[length_map];omega)]
  .refine⟨jkB,?_,.inr ⟨rfl,hz1⟩⟩;rw[key,<-map_drop,hz2];rw[show jkB=jkS.map (Sy.b r k m) from jWa.symm]
theorem zFs {n:Int}(hn:2<=n/\n<=200){p:List UInt8}(lp:p.length=240\/p.length=260){t:Nat}(ht:t<=255){kd2:Kd}:TnO n ((qAe (n+1) p).take t++(qAe (n-1) p++[]).drop t) p kd2:=by
 rcases zIz (n:=n) hn (new:=p) (old:=p) (jk:=[]) lp lp sM ht (λc=>absurd rfl c) (λc=>oM) (λq hq _=>.inl (by
  unfold qYw;rw[append_nil,take_append_drop,take_length]))with h|h
 .exact .inl h
 .refine .inr ⟨[],?_,.inl rfl⟩;rw[h,append_nil,drop_length]
theorem zNb {t:Nat}(ht:t<=255):TnO 2 ((qAe (2+1) (enK false 1 0 .u)).take t++(qAe (2-1) (enK true 0 0 .n)++[]).drop t) (enK false 1 0 .u) .u:=by
 have e1:enK false 1 0 .u=(zVy 0 (1,1,0,0) (0,0,0,1) .u).map (Sy.b 0 1 0):=zQx (by decide) (by decide) (by decide) (by decide);have e2:enK true 0 0 .n=(zVy 1 (0,1,0,0) (0,0,0,1) .n).map (Sy.b 0 1 0):=zQx (by decide) (by decide) (by decide) (by decide);have lN:(enK false 1 0 .u).length=260:=jF1 (by decide) (by decide);have lO:(enK true 0 0 .n).length=240:=jF1 (by decide) (by decide);have hne:mkB (2+1) (enK false 1 0 .u)≠mkB (2+1) (enK true 0 0 .n):=by
  have hc:=jLa;unfold yC7 at hc;have h:=zQd (l:=[(0,1,0)]) (by intro y hy;rw[mem_singleton]at hy;subst hy;decide) (by decide +kernel) (by decide +kernel) hc (r:=0) (k:=1) (m:=0) sM (mem_singleton.2 rfl);rw[zLb (by decide) (by rw[zSz];decide),zLb (by decide) (by rw[zSz];decide),<-e1,<-e2]at h;exact h
 rcases zIz (n:=2) oM (new:=enK false 1 0 .u) (old:=enK true 0 0 .n) (jk:=[]) (.inr lN) (.inl lO) sM ht (λ_=>hne) (λc=>oM) (λq hq c=>by
  rw[append_nil]at c;omega)with h|h
 .exact .inl h
 .refine .inr ⟨[],?_,.inl rfl⟩;rw[h,drop_of_length_le (by rw[append_nil];omega)]
def QkP (m q:Nat):Kd->Prop
 |.n=>m<=q/\(q+m)%2=0
 |.u=>m+1<=q/\(q+m)%2=1
 |.w=>(m+1<=q/\(q+m)%2=1)/\1<=m
def OpK (m:Nat)(kd:Kd)(m2:Nat)(kd2:Kd):Prop:=(kd=.n/\kd2=.u/\m2=m)\/((kd=.u\/kd=.w/\1<=m)/\(kd2=.n/\m2=m\/kd2=.w/\m2=m+1))
def PvP (o:Bool)(r0 m0:Nat)(kd0:Kd)(jk:List UInt8)(r m q:Nat)(kd:Kd):Prop:=
 (o=true/\r0=0/\m0=0/\kd0=.n/\jk=[]/\r=1/\m=0/\q=0/\kd=.n)\/
 (o=false/\1<=r0/\r=r0+1/\m=m0/\kd=kd0/\(jk=[]\/jk=jkB/\kd=.n))\/
 (o=false/\r=r0/\jk=[]/\OpK m0 kd0 m kd)
theorem OpK.q {m m2 q:Nat}{kd kd2:Kd}(h:OpK m kd m2 kd2)(hq:QkP m q kd):QkP m2 (q+1) kd2:=by
 rcases h with⟨rfl,rfl,rfl⟩|⟨rfl|⟨rfl,h1⟩,⟨rfl,rfl⟩|⟨rfl,rfl⟩⟩<;>simp only[QkP]at *<;>omega
theorem zUz {o:Bool}{r0 m0 r m q m2:Nat}{kd0 kd kd2:Kd}{jk:List UInt8}(pv:PvP o r0 m0 kd0 jk r m q kd)(hq:QkP m q kd)(hr:1<=r/\r<=20)(hq2:q<=19)(op:OpK m kd m2 kd2){t:Nat}(ht:t<=255){n:Int}(hn:n=((1+r+q:Nat):Int)) :
  TnO n ((qAe (n+1) (enK false r m2 kd2)).take t++(qAe (n-1) (enK o r0 m0 kd0)++jk).drop t) (enK false r m2 kd2) kd2:=by
 rcases pv with⟨rfl,rfl,rfl,rfl,rfl,rfl,rfl,rfl,rfl⟩|⟨rfl,hr0,rfl,rfl,rfl,hj⟩|⟨rfl,rfl,rfl,op0⟩
 .rcases op with⟨-,rfl,rfl⟩|⟨h|⟨h,_⟩,_⟩
  .subst hn;exact zNb ht
  .cases h
  .cases h
 .have eN:n=((1+r0+(q+1):Nat):Int):=by rw[hn];omega
  rcases op with⟨rfl,rfl,rfl⟩|⟨hk,hop⟩
  .simp only[QkP]at hq;rcases hj with rfl|⟨rfl,_⟩
   .exact qDo jU6 (k:=q+1) (qI1 oM oM oM (by show _+1<=q+1;omega) (by show 0<=_;omega) (by show(q+1+_)%2=1;omega)) oM oM oM (by decide) (.inl (by decide +kernel)) ht eN
   .exact qDo jNj (k:=q+1) (qI1 oM oM oM (by show _+1<=q+1;omega) (by show 0<=_;omega) (by show(q+1+_)%2=1;omega)) oM oM oM (by decide) (.inl (by decide +kernel)) ht eN
  obtain rfl:jk=[]:=by
   rcases hj with h|⟨_,h1⟩
   .exact h
   .rcases hk with h|⟨h,_⟩<;>rw[h1]at h<;>cases h
  rcases hk with rfl|⟨rfl,hm⟩<;>simp only[QkP]at hq
  .rcases hop with⟨rfl,rfl⟩|⟨rfl,rfl⟩
   .exact qDo jVb (k:=q+1) (qI1 oM oM oM (by show _+2<=q+1;omega) (by show 0<=_;omega) (by show(q+1+_)%2=0;omega)) oM oM oM (by decide) (.inr (by decide +kernel)) ht eN
   .exact qDo jVk (k:=q+1) (qI1 oM oM oM (by show _+2<=q+1;omega) (by show 0<=_;omega) (by show(q+1+_)%2=0;omega)) oM oM oM (by decide) (.inl (by decide +kernel)) ht eN
  .rcases hop with⟨rfl,rfl⟩|⟨rfl,rfl⟩
   .exact qDo jVh (k:=q+1) (qI1 oM oM oM (by show _+2<=q+1;omega) (by show 1<=_;omega) (by show(q+1+_)%2=0;omega)) oM oM oM (by decide) (.inr (by decide +kernel)) ht eN
   .exact qDo jVm (k:=q+1) (qI1 oM oM oM (by show _+2<=q+1;omega) (by show 1<=_;omega) (by show(q+1+_)%2=0;omega)) oM oM oM (by decide) (.inl (by decide +kernel)) ht eN
 .have eN:n=((0+r+(q+1):Nat):Int):=by rw[hn];omega
  rcases op0 with⟨rfl,rfl,rfl⟩|⟨hk0,⟨rfl,rfl⟩|⟨rfl,rfl⟩⟩
  .simp only[QkP]at hq;rcases op with⟨h,-⟩|⟨-,⟨rfl,rfl⟩|⟨rfl,rfl⟩⟩
   .cases h
   .exact zFs oM (zBx oM oM) ht
   .exact qDo jVo (k:=q+1) (qI1 oM oM oM (by show _+2<=q+1;omega) (by show 0<=_;omega) (by show(q+1+_)%2=0;omega)) oM oM oM (by decide) (.inl (by decide +kernel)) ht eN
  .simp only[QkP]at hq;rcases op with⟨-,rfl,rfl⟩|⟨h|⟨h,_⟩,_⟩
   .rcases hk0 with rfl|⟨rfl,hm⟩
    .exact zFs oM (zBx oM oM) ht
    .exact qDo jVq (k:=q+1) (qI1 oM oM oM (by show _+1<=q+1;omega) (by show 1<=_;omega) (by show(q+1+_)%2=1;omega)) oM oM oM (by decide) (.inl (by decide +kernel)) ht eN
   .cases h
   .cases h
  .simp only[QkP]at hq;rcases op with⟨h,-⟩|⟨-,⟨rfl,rfl⟩|⟨rfl,rfl⟩⟩
   .cases h
   .rcases hk0 with rfl|⟨rfl,hm⟩
    .exact qDo jVv (k:=q+1) (qI1 oM oM oM (by show _+3<=q+1;omega) (by show 0<=_;omega) (by show(q+1+_)%2=1;omega)) oM oM oM (by decide) (.inr (by decide +kernel)) ht eN
    .exact qDo jV1 (k:=q+1) (qI1 oM oM oM (by show _+3<=q+1;omega) (by show 1<=_;omega) (by show(q+1+_)%2=1;omega)) oM oM oM (by decide) (.inr (by decide +kernel)) ht eN
   .rcases hk0 with rfl|⟨rfl,hm⟩
    .exact qDo jV3 (k:=q+1) (qI1 oM oM oM (by show _+3<=q+1;omega) (by show 0<=_;omega) (by show(q+1+_)%2=1;omega)) oM oM oM (by decide) (.inl (by decide +kernel)) ht eN
    .exact qDo jNe (k:=q+1) (qI1 oM oM oM (by show _+3<=q+1;omega) (by show 1<=_;omega) (by show(q+1+_)%2=1;omega)) oM oM oM (by decide) (.inl (by decide +kernel)) ht eN
theorem zSj:qYx z32=ctA true 0 0 .n:=by
 have h:drv z32 [115,101,101,100] [0] 32=uB (sdN.getD 0 [])/\drv z32 [115,101,101,100] [1] 32=uB (sdN.getD 1 [])/\drv z32 [115,101,101,100] [2] 32=uB (sdN.getD 2 [])/\drv z32 [101,110,116,114,111,112,121] [] 32=uB enN:=by decide +kernel
 unfold qYx;rw[h.1,h.2.1,h.2.2.1,h.2.2.2];rfl
theorem jLg {o:Bool}{r m:Nat}{kd:Kd}:(qSr (qA9 (ctA o r m kd))).a=ctA false ((r+1:Nat):Int) m kd:=rfl
theorem jUx {m:Nat}{kd:Kd}:Kd.ix (m:Int) kd=[]\/∃w d,Kd.ix (m:Int) kd=[cnI w d]/\d.length=8:=by
 cases kd
 .exact .inl rfl
 .exact .inr ⟨false,List.replicate 8 0,rfl,rfl⟩
 .exact .inr ⟨true,beI 8 m 8,rfl,qN⟩
theorem jT3 {o:Bool}{r m:Nat}{kd:Kd}(hr:r<=900)(hm:m<=900):(ctA o (r:Int) (m:Nat) kd).Tp where
 sd:=⟨rfl,by show ∀x∈sdN.map uB,x.length=32;decide⟩
 au:=rfl
 en:=by show(uB enN).length=32;decide
 act:=rfl
 res:=⟨by show(0:Int)<=(r:Int);omega,by show(r:Int)<=1000;omega⟩
 rst:=rfl
 clk:=rfl
 bk:=⟨rfl,rfl⟩
 mc:=⟨by show(0:Int)<=(m:Int);omega,by show(m:Int)<=1000;omega⟩
 ix:=jUx
 lk:=rfl
 ks:=rfl
structure CnP (need:Int)(rb qb:Nat)(k:Dk)(s:St)(nx:Int)(r m q:Nat)(kd:Kd):Prop where
 tp:s.Tp
 a:s.a=ctA false r m kd
 ok:k.off=false/\k.ar.length=4/\0<=k.wr/\k.wr<=1+qb
 tn:k.cut<=k.wr+1/\(k.wr+1=k.cut->0<=k.tn/\k.tn<=255)
 hnx:nx=2+r+q
 new:k.ar.getD ((nx-1)%2).toNat []=qAe (nx-1) (enK false r m kd)
 old:∃o r0 m0 kd0 jk,k.ar.getD (nx%2).toNat []=qAe (nx-2) (enK o r0 m0 kd0)++jk/\PvP o r0 m0 kd0 jk r m q kd
 qk:QkP m q kd
 hrb:1<=r/\r<=rb
 hqb:q<=qb
 nd:0<=need/\need<=m
theorem QkP.le {m q:Nat}{kd:Kd}(h:QkP m q kd):m<=q:=by cases kd<;>simp only[QkP]at h<;>omega
theorem PvP.b {o:Bool}{r0 m0 r m q:Nat}{kd0 kd:Kd}{jk:List UInt8}(h:PvP o r0 m0 kd0 jk r m q kd):r0<=r/\m0<=m/\jk.length<=20:=by
 rcases h with⟨-,rfl,rfl,-,rfl,rfl,rfl,-,-⟩|⟨-,-,rfl,rfl,-,hj⟩|⟨-,rfl,rfl,op⟩
 .exact⟨oM,oM,sM⟩
 .refine⟨oM,oM,?_⟩;rcases hj with rfl|⟨rfl,-⟩
  .simp
  .exact Nat.le_refl 20
 .refine⟨oM,?_,sM⟩;rcases op with⟨-,-,rfl⟩|⟨-,⟨-,rfl⟩|⟨-,rfl⟩⟩<;>omega
theorem zPv {n:Int}{o:Bool}{r m:Nat}{kd:Kd}{jk:List UInt8}(hr:r<256)(hm:m<256)(hj:jk.length<=20):(qAe n (enK o r m kd)++jk).length<=65536:=by
 rw[length_append,qFd];rcases zBx (o:=o) (kd:=kd) hr hm with h|h<;>omega
theorem zU1 {ar:List (List UInt8)}{nx:Int}{P:List UInt8->Prop}(h1:P (ar.getD ((nx-1)%2).toNat []))(h2:P (ar.getD (nx%2).toNat [])):P (ar.getD 0 [])/\P (ar.getD 1 []):=by
 rcases(by omega:nx%2=0/\(nx-1)%2=1\/nx%2=1/\(nx-1)%2=0)with⟨c,c'⟩|⟨c,c'⟩
 .rw[c']at h1;rw[c]at h2;exact⟨h2,h1⟩
 .rw[c']at h1;rw[c]at h2;exact⟨h1,h2⟩
theorem CnP.dv {need:Int}{rb qb:Nat}{k:Dk}{s:St}{nx:Int}{r m q:Nat}{kd:Kd}(h:CnP need rb qb k s nx r m q kd)(hb:rb<=50/\qb<=50):DvP ⟨k,s,true,nx⟩:=by
 have hq:=h.qk.le;have q1:=h.hqb;have r1:=h.hrb;obtain⟨o,r0,m0,kd0,jk,e,pv⟩:=h.old;obtain⟨b1,b2,b3⟩:=pv.b;have hw:=h.ok;have hnx:=h.hnx;obtain⟨l0,l1⟩:=zU1 (ar:=k.ar) (nx:=nx) (P:=λl=>l.length<=65536) (by rw[h.new];have:=zPv (n:=nx-1) (o:=false) (r:=r) (m:=m) (kd:=kd) (jk:=[]) oM oM sM;rwa [append_nil]at this) (by rw[e];exact zPv oM oM b3);exact⟨⟨rfl,⟨⟨hw.1,hw.2.1,hw.2.2.1,by show k.wr<=1000000;omega⟩,λc=>⟨h.tn.2 c,l0,l1⟩⟩,by show 1<=nx;omega,by show nx<=100000;omega⟩,h.tp.a.B⟩
theorem CnP.ix {need:Int}{rb qb:Nat}{k:Dk}{s:St}{nx:Int}{r m q:Nat}{kd:Kd}(h:CnP need rb qb k s nx r m q kd):ixK s/\s.a.mc=m/\(kd=.n->s.a.ix=[])/\(kd=.u->s.a.ix=[ctI 0])/\(kd=.w->s.a.ix=[ctI m]/\1<=m):=by
 have hm:s.a.mc=m:=by rw[h.a];rfl
 have hq:=h.qk;have hw:kd=.w->s.a.ix=[ctI m]/\1<=m:=by
  rintro rfl;have h1:1<=m:=hq.2;refine⟨?_,h1⟩;rw[h.a];show [ixD true (beI 8 m 8)]=[cnI (decide ((m:Int)≠0)) (beI 8 m 8)];rw[decide_eq_true oM];rfl
 have hn:kd=.n->s.a.ix=[]:=by rintro rfl;rw[h.a];rfl
 have hu:kd=.u->s.a.ix=[ctI 0]:=by rintro rfl;rw[h.a];rfl
 refine⟨?_,hm,hn,hu,hw⟩;cases kd
 .exact .inl (hn rfl)
 .exact .inr (.inl (hu rfl))
 .exact .inr (.inr (by rw[(hw rfl).1,hm]))
theorem CnP.cut {need:Int}{rb qb:Nat}{k:Dk}{s:St}{nx:Int}{r m q:Nat}{kd:Kd}(h:CnP need rb qb k s nx r m q kd){T:Int}(hT:0<=T/\T<=255):CnP need rb qb { k with cut:=k.wr+1,tn:=T } s nx r m q kd:=
 ⟨h.tp,h.a,h.ok,⟨by show k.wr+1<=k.wr+1;omega,λ_=>hT⟩,h.hnx,h.new,h.old,h.qk,h.hrb,h.hqb,h.nd⟩
theorem CnP.mono {need:Int}{rb qb rb' qb':Nat}{k:Dk}{s:St}{nx:Int}{r m q:Nat}{kd:Kd}(h:CnP need rb qb k s nx r m q kd)(h1:rb<=rb')(h2:qb<=qb'):CnP need rb' qb' k s nx r m q kd:=
 ⟨h.tp,h.a,⟨h.ok.1,h.ok.2.1,h.ok.2.2.1,by have:=h.ok.2.2.2;omega⟩,h.tn,h.hnx,h.new,h.old,h.qk,⟨h.hrb.1,by have:=h.hrb.2;omega⟩,by have:=h.hqb;omega,h.nd⟩
theorem CnP.need {need need':Int}{rb qb:Nat}{k:Dk}{s:St}{nx:Int}{r m q:Nat}{kd:Kd}(h:CnP need rb qb k s nx r m q kd)(hn:0<=need'/\need'<=m):CnP need' rb qb k s nx r m q kd:=
 ⟨h.tp,h.a,h.ok,h.tn,h.hnx,h.new,h.old,h.qk,h.hrb,h.hqb,hn⟩
theorem zBv {need:Int}{rb qb r m q:Nat}{kd:Kd}{k:Dk}{n:Int}{jk2:List UInt8}{o:Bool}(hl:k.ar.length=4)(hn:n=((1+r+q:Nat):Int))(h1:k.ar.getD (n%2).toNat []=qAe n (enK o r m kd)++jk2)(hj:PvP o r m kd jk2 (r+1) m q kd)(h2:loV (k.ar.getD ((n+1)%2).toNat []) n)
  (hq:QkP m q kd) (hr:r<=rb) (hqb:q<=qb) (hb:rb<=50/\qb<=50) (hnd:0<=need/\need<=m) :
  cyP k.ar (ctA o r m kd) n/\∃k',cyV k (ctA o r m kd) n=⟨k',qSr (qA9 (ctA o r m kd)),true,n+2⟩/\CnP need (rb+1) qb k' (qSr (qA9 (ctA o r m kd))) (n+2) (r+1) m q kd:=by
 have hm:=hq.le;have hT:(ctA o (r:Int) (m:Nat) kd).Tp:=jT3 oM oM;have hP:jD0 n (enK o r m kd):=qQx hT.B oM;have lj:jk2.length<=300:=by have:=hj.b.2.2;omega
 have le:(enK o r m kd).length<=300:=by rcases zBx (o:=o) (r:=r) (m:=m) (kd:=kd) oM oM with h|h<;>omega
 have hJ:jOk k.ar n (enK o r m kd):=⟨hP,by rw[h1];exact zB7 oM le lj,h2⟩;have hC:cyP k.ar (ctA o r m kd) n:=⟨⟨hT,by show(r:Int)<=999;omega⟩,oM,hJ⟩;obtain⟨hS,hT2⟩:=jA2 hT (by show(r:Int)<=999;omega);have hne:¬ qCs (qSr (qA9 (ctA o r m kd))).a=qCs (qA9 (ctA o r m kd)).a:=λe=>by
  have h3:=congrArg Sa.res (qQi hT2.a.B hT.B e);have h4:(qSr (qA9 (ctA o r m kd))).a.res=(r:Int)+1:=rfl;have h5:(ctA o (r:Int) (m:Nat) kd).res=(r:Int):=rfl;omega
 refine⟨hC,⟨k.ar.set ((n+1)%2).toNat (qAe (n+1) (enK false (r+1) m kd)),1,0,0,false⟩,?_,?_⟩
 .rw[cyV,qIz,if_neg (by exact hne),if_neg (by show ¬ (0:Int)+1=0;decide)];simp only[Dv.mk.injEq,Dk.mk.injEq,and_true,true_and];exact⟨⟨rfl,rfl⟩,oM⟩
 .have e1:(n+2-1)%2=(n+1)%2:=oM;have e2:(n+2)%2=n%2:=oM;have hlt:((n+1)%2).toNat<k.ar.length:=oM;have hn2:((n+1)%2).toNat≠(n%2).toNat:=oM;refine⟨hT2,jLg,⟨rfl,by rw[length_set];exact hl,by show(0:Int)<=1;decide,by show(1:Int)<=1+(qb:Int);omega⟩,⟨by show(0:Int)<=1+1;decide,λc=>by cases c⟩,oM,?_,?_,hq,oM,hqb,hnd⟩
  .rw[e1,show n+2-1=n+1 by omega];show(k.ar.set ((n+1)%2).toNat _).getD ((n+1)%2).toNat []=_;rw[getD_eq_getElem?_getD,getElem?_set_self hlt];rfl
  .refine⟨o,r,m,kd,jk2,?_,hj⟩;rw[e2,show n+2-2=n by omega,<-h1];show(k.ar.set ((n+1)%2).toNat _).getD (n%2).toNat []=_;rw[getD_eq_getElem?_getD,getElem?_set_ne hn2,<-getD_eq_getElem?_getD]
theorem jOg {nx:Int}{o:Bool}{r0 m0:Nat}{kd0:Kd}{jk:List UInt8}(hn:3<=nx/\nx<=100000)(hr:r0<256)(hm:m0<256)(lj:jk.length<=20):loV (qAe (nx-2) (enK o r0 m0 kd0)++jk) (nx-1):=by
 have le:(enK o r0 m0 kd0).length<=300:=by rcases zBx (o:=o) (kd:=kd0) hr hm with h|h<;>omega
 have:=(zB7 (n:=nx-2) (p:=enK o r0 m0 kd0) (r:=jk) oM le oM).lo;rwa [show nx-2+1=nx-1 by omega]at this
theorem CnP.cy {need:Int}{rb qb:Nat}{k:Dk}{s:St}{nx:Int}{r m q:Nat}{kd:Kd}(h:CnP need rb qb k s nx r m q kd)(hb:rb<=50/\qb<=50) :
  cyP k.ar (ctA false r m kd) (nx-1)/\∃k' s',cyV k (ctA false r m kd) (nx-1)=⟨k',s',true,nx+1⟩/\CnP need (rb+1) qb k' s' (nx+1) (r+1) m q kd:=by
 obtain⟨o,r0,m0,kd0,jk,e,pv⟩:=h.old;obtain⟨b1,b2,b3⟩:=pv.b;have hm:=h.qk.le;have hr:=h.hrb;have hq:=h.hqb;have hnx:=h.hnx;obtain⟨c1,k',c2,c3⟩:=zBv (need:=need) (rb:=rb) (qb:=qb) (k:=k) (n:=nx-1) (jk2:=[]) h.ok.2.1 oM (by rw[h.new,append_nil]) (.inr (.inl ⟨rfl,hr.1,rfl,rfl,rfl,.inl rfl⟩)) (by
  rw[show(nx-1+1)%2=nx%2 by omega,e];exact jOg oM oM oM b3) h.qk hr.2 hq hb h.nd
 rw[show nx-1+2=nx+1 by omega]at c2 c3;exact⟨c1,k',_,c2,c3⟩
theorem jOj {need:Int}{rb qb:Nat}{k:Dk}{s:St}{nx:Int}{r m q:Nat}{kd:Kd}(h:CnP need rb qb k s nx r m q kd){c:Cm}(hc:c=.df\/c=.ud\/c=.ic) :
  (∃x,jD s c=(s,x)/\x.e≠0)\/∃(t:St)(m2:Nat)(kd2:Kd),jD s c=(t,⟨0,[],[],[]⟩)/\t.a=ctA false r m2 kd2/\OpK m kd m2 kd2/\(c=.ic->m2=m+1)/\m<=m2:=by
 obtain⟨-,hm,hn,hu,hw⟩:=h.ix;have ha:=h.a;rcases hc with rfl|rfl|rfl
 .cases kd
  .right;refine⟨dfS s,m,.u,?_,?_,.inl ⟨rfl,rfl,rfl⟩,nofun,Nat.le_refl m⟩
   .show dfR s=_;rw[dfR,hn rfl];rfl
   .show({ s.a with ix:=[ctI 0] }:Sa)=_;rw[ha];rfl
  .left;exact⟨⟨21,[],[],[]⟩,by show dfR s=_;rw[dfR,hu rfl];rfl,by decide⟩
  .left;exact⟨⟨21,[],[],[]⟩,by show dfR s=_;rw[dfR,(hw rfl).1];rfl,by decide⟩
 .have key:s.a.ix.length≠0->(kd=.u\/kd=.w/\1<=m)->∃(t:St)(m2:Nat)(kd2:Kd),jD s .ud=(t,⟨0,[],[],[]⟩)/\t.a=ctA false r m2 kd2/\OpK m kd m2 kd2/\(Cm.ud=.ic->m2=m+1)/\m<=m2:=by
   intro hl hk;refine⟨udS s,m,.n,?_,?_,.inr ⟨hk,.inl ⟨rfl,rfl⟩⟩,nofun,Nat.le_refl m⟩
   .show udR s=_;rw[udR,if_neg hl]
   .show({ s.a with ix:=[] }:Sa)=_;rw[ha];rfl
  cases kd
  .left;exact⟨⟨7,[],[],[]⟩,by show udR s=_;rw[udR,hn rfl];rfl,by decide⟩
  .exact .inr (key (by rw[hu rfl];simp) (.inl rfl))
  .exact .inr (key (by rw[(hw rfl).1];simp) (.inr ⟨rfl,(hw rfl).2⟩))
 .have key:s.a.ix.length≠0->(kd=.u\/kd=.w/\1<=m)->∃(t:St)(m2:Nat)(kd2:Kd),jD s .ic=(t,⟨0,[],[],[]⟩)/\t.a=ctA false r m2 kd2/\OpK m kd m2 kd2/\(Cm.ic=.ic->m2=m+1)/\m<=m2:=by
   intro hl hk;refine⟨icS s,m+1,.w,?_,?_,.inr ⟨hk,.inr ⟨rfl,rfl⟩⟩,λ_=>rfl,Nat.le_succ m⟩
   .show icR s=_;rw[icR,if_neg hl]
   .show({ s.a with mc:=s.a.mc+1,ix:=[ctI (s.a.mc+1)] }:Sa)=_;have e:ctI ((m:Int)+1)=ixD true (beI 8 (((m+1:Nat)):Int) 8):=by
     unfold ctI;rw[decide_eq_true oM];rfl
    rw[hm,e,ha];rfl
  cases kd
  .left;exact⟨⟨7,[],[],[]⟩,by show icR s=_;rw[icR,hn rfl];rfl,by decide⟩
  .exact .inr (key (by rw[hu rfl];simp) (.inl rfl))
  .exact .inr (key (by rw[(hw rfl).1];simp) (.inr ⟨rfl,(hw rfl).2⟩))
theorem jB6 {g:EF qBr}{d:Dv}{c:Cm}(hd:DvP d)(hc:SnP d.s 0 c):qBr.fs g [.t (dvA d),.t (.int .i64 0),.t (rqA (qC c))] []=some (.tup [.t (dvA (qIz d (jD d.s c).1)),.t (rsA (asX d c)),.t (.bool (decide (qMr d (jD d.s c).1=0)))],[]):=by
 obtain⟨r,x,ok,h,e⟩:=jEq (g:=g) (d:=d) (lo:=0) (q:=qC c) ⟨hd,c,hc,rfl⟩;obtain⟨rfl,rfl,rfl⟩:=h c hc rfl;exact e
theorem zQp {g:EF qCj}{d:Dv}{n:Int}{a:Sa}(hl:d.k.ar.length=4)(hc:cyP d.k.ar a n):qCj.fs g [.t (dvA d)] []=some (.tup [.t (dvA (cyV d.k a n)),.t (.bool true)],[]):=by
 obtain⟨r,ok,⟨rfl,h⟩,e⟩:=jEs (g:=g) (d:=d) ⟨hl,n,a,hc⟩;rw[h n a hc]at e;exact e
theorem OpK.ne {m m2:Nat}{kd kd2:Kd}(h:OpK m kd m2 kd2):¬ (kd2=kd/\m2=m):=by
 rcases h with⟨rfl,rfl,rfl⟩|⟨rfl|⟨rfl,_⟩,⟨rfl,rfl⟩|⟨rfl,rfl⟩⟩<;>simp
theorem jFo {r m m2:Nat}{kd kd2:Kd}(hm:m<=900)(hm2:m2<=900)(h:ctA false r m2 kd2=ctA false r m kd):kd2=kd/\m2=m:=by
 have h1:=congrArg Sa.mc h;have h2:((m2:Nat):Int)=(m:Int):=h1;have h3:m2=m:=oM;subst h3;have h4:=congrArg Sa.ix h;have h5:Kd.ix (m2:Int) kd2=Kd.ix (m2:Int) kd:=h4;refine⟨?_,rfl⟩;cases kd<;>cases kd2<;>first|rfl|(simp[Kd.ix,ixD]at h5)
theorem jKk {gA:EF qBr}{gC:EF qCj}{need:Int}{rb qb:Nat}{k:Dk}{s:St}{nx:Int}{r m q:Nat}{kd:Kd}(h:CnP need rb qb k s nx r m q kd)(hb:rb<=20/\qb<=19){c:Cm}(hc:c=.df\/c=.ud\/c=.ic) :
  ∃d2 x2 ok2,qBr.fs gA [.t (dvA ⟨k,s,true,nx⟩),.t (.int .i64 0),.t (rqA (qC c))] []=some (.tup [.t (dvA d2),.t (rsA x2),.t (.bool ok2)],[])/\
   ((ok2=true/\x2.e≠0/\d2=⟨k,s,true,nx⟩)\/
   (ok2=true/\x2=⟨0,[],[],[]⟩/\∃k' t m' kd',d2=⟨k',t,true,nx+1⟩/\CnP need rb (qb+1) k' t (nx+1) r m' (q+1) kd'/\(c=.ic->m'=m+1))\/
   (ok2=false/\x2=⟨0,[],[],[]⟩/\∃k' s' nx' r' m' q' kd',qCj.fs gC [.t (dvA d2)] []=some (.tup [.t (dvA ⟨k',s',true,nx'⟩),.t (.bool true)],[])/\CnP need (rb+1) (qb+1) k' s' nx' r' m' q' kd')):=by
 have hm:=h.qk.le;have hr:=h.hrb;have hq:=h.hqb;have hnx:=h.hnx;have hx:=h.ix;have hd:=h.dv oM;obtain⟨⟨s1,s2,s3,-⟩,t1,t2,t3⟩:=jQa h.tp (by rw[hx.2.1];omega) hx.1;have hS:SnP s 0 c/\(jD s c).1.Tp:=by
  rcases hc with rfl|rfl|rfl
  .exact⟨s1,t1⟩
  .exact⟨s2,t2⟩
  .exact⟨s3,t3⟩
 have e0:=jB6 (g:=gA) hd hS.1;refine⟨_,_,_,e0,?_⟩;rcases jOj h hc with⟨x,e,hx0⟩|⟨t,m2,kd2,e,ta,op,hic,hmm⟩
 .left;have e1:(jD s c).1=s:=by rw[e]
  have z:qMr ⟨k,s,true,nx⟩ (jD s c).1=0:=by rw[e1];exact if_pos rfl
  refine⟨decide_eq_true z,?_,?_⟩
  .rw[asX,if_pos (by exact z)];show(jD s c).2.e≠0;rw[e];exact hx0
  .rw[e1];exact qV7 rfl
 .right;have hT:=hS.2;have e1:(jD s c).1=t:=by rw[e]
  rw[e1]at hT;have m2q:m2<=m+1:=by rcases op with⟨-,-,rfl⟩|⟨-,⟨-,rfl⟩|⟨-,rfl⟩⟩<;>omega
  have hne:¬ qCs t.a=qCs s.a:=λhe=>by
   have:=qQi hT.a.B h.tp.a.B he;rw[ta,h.a]at this;exact op.ne (jFo oM oM this)
  have hen:qCs t.a=enK false r m2 kd2:=by rw[ta];rfl
  obtain⟨o,r0,m0,kd0,jk,eo,pv⟩:=h.old;obtain⟨b1,b2,b3⟩:=pv.b;have hlt:(nx%2).toNat<k.ar.length:=by rw[h.ok.2.1];omega
  have hn2:(nx%2).toNat≠((nx-1)%2).toNat:=oM;have hqk:=op.q h.qk;show(decide (qMr ⟨k,s,true,nx⟩ (jD s c).1=0)=true/\asX ⟨k,s,true,nx⟩ c=_/\_)\/(decide (qMr ⟨k,s,true,nx⟩ (jD s c).1=0)=false/\asX ⟨k,s,true,nx⟩ c=_/\_);rw[e1];by_cases cc:k.wr+1=k.cut
  .right;have z:qMr ⟨k,s,true,nx⟩ t=29:=by
    unfold qMr wrF;rw[if_neg (by exact hne),if_pos (by exact cc)]
   refine⟨by rw[z];decide,?_,?_⟩
   .rw[asX,e1,z,if_neg (by decide)]
   have hV:qIz ⟨k,s,true,nx⟩ t=⟨{ wrK k (nx%2) (qAe nx (qCs t.a))with off:=true },default,false,nx⟩:=by
    rw[qIz,if_neg (by exact hne),if_pos (by exact cc)]
   rw[hV,hen];have lb:(qAe nx (enK false r m2 kd2)).length ≥ 284:=by
    rw[qFd];rcases zBx (o:=false) (r:=r) (m:=m2) (kd:=kd2) oM oM with h|h<;>omega
   have htn:=h.tn.2 cc;have hB:wrB k (nx%2) (qAe nx (enK false r m2 kd2))=(qAe nx (enK false r m2 kd2)).take k.tn.toNat++(qAe (nx-2) (enK o r0 m0 kd0)++jk).drop k.tn.toNat:=by
    unfold wrB tnN;rw[if_pos cc,eo,Nat.min_eq_left oM]
   have hst:=zUz pv h.qk oM oM op (t:=k.tn.toNat) oM (n:=nx-1) oM;rw[show nx-1+1=nx by omega,show nx-1-1=nx-2 by omega,<-hB]at hst;have ga:(k.ar.set (nx%2).toNat (wrB k (nx%2) (qAe nx (enK false r m2 kd2)))).getD (nx%2).toNat []=wrB k (nx%2) (qAe nx (enK false r m2 kd2)):=by
    rw[getD_eq_getElem?_getD,getElem?_set_self hlt];rfl
   have gb:(k.ar.set (nx%2).toNat (wrB k (nx%2) (qAe nx (enK false r m2 kd2)))).getD ((nx-1)%2).toNat []=qAe (nx-1) (enK false r m kd):=by
    rw[getD_eq_getElem?_getD,getElem?_set_ne hn2,<-getD_eq_getElem?_getD,h.new]
   have hl:(k.ar.set (nx%2).toNat (wrB k (nx%2) (qAe nx (enK false r m2 kd2)))).length=4:=by rw[length_set];exact h.ok.2.1
   rcases hst with hst|⟨jk2,hst,hj2⟩
   .obtain⟨c1,k',c2,c3⟩:=zBv (need:=need) (rb:=rb) (qb:=qb) (k := { wrK k (nx%2) (qAe nx (enK false r m2 kd2))with off:=true }) (n:=nx-1) (jk2:=[]) (o:=false) (r:=r) (m:=m) (q:=q) (kd:=kd) hl oM (by
     show(k.ar.set _ _).getD _ _=_;rw[gb,append_nil]) (.inr (.inl ⟨rfl,hr.1,rfl,rfl,rfl,.inl rfl⟩)) (by
     rw[show(nx-1+1)%2=nx%2 by omega];show loV ((k.ar.set _ _).getD _ _) _;rw[ga];exact hst) h.qk hr.2 hq oM h.nd
    refine⟨k',_,_,_,_,_,_,?_,c3.mono (Nat.le_refl _) (Nat.le_succ _)⟩;rw[zQp (g:=gC) (d:=⟨{ wrK k (nx%2) (qAe nx (enK false r m2 kd2))with off:=true },default,false,nx⟩) hl c1,c2]
   .rw[show nx-1+1=nx by omega]at hst;obtain⟨c1,k',c2,c3⟩:=zBv (need:=need) (rb:=rb) (qb:=qb+1) (k := { wrK k (nx%2) (qAe nx (enK false r m2 kd2))with off:=true }) (n:=nx) (jk2:=jk2) (o:=false) (r:=r) (m:=m2) (q:=q+1) (kd:=kd2) hl oM (by
     show(k.ar.set _ _).getD _ _=_;rw[ga];exact hst) (.inr (.inl ⟨rfl,hr.1,rfl,rfl,rfl,hj2⟩)) (by
     rw[show(nx+1)%2=(nx-1)%2 by omega];show loV ((k.ar.set _ _).getD _ _) _;rw[gb];have hlo:=(zB7 (n:=nx-1) (p:=enK false r m kd) (r:=[]) oM (by rcases zBx (o:=false) (r:=r) (m:=m) (kd:=kd) oM oM with h|h<;>omega) sM).lo;rwa [append_nil,show nx-1+1=nx by omega]at hlo) hqk hr.2 oM oM ⟨h.nd.1,by have:=h.nd.2;omega⟩
    refine⟨k',_,_,_,_,_,_,?_,c3⟩;rw[zQp (g:=gC) (d:=⟨{ wrK k (nx%2) (qAe nx (enK false r m2 kd2))with off:=true },default,false,nx⟩) hl c1,c2]
  .left;have z:qMr ⟨k,s,true,nx⟩ t=0:=zQe cc;refine⟨by rw[z];decide,?_,?_⟩
   .rw[asX,e1,z,if_pos rfl];show(jD s c).2=_;rw[e]
   have hV:qIz ⟨k,s,true,nx⟩ t=⟨{ k with wr:=k.wr+1,ar:=k.ar.set (nx%2).toNat (qAe nx (qCs t.a)) },t,true,nx+1⟩:=by
    rw[qIz,if_neg (by exact hne),if_neg (by exact cc)]
   rw[hV,hen];have hok:=h.ok;have htn:=h.tn.1;refine⟨_,t,m2,kd2,rfl,⟨hT,ta,⟨hok.1,by show(k.ar.set _ _).length=4;rw[length_set];exact hok.2.1,by show 0<=k.wr+1;omega,by show k.wr+1<=1+((qb+1:Nat):Int);omega⟩,⟨by show k.cut<=k.wr+1+1;omega,λc=>by
    have:k.wr+1+1=k.cut:=c;omega⟩,oM,?_,?_,hqk,hr,oM,⟨h.nd.1,by have:=h.nd.2;omega⟩⟩,hic⟩
   .rw[show(nx+1-1)%2=nx%2 by omega,show nx+1-1=nx by omega];show(k.ar.set _ _).getD _ _=_;rw[getD_eq_getElem?_getD,getElem?_set_self hlt];rfl
   .refine⟨false,r,m,kd,[],?_,.inr (.inr ⟨rfl,rfl,rfl,op⟩)⟩;rw[show(nx+1)%2=(nx-1)%2 by omega,show nx+1-2=nx-1 by omega,append_nil];show(k.ar.set _ _).getD _ _=_;rw[getD_eq_getElem?_getD,getElem?_set_ne hn2,<-getD_eq_getElem?_getD,h.new]
def rdX (m:Nat):Kd->Rs
 |.n=>⟨7,[],[],[]⟩
 |.u=>⟨22,[],[],[]⟩
 |.w=>⟨0,[],[beI 8 (m:Int) 8],[]⟩
theorem jKl {gA:EF qBr}{need:Int}{rb qb:Nat}{k:Dk}{s:St}{nx:Int}{r m q:Nat}{kd:Kd}(h:CnP need rb qb k s nx r m q kd)(hb:rb<=50/\qb<=50) :
  qBr.fs gA [.t (dvA ⟨k,s,true,nx⟩),.t (.int .i64 0),.t (rqA (qC .rd))] []=some (.tup [.t (dvA ⟨k,s,true,nx⟩),.t (rsA (rdX m kd)),.t (.bool true)],[]):=by
 have hm:=h.qk.le;have hq:=h.hqb;obtain⟨hx,hmc,hn,hu,hw⟩:=h.ix;obtain⟨⟨-,-,-,s4⟩,-⟩:=jQa h.tp (by rw[hmc];omega) hx;have e:jD s .rd=(s,rdX m kd):=by
  show zL5 s=_;unfold zL5;cases kd
  .rw[hn rfl];rfl
  .rw[hu rfl,if_neg sM];have:ixv s=0:=by unfold ixv;rw[hu rfl];rfl
   rw[this];rfl
  .obtain⟨h1,h2⟩:=hw rfl;have:ixv s=m:=by
    unfold ixv;rw[h1,if_pos (show(List.getD [ctI (m:Int)] 0 default).wr=true from decide_eq_true oM),hmc]
   rw[h1,if_neg sM,this,rdR,if_neg oM];rfl
 have e0:=jB6 (g:=gA) (h.dv hb) s4;have e1:(jD s .rd).1=s:=by rw[e]
 have z:qMr ⟨k,s,true,nx⟩ s=0:=if_pos rfl;rw[show(jD (Dv.mk k s true nx).s .rd).1=s from e1,z,qV7 (d:=⟨k,s,true,nx⟩) rfl,asX,show(jD (Dv.mk k s true nx).s .rd).1=s from e1,z,if_pos rfl,show(jD (Dv.mk k s true nx).s .rd).2=rdX m kd by show(jD s .rd).2=_;rw[e]]at e0;exact e0
theorem jUk:∃k s,frV=⟨k,s,true,3⟩/\CnP 0 1 0 k s 3 1 0 0 .n:=by
 obtain⟨-,k',c2,c3⟩:=zBv (need:=0) (rb:=0) (qb:=0) (r:=0) (m:=0) (q:=0) (kd:= .n) (k:=⟨[[],qAe 1 (qCs (qYx z32)),[],[]],1,0,0,true⟩) (n:=1) (jk2:=[]) (o:=true) rfl rfl (by
  rw[zSj,append_nil];rfl) (.inl ⟨rfl,rfl,rfl,rfl,rfl,rfl,rfl,rfl,rfl⟩) zSb ⟨Nat.le_refl 0,rfl⟩ (Nat.le_refl 0) (Nat.le_refl 0) (by decide) (by decide)
 refine⟨k',_,?_,c3⟩;unfold frV;rw[zSj]at *;exact c2
end Go.Eng
end
section
set_option maxRecDepth 20000
namespace Go.Eng
open List
open Go.MuLone
def SW (tab:Tab)(gl:Gl)(ac:AC)(fs:Fs)(hs:Hs)(Qa:xV):Prop:=
 ∀(cx:Cx)(hints:List (Nat×List Nat))(c:Code),cx.gl=gl->xQ cx.P cx.gl tab->cx.P.follows .mixedOrders=true->ann cx.P cx.nt hints c=some ac->
  ∀{Qx:Exit->Act->World->Prop}{β:Nat->Option BI}{F:Nat->Prop}{a:Act}{w:World},Rel cx β F (jB fs) (jB hs) a w->
   (∀e fs' hs' β' F' a' w',Qa e fs' hs'->Rel cx β' F' (jB fs') (jB hs') a' w'->Qx e.ex a' w')->c.wp cx.P Qx a w
def jP0 (tab:Tab)(gl:Gl)(b:AC)(Q:xV):xV:=λe fs hs=>match e with|.normal=>SW tab gl b fs hs Q|e=>Q e fs hs
theorem zIs {tab:Tab}{gl:Gl}{b:AC}{Q:xV}{fs:Fs}{hs:Hs}:jP0 tab gl b Q .normal fs hs=SW tab gl b fs hs Q:=eR
theorem jAt {tab:Tab}{gl:Gl}{b:AC}{Q:xV}{fs:Fs}{hs:Hs}:jP0 tab gl b Q .ret fs hs=Q .ret fs hs:=eR
attribute [go_sem] zIs jAt
theorem SW.of {tab:Tab}{gl:Gl}{ac:AC}{fs:Fs}{hs:Hs}{Q:xV}(h:ac.wp tab gl fs hs Q):SW tab gl ac fs hs Q:=by
 intro cx hints c hg ht hm ha Qx β F a w R hQ;subst hg;exact AC.sound ht hm ha h R hQ
theorem SW.weak {tab:Tab}{gl:Gl}{ac:AC}{fs fs':Fs}{hs hs':Hs}{Q:xV}(hw:qL fs hs fs' hs')(h:SW tab gl ac fs' hs' Q):SW tab gl ac fs hs Q:=by
 intro cx hints c hg ht hm ha Qx β F a w R hQ;obtain⟨β',F',R'⟩:=hw cx β F a w R;exact h cx hints c hg ht hm ha R' hQ
theorem SW.seq {tab:Tab}{gl:Gl}{a b:AC}{fs:Fs}{hs:Hs}{Q:xV}(h:SW tab gl a fs hs (jP0 tab gl b Q)):SW tab gl (.seq a b) fs hs Q:=by
 intro cx hints c hg ht hm ha Qx β F act w R hQ;cases c with
 |seq x y=>
  simp only[ann,Option.bind_eq_some_iff,Option.map_eq_some_iff]at ha;obtain⟨cx',hx,cy,hy,e⟩:=ha;cases e;refine wp_seq (h cx hints x hg ht hm hx R (λe fs' hs' β' F' a' w' hq R'=>?_));cases e with
  |normal=>exact hq cx hints y hg ht hm hy R' hQ
  |exit id=>exact hQ (.exit id) _ _ _ _ _ _ hq R'
  |ret=>exact hQ .ret _ _ _ _ _ _ hq R'
 |cond o x y=>
  simp only[ann,Option.bind_eq_some_iff,Option.map_eq_some_iff]at ha;obtain⟨_,_,_,_,_,_,e⟩:=ha;cases hm:jB hints 900000 with
  |none=>rw[hm]at e;cases e
  |some l=>rw[hm]at e;cases e
 |region id ops draw=>
  simp only[ann,Option.bind_eq_some_iff]at ha;obtain⟨_,_,e⟩:=ha;split at e
  .split at e
   .cases e
   .cases e
  .cases e
 |_=>simp[ann]at ha
theorem jA1 {P:Program}{G:Gl}{tab:Tab}{f:FuncId}{fn:Func}{c:Code}{ac:AC}{hints:List (Nat×List Nat)}{rs:List (Nat×Option (Nat×Bool))}(hf:P.funcs[f]?=some fn)(hb:fn.body=some c)(hann:ann P fn.ntmps hints c=some ac)(hmx:P.follows .mixedOrders=true)
  (ht:xQ P G tab) (hrs:qMb P fn.results.toList=some rs) {aS:List V} {ins:List Ob} {r:V} {outs:List Ob} (hn:aS.length<=fn.ntmps) (hi:ins.length<=100)
  (h:SW tab G ac (qD 0 aS) (qD 0 ins) (qZ rs ins.length (λr' outs'=>r'=r/\outs'=outs))):zJz P G f aS ins r outs:=by
 intro w β F vals env fits hargs;have hd0:∀k bi,β k=some bi->k<100:=by
  intro k bi h;rcases Nat.lt_or_ge k ins.length with h1|h1
  .omega
  .rw[fits.dom k h1]at h;cases h
 let cx:Cx := { P,w0:=w,F0:=F,inb:=λb=>∃k bi,β k=some bi/\bi.blk=some b,nt:=fn.ntmps,gl:=G,β0:=β,d0:=hd0 }
 have hlen:aS.length=vals.size:=by simpa using hargs.length
 have lookAs:∀t v,jB (qD 0 aS) t=some v->aS[t]?=some v:=by
  intro t v h;simpa [wI]using h
 have lookIns:∀t v,jB (qD 0 ins) t=some v->ins[t]?=some v:=by
  intro t v h;simpa [wI]using h
 have R0:Rel cx β F (jB (qD 0 aS)) (jB (qD 0 ins)) { tmps:=vals++Array.replicate (fn.ntmps-vals.size) undef,defers:=[] } w:=by
  refine⟨by simp[cx];omega,rfl,λt v hv=>?_,λid o ho=>?_,λid hn=>?_,λi j bi bj b oi oj h1 h2 h3 h4 _ _ _ _=>fits.inj i j bi bj b h1 h2 h3 h4,rfl,rfl,rfl,Nat.le_refl _,λ_ _ _=>rfl,λid z es full bi b h1 h2 h3=>.inr ⟨?_,id,bi,h2,h3⟩,λb hb=>?_,λb hb=>?_,env.Fw,λ_ _=>Iff.rfl,λid bi b h1 h2=>(fits.blt id bi b h1 h2).1,λg cs hg=>?_,λ_ _ h=>h,env.gs⟩
  .obtain⟨x,h1,h2⟩:=hargs.get' t v (lookAs t v hv);refine⟨x,?_,h2⟩;have hlt:t<vals.size:=by
    have:=(List.getElem?_eq_some_iff.1 (lookAs t v hv)).1;omega
   rw[Array.getElem?_append_left hlt];simpa using h1
  .obtain⟨bi,h1,h2,_⟩:=fits.ok id o (lookIns id o ho);exact⟨bi,h1,h2⟩
  .refine fits.dom id ?_;rcases Nat.lt_or_ge id ins.length with h1|h1
   .rw[wI]at hn;simp[h1]at hn
   .exact h1
  .have:=(List.getElem?_eq_some_iff.1 (lookIns id _ h1)).1;omega
  .obtain⟨k,bi,h1,h2⟩:=hb;exact(fits.blt k bi b h1 h2).2
  .obtain⟨k,bi,h1,h2⟩:=hb;exact(fits.blt k bi b h1 h2).1
  .exact(env.gl g cs hg).mono (λ_ _ h=>by cases h) (λ_ h=>h) (λ_ _=>rfl)
 refine calls_of_wp hf hb (h cx hints c rfl ht hmx hann R0 (λe fs hs βR FR a w' hq R=>?_));have fin:((rsQ fs rs).bind λvs=>jJ6 ins.length vs).wp hs (λp _=>p.1=r/\p.2=outs)->a.defers=[]/\∃v,(results fn a.tmps).run P w'=.ok v w'/\∃x β' F',Ending.returned v=.returned x/\qLw w β F ins r outs x β' F' w':=by
  intro hq;rw[Q.wp_bind]at hq;obtain⟨vs,l0,hvs,⟨r',outs'⟩,l,hrun,e1,e2⟩:=hq;obtain⟨xs,hxs,hall⟩:=qL5 (cx:=cx) R hrs hvs;refine⟨R.dfr,_,qIo hxs,?_⟩
  .simp only at e1 e2;subst e1 e2;unfold jJ6 at hrun;obtain⟨p,l1,l2,hp,hrun,_⟩:=qS hrun;obtain⟨q,l3,l4,hqq,hrun,_⟩:=qS hrun;obtain⟨hdis,hrun⟩:=qM hrun;obtain⟨fw,l5,l6,hfw,hrun,_⟩:=qS hrun;obtain⟨e,_⟩:=qE hrun;simp only[Prod.mk.injEq]at e;obtain⟨rfl,rfl⟩:=e;obtain⟨ids,obs,fzq⟩:=q;obtain⟨t,htt⟩:=qLh (s:=0) (m:=ins.length) (n:=12+ins.length) (rest:=qA4 p.1) (by simpa [range_eq_range']using hqq);have hidk:∀k,k<ins.length->ids[k]?=some k:=by
    intro k hk;rw[htt,getElem?_append_left (by simpa using hk)];simp[hk]
   obtain⟨F1,R1,hFF,hnd,hlo,hfwl,hlive,fits',hres⟩:=qVe R (qR0 R) hp hqq (λr h=>by simp[h]) hdis hfw hall;have hβk:∀k bi,β k=some bi->βR k=some bi:=R1.ext0;have hklt:∀k bi,β k=some bi->k<ins.length:=by
    intro k bi h;rcases Nat.lt_or_ge k ins.length with h1|h1
    .exact h1
    .rw[fits.dom k h1]at h;cases h
   refine⟨_,qDv ids βR,F1,rfl,fits',qQy hres,λk hk=>?_,λk bi b hk h1 h2=>?_,λb hb=>R1.F0 b hb,R1.Fw,R1.os,R1.tape,R1.output,R1.size,λb hb hk=>R1.ext b hb (λ⟨k,bi,h1,h2⟩=>hk k bi h1 h2)⟩
   .obtain⟨bi,h1,_⟩:=fits.ok k ins[k] (by simp[hk]);simp[qDv,hidk k hk,hβk k bi h1,h1]
   .unfold qDv at h1;rw[Option.bind_eq_some_iff]at h1;obtain⟨id,hid,h1⟩:=h1;obtain⟨z,es,full,_,hl⟩:=hlive k id hid;rcases R1.old id z es full bi b hl h1 h2 with h|⟨_,k0,bi0,g1,g2⟩
    .exact h
    .exfalso;have hk0:=hklt k0 bi0 g1;obtain⟨z0,es0,full0,_,hl0⟩:=hlive k0 k0 (hidk k0 hk0);have e:=R1.inj id k0 bi bi0 b _ _ h1 (hβk k0 bi0 g1) h2 g2 hl hl0 sM sM;subst e;have hi1:k<ids.length:=(List.getElem?_eq_some_iff.1 hid).1;have hi2:id<ids.length:=(List.getElem?_eq_some_iff.1 (hidk id hk0)).1;have:=qAi hnd hi1 hi2 (by
      have a1:=hid;have a2:=hidk id hk0;rw[getElem?_eq_getElem hi1]at a1;rw[getElem?_eq_getElem hi2]at a2;rw[Option.some.inj a1,Option.some.inj a2])
     omega
 cases e with
 |normal=>exact fin hq
 |ret=>exact fin hq
 |exit id=>exact hq.elim
end Go.Eng
end
section
set_option maxRecDepth 20000
namespace Go.Eng
open List
open Go.MuLone
variable {tab:Tab}{gl:Gl}
theorem SW.block {a:AC}{id:Nat}{fs:Fs}{hs:Hs}{Q:xV}(h:SW tab gl a fs hs (λe fs' hs'=>match e with|.exit id'=>(if id'=id then Q .normal fs' hs' else Q (.exit id') fs' hs')|e=>Q e fs' hs')):SW tab gl (.block id a) fs hs Q:=by
 intro cx hints c hg ht hm ha Qx β F act w R hQ;cases c with
 |block id2 x=>
  simp only[ann,Option.map_eq_some_iff]at ha;obtain⟨x',hx,e⟩:=ha;cases e;refine wp_block (h cx hints x hg ht hm hx R (λe fs' hs' β' F' a' w' hq R'=>?_));cases e with
  |normal=>exact hQ .normal _ _ _ _ _ _ hq R'
  |exit id'=>
   simp only[AE.ex,Exit.inBlock];simp only at hq;split
   .rename_i h1;rw[if_pos h1]at hq;exact hQ .normal _ _ _ _ _ _ hq R'
   .rename_i h1;rw[if_neg h1]at hq;exact hQ (.exit id') _ _ _ _ _ _ hq R'
  |ret=>exact hQ .ret _ _ _ _ _ _ hq R'
 |seq x y=>
  simp only[ann,Option.bind_eq_some_iff,Option.map_eq_some_iff]at ha;obtain⟨_,_,_,_,e⟩:=ha;cases e
 |cond o x y=>
  simp only[ann,Option.bind_eq_some_iff,Option.map_eq_some_iff]at ha;obtain⟨_,_,_,_,_,_,e⟩:=ha;cases hm:jB hints 900000 with
  |none=>rw[hm]at e;cases e
  |some l=>rw[hm]at e;cases e
 |region id ops draw=>
  simp only[ann,Option.bind_eq_some_iff]at ha;obtain⟨_,_,e⟩:=ha;split at e
  .split at e
   .cases e
   .cases e
  .cases e
 |_=>simp[ann]at ha
theorem SW.loop {a:AC}{σ:Type}{fs:Fs}{hs:Hs}{Q:xV}(Inv:σ->Prop)(μ:σ->Nat)(fI:σ->Fs)(hI:σ->Hs)(s0:σ)(hP:Inv s0)(h0:qL fs hs (fI s0) (hI s0))
  (h:∀s,Inv s->SW tab gl a (fI s) (hI s) (λe fs' hs'=>match e with|.normal=>∃t,Inv t/\μ t<μ s/\qL fs' hs' (fI t) (hI t)|e=>Q e fs' hs')):SW tab gl (.loop a) fs hs Q:=by
 intro cx hints c hg ht hm ha Qx β F act w R hQ;cases c with
 |loop x=>
  simp only[ann,Option.map_eq_some_iff]at ha;obtain⟨x',hx,e⟩:=ha;cases e;refine qRu (λ(i : { s:σ // Inv s }) a w=>∃β F,Rel cx β F (jB (fI i.1)) (jB (hI i.1)) a w) (λi=>μ i.1) ⟨s0,hP⟩ (h0 cx β F act w R) (λi a w ⟨β1,F1,R1⟩=>?_);refine h i.1 i.2 cx hints x hg ht hm hx R1 (λe fs' hs' β' F' a' w' hq R'=>?_);cases e with
  |normal=>
   obtain⟨t,h1,h2,h3⟩:=hq;exact⟨⟨t,h1⟩,h2,h3 cx β' F' a' w' R'⟩
  |exit id=>exact hQ (.exit id) _ _ _ _ _ _ hq R'
  |ret=>exact hQ .ret _ _ _ _ _ _ hq R'
 |seq x y=>
  simp only[ann,Option.bind_eq_some_iff,Option.map_eq_some_iff]at ha;obtain⟨_,_,_,_,e⟩:=ha;cases e
 |cond o x y=>
  simp only[ann,Option.bind_eq_some_iff,Option.map_eq_some_iff]at ha;obtain⟨_,_,_,_,_,_,e⟩:=ha;cases hm:jB hints 900000 with
  |none=>rw[hm]at e;cases e
  |some l=>rw[hm]at e;cases e
 |region id ops draw=>
  simp only[ann,Option.bind_eq_some_iff]at ha;obtain⟨_,_,e⟩:=ha;split at e
  .split at e
   .cases e
   .cases e
  .cases e
 |_=>simp[ann]at ha
def jSw (id:Nat)(Q:xV):xV:=λe fs' hs'=>match e with|.exit id'=>(if id'=id then Q .normal fs' hs' else Q (.exit id') fs' hs')|e=>Q e fs' hs'
def zF3 {σ:Type}(Inv:σ->Prop)(μ:σ->Nat)(fI:σ->Fs)(hI:σ->Hs)(s:σ)(Q:xV):xV:=λe fs' hs'=>match e with|.normal=>∃t,Inv t/\μ t<μ s/\qL fs' hs' (fI t) (hI t)|e=>Q e fs' hs'
theorem zHh {id:Nat}{Q:xV}{fs:Fs}{hs:Hs}:jSw id Q .normal fs hs=Q .normal fs hs:=eR
theorem zWo {id:Nat}{Q:xV}{fs:Fs}{hs:Hs}:jSw id Q .ret fs hs=Q .ret fs hs:=eR
theorem zP7 {id id':Nat}{Q:xV}{fs:Fs}{hs:Hs}:jSw id Q (.exit id') fs hs=if id'=id then Q .normal fs hs else Q (.exit id') fs hs:=eR
theorem zU0 {σ:Type}{Inv:σ->Prop}{μ:σ->Nat}{fI:σ->Fs}{hI:σ->Hs}{s:σ}{Q:xV}{fs:Fs}{hs:Hs}:zF3 Inv μ fI hI s Q .ret fs hs=Q .ret fs hs:=eR
theorem zOo {σ:Type}{Inv:σ->Prop}{μ:σ->Nat}{fI:σ->Fs}{hI:σ->Hs}{s:σ}{Q:xV}{fs:Fs}{hs:Hs}{id:Nat}:zF3 Inv μ fI hI s Q (.exit id) fs hs=Q (.exit id) fs hs:=eR
theorem zUd {b:AC}{id:Nat}{Q:xV}{fs:Fs}{hs:Hs}:jP0 tab gl b Q (.exit id) fs hs=Q (.exit id) fs hs:=eR
attribute [go_sem] zHh zWo zP7 zU0 zOo zUd
theorem SW.cut {a b:AC}{ι:Type}{fs:Fs}{hs:Hs}{Q:xV}(I:ι->Fs×Hs)(P:ι->Prop)(h1:∀(b':AC)(Q':xV),(∀i,P i->SW tab gl b' (I i).1 (I i).2 Q')->SW tab gl a fs hs (jP0 tab gl b' Q'))(h2:∀i,P i->SW tab gl b (I i).1 (I i).2 Q):SW tab gl (.seq a b) fs hs Q:=SW.seq (h1 b Q h2)
theorem SW.blockS {a:AC}{id:Nat}{fs:Fs}{hs:Hs}{Q:xV}(h:SW tab gl a fs hs (jSw id Q)):SW tab gl (.block id a) fs hs Q:=SW.block h
theorem SW.loopS {a:AC}{σ:Type}{fs:Fs}{hs:Hs}{Q:xV}(Inv:σ->Prop)(μ:σ->Nat)(fI:σ->Fs)(hI:σ->Hs)(s0:σ)(hP:Inv s0)(h0:qL fs hs (fI s0) (hI s0))
  (h:∀s,Inv s->SW tab gl a (fI s) (hI s) (zF3 Inv μ fI hI s Q)):SW tab gl (.loop a) fs hs Q:=SW.loop Inv μ fI hI s0 hP h0 h
theorem zF3.mk {σ:Type}{Inv:σ->Prop}{μ:σ->Nat}{fI:σ->Fs}{hI:σ->Hs}{s:σ}{Q:xV}{fs:Fs}{hs:Hs}(t:σ)(h1:Inv t)(h2:μ t<μ s)(h3:qL fs hs (fI t) (hI t)):zF3 Inv μ fI hI s Q .normal fs hs:=⟨t,h1,h2,h3⟩
end Go.Eng
end
