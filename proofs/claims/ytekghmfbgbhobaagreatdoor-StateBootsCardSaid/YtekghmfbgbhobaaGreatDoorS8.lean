/- A part of an abstract machine, its walks, their tie. -/
import Derived.Test.YtekghmfbgbhobaaGreatDoorS7
set_option linter.all false
section
namespace Go.Eng
variable {β:Nat→Option BI} {F:Nat→Prop} {w:World} {cx:Cx} {fm:Nat→Option V} {hm:Nat→Option Ob} {a:Act}
theorem qXc {D:Nat→Option Nat}{v:Nat→V} : ∀ {n:Nat} {fm:Nat→Option V},SF D v (fun _=>true) fm (n+1)=SF (fun i=>D (i+1)) (fun i=>v (i+1)) (fun _=>true) (qU6 fm (D 0) (v 0)) n
 | 0,_=>rfl
 | n+1,fm=>by
  rw[SF,qXc (n:=n)];simp only[SF,if_true]
theorem qXe {W:Nat→Wr} : ∀ {n:Nat} {hm:Nat→Option Ob},SH W (fun _=>true) hm (n+1)=SH (fun i=>W (i+1)) (fun _=>true) (upd hm (W 0)) n
 | 0,_=>rfl
 | n+1,hm=>by
  rw[SH,qXe (n:=n)];simp only[SH,if_true]
def trV (tr:List (V×Wr×List Nat))(i:Nat):V:=(tr.getD i (.nil,[],[])).1
def trW (tr:List (V×Wr×List Nat))(i:Nat):Wr:=(tr.getD i (.nil,[],[])).2.1
def trL (tr:List (V×Wr×List Nat))(i:Nat):List Nat:=(tr.getD i (.nil,[],[])).2.2
def aoD (aos:List zU)(i:Nat):Option Nat:=(aos.getD i default).dst
theorem Lex.index {tab:Tab}{gl:Gl}{aos:List zU}{nb:Nat}{fm fm':Nat→Option V}{hm hm':Nat→Option Ob}{tr:List (V×Wr×List Nat)}(h:Lex tab gl aos nb fm hm tr fm' hm') :
  (∀ i ao,aos[i]?=some ao→(ao.q tab gl (SF (aoD aos) (trV tr) (fun _=>true) fm i) (nb+16*i)).run (SH (trW tr) (fun _=>true) hm i)=some ((trV tr i,trW tr i),trL tr i))∧
   fm'=SF (aoD aos) (trV tr) (fun _=>true) fm aos.length∧hm'=SH (trW tr) (fun _=>true) hm aos.length:=by
 induction h with
 | nil=>exact⟨by intro i ao h;simp at h,rfl,rfl⟩
 | cons h _ ih=>
  rename_i o r nb fm fm' hm hm' v W l tr t;obtain⟨h1,h2,h3⟩:=ih;refine⟨fun i ao hi=>?_,?_,?_⟩
  ·cases i with
   | zero=>
    simp at hi;subst hi;exact h
   | succ i=>
    simp at hi;rw[qXc,qXe];have:=h1 i ao hi;rw[show nb+16*(i+1)=nb+16+16*i by omega];exact this
  ·rw[List.length_cons,qXc];exact h2
  ·rw[List.length_cons,qXe];exact h3
def zDu (anc:List Nat):List Edge→Nat
 | []=>0
 | e::r=>if Region.binds .any e then zDu anc r ||| (1 <<< e.on) ||| anc.getD e.on 0 else zDu anc r
theorem qSq {anc:List Nat} : ∀ {es:List Edge} {x:Nat},(zDu anc es).testBit x=true → ∃ e∈es,Region.binds .any e=true∧(x=e.on∨(anc.getD e.on 0).testBit x=true)
 | [],x,h=>by simp[zDu] at h
 | e::r,x,h=>by
  unfold zDu at h;split at h
  ·rename_i hb;rw[Nat.testBit_or,Nat.testBit_or,Bool.or_eq_true,Bool.or_eq_true] at h;rcases h with (h | h) | h
   ·obtain⟨e',h1,h2,h3⟩:=qSq h;exact⟨e',by simp[h1],h2,h3⟩
   ·refine⟨e,sM,hb,.inl ?_⟩;rw[Nat.one_shiftLeft,Nat.testBit_two_pow] at h;exact (of_decide_eq_true h).symm
   ·exact⟨e,sM,hb,.inr h⟩
  ·obtain⟨e',h1,h2,h3⟩:=qSq h;exact⟨e',by simp[h1],h2,h3⟩
def jH1:List Oper→List Nat→List Nat
 | [],acc=>acc
 | o::r,acc=>jH1 r (acc++[zDu acc o.after.toList])
def jH2 (xs ys:List Nat):Bool:=xs.all fun x => !ys.contains x
theorem qOm {xs ys:List Nat}(h:jH2 xs ys=true) : ∀ x,x∈xs→x ∉ ys:=by
 intro x hx hy;have:=List.all_eq_true.1 h x hx;simp at this;exact this hy
def apartS (x y:zU):Bool:=
 (match x.dst with
 | some d => !y.slots.contains d&&y.dst != some d
 | none=>true) &&
 (match y.dst with
 | some d => !x.slots.contains d
 | none=>true)
def zOe (anc:List Nat)(aos:List zU):Bool:=
 (List.range aos.length).all fun j=>(List.range j).all fun i=>(anc.getD j 0).testBit i||apartS (aos.getD i default) (aos.getD j default)
def zK9 (anc:List Nat)(ops:List Oper):Bool:=
 (List.range ops.length).all fun i=>(ops.getD i default).after.toList.all (fun e => !Region.binds .any e||decide (e.on<i))&&anc.getD i 0==zDu anc (ops.getD i default).after.toList
def apartW (x y:List Nat×List Nat):Bool:=jH2 x.1 y.1&&jH2 x.1 y.2&&jH2 x.2 y.1
def chk (anc:List Nat)(tr:List (List Nat×List Nat)):Bool:=
 (List.range tr.length).all fun j=>(List.range j).all fun i=>(anc.getD j 0).testBit i||apartW (tr.getD i ([],[])) (tr.getD j ([],[]))
def cnt (sel:Nat→Bool):Nat→Nat
 | 0=>0
 | n+1=>cnt sel n+if sel n then 0 else 1
theorem zKu {sel:Nat→Bool}{i:Nat}(hi:sel i=false) : ∀ {n:Nat},cnt (qAg sel i) n+(if i<n then 1 else 0)=cnt sel n
 | 0=>by simp[cnt]
 | n+1=>by
  have ih:=zKu hi (n:=n);simp only[cnt];by_cases hn:n=i
  ·subst hn;simp[qAg,hi] at ih ⊢;omega
  ·have e:qAg sel i n=sel n:=by simp[qAg,hn]
   rw[e];by_cases hlt:i<n
   ·have:i<n+1:=oM;simp only[hlt,this,if_true] at ih ⊢;omega
   ·have : ¬ i<n+1:=oM;simp only[hlt,this,if_false] at ih ⊢;omega
theorem zGu {sel:Nat→Bool} : ∀ {n:Nat},cnt sel n=0 → ∀ i,i<n→sel i=true
 | 0,_,i,h=>oM
 | n+1,h,i,hi=>by
  simp only[cnt] at h;by_cases hn:i=n
  ·subst hn;cases hs:sel i
   ·rw[hs] at h;simp at h
   ·rfl
  ·exact zGu (n:=n) oM i oM
theorem qSo {P:Program}{nt:Nat}{ops:Array Oper} : ∀ {aos:List zU} {i:Nat},zHv P nt ops i aos→ops.size=i+aos.length ∧ ∀ j ao,aos[j]?=some ao → ∃ o keep,ops[i+j]?=some o∧jBm P nt ops keep o=some ao
 | [],i,h=>⟨h,by intro j ao hj;simp at hj⟩
 | x::r,i,h=>by
  obtain⟨⟨o,keep,h1,h2⟩,h3⟩:=h;obtain⟨g1,g2⟩:=qSo h3;refine⟨by rw[g1,List.length_cons];omega,fun j ao hj=>?_⟩;cases j with
  | zero=>simp at hj;subst hj;exact⟨o,keep,h1,h2⟩
  | succ j=>
   simp at hj;rw[show i+(j+1)=i+1+j by omega];exact g2 j ao hj
theorem qTb {α:Type}{l:List α}{i:Nat}{d x:α}(h:l[i]?=some x):l.getD i d=x:=by simp[List.getD,h]
theorem zXw {tab:Tab}(ht:qFk cx.P cx.gl tab){ops:Array Oper}{Qx:Exit→Act→World→Prop}{aos:List zU}{anc:List Nat}{nb:Nat}{fm':Nat→Option V}{hm':Nat→Option Ob}{tr:List (V×Wr×List Nat)}
  (hag:zHv cx.P cx.nt ops 0 aos) (hlex:Lex tab cx.gl aos nb fm hm tr fm' hm') (hedge:zK9 anc ops.toList=true) (hslot:zOe anc aos=true)
  (hw : ∀ i j,i<j→j<ops.size→(anc.getD j 0).testBit i=true∨apartW (wC (trW tr i),trL tr i) (wC (trW tr j),trL tr j)=true)
  (hQ : ∀ β' F' a' w',Rel cx β' F' fm' hm' a' w'→Qx .normal a' w') :
  ∀ (fuel:Nat) (listed:Array Bool) (sel:Nat→Bool) (β:Nat→Option BI) (F:Nat→Prop) (a:Act) (w:World),listed.size=ops.size→(∀ i,i<ops.size→listed.getD i true=sel i∧listed.getD i false=sel i)→cnt sel ops.size=fuel→
   (∀ i o,sel i=true→ops[i]?=some o → ∀ e∈o.after,Region.binds .any e=true→sel e.on=true)→Rel cx β F (SF (aoD aos) (trV tr) sel fm ops.size) (SH (trW tr) sel hm ops.size) a w→wpAny cx.P .any ops Qx fuel listed a w:=by
 obtain⟨hidx,hfm',hhm'⟩:=hlex.index;obtain⟨hsize,hget⟩:=qSo hag;simp only[Nat.zero_add] at hsize hget;have hE1 : ∀ i o,ops[i]?=some o → ∀ e∈o.after,Region.binds .any e=true→e.on<i:=by
  intro i o ho e he hb;have hi:i<ops.toList.length:=by simpa using (Array.getElem?_eq_some_iff.1 ho).1
  have h1:=List.all_eq_true.1 hedge i (by simpa using hi);rw[Bool.and_eq_true] at h1;rw[qTb (x:=o) (by simpa using ho)] at h1;have:=List.all_eq_true.1 h1.1 e (by simpa using he);simpa [hb] using this
 have hE2 : ∀ i o x,ops[i]?=some o→(anc.getD i 0).testBit x=true → ∃ e∈o.after,Region.binds .any e=true∧(x=e.on∨(anc.getD e.on 0).testBit x=true):=by
  intro i o x ho hx;have hi:i<ops.toList.length:=by simpa using (Array.getElem?_eq_some_iff.1 ho).1
  have h1:=List.all_eq_true.1 hedge i (by simpa using hi);rw[Bool.and_eq_true] at h1;rw[qTb (x:=o) (by simpa using ho)] at h1;have:=eq_of_beq h1.2;rw[this] at hx;obtain⟨e,h2,h3,h4⟩:=qSq hx;exact⟨e,by simpa using h2,h3,h4⟩
 have hclosed : ∀ (sel:Nat→Bool),(∀ i o,sel i=true→ops[i]?=some o → ∀ e∈o.after,Region.binds .any e=true→sel e.on=true) → ∀ i,i<ops.size→sel i=true → ∀ x,(anc.getD i 0).testBit x=true→sel x=true:=by
  intro sel hc i
  induction i using Nat.strongRecOn with
  | _ i ih=>
   intro hi hs x hx;obtain⟨e,h1,h2,h3⟩:=hE2 i ops[i] x (by simp[hi]) hx;have hlt:=hE1 i ops[i] (by simp[hi]) e h1 h2;have hse:=hc i ops[i] hs (by simp[hi]) e h1 h2;rcases h3 with rfl | h3
   ·exact hse
   ·exact ih e.on hlt oM hse x h3
 have hS : ∀ i j,i<j→j<ops.size→(anc.getD j 0).testBit i=true∨apartS (aos.getD i default) (aos.getD j default)=true:=by
  intro i j hij hj;have h1:=List.all_eq_true.1 hslot j soM;have h2:=List.all_eq_true.1 h1 i (by simpa using hij);simpa using h2
 have apart : ∀ i j,i<ops.size→j<ops.size→i≠j→(anc.getD j 0).testBit i=false→(anc.getD i 0).testBit j=false→
   (∀ t,aoD aos j=some t→t ∉ (aos.getD i default).slots∧aoD aos i≠some t)∧(∀ id,id∈wC (trW tr j)→id ∉ trL tr i∧id ∉ wC (trW tr i)):=by
  intro i j hi hj hne h1 h2;rcases Nat.lt_or_gt_of_ne hne with hlt | hlt
  ·have a1:apartS (aos.getD i default) (aos.getD j default)=true:=by
    rcases hS i j hlt hj with h | h
    ·rw[h1] at h;cases h
    ·exact h
   have a2:apartW (wC (trW tr i),trL tr i) (wC (trW tr j),trL tr j)=true:=by
    rcases hw i j hlt hj with h | h
    ·rw[h1] at h;cases h
    ·exact h
   simp only[apartW,Bool.and_eq_true] at a2;refine⟨fun t ht=>?_,fun id hid=>⟨fun h=>qOm a2.2 id h hid,fun h=>qOm a2.1.1 id h hid⟩⟩;unfold apartS at a1;rw[Bool.and_eq_true] at a1;unfold aoD at ht ⊢;rw[ht] at a1;refine⟨by simpa using a1.2,fun h=>?_⟩;rw[h] at a1;simp at a1
  ·have a1:apartS (aos.getD j default) (aos.getD i default)=true:=by
    rcases hS j i hlt hi with h | h
    ·rw[h2] at h;cases h
    ·exact h
   have a2:apartW (wC (trW tr j),trL tr j) (wC (trW tr i),trL tr i)=true:=by
    rcases hw j i hlt hi with h | h
    ·rw[h2] at h;cases h
    ·exact h
   simp only[apartW,Bool.and_eq_true] at a2;refine⟨fun t ht=>?_,fun id hid=>⟨fun h=>qOm a2.1.2 id hid h,fun h=>qOm a2.1.1 id hid h⟩⟩;unfold apartS at a1;rw[Bool.and_eq_true] at a1;unfold aoD at ht ⊢;rw[ht] at a1;simp only[Bool.and_eq_true,Bool.not_eq_true',bne_iff_ne,ne_eq] at a1;exact⟨by simpa using a1.1.1,a1.1.2⟩
 have hall : ∀ (listed:Array Bool) (sel:Nat→Bool),listed.size=ops.size→(∀ i,i<ops.size→listed.getD i true=sel i∧listed.getD i false=sel i)→Region.ready .any ops listed=[] → ∀ i,i<ops.size→sel i=true:=by
  intro listed sel hls hl hr i
  induction i using Nat.strongRecOn with
  | _ i ih=>
   intro hi;cases hs:sel i with
   | true=>rfl
   | false=>
    have:i∈Region.ready .any ops listed:=mem_ready.2 ⟨by rw[(hl i hi).1];exact hs,ops[i],by simp[hi],fun e he hb=>by
     have hlt:=hE1 i ops[i] (by simp[hi]) e he hb;rw[(hl e.on oM).2];exact ih e.on hlt oM⟩
    rw[hr] at this;cases this
 have hdone : ∀ (sel:Nat→Bool) (β:Nat→Option BI) (F:Nat→Prop) (a:Act) (w:World),(∀ i,i<ops.size→sel i=true)→Rel cx β F (SF (aoD aos) (trV tr) sel fm ops.size) (SH (trW tr) sel hm ops.size) a w→Qx .normal a w:=by
  intro sel β F a w hs R;refine hQ β F a w ?_;have e1:SF (aoD aos) (trV tr) sel fm ops.size=fm':=by
   rw[hfm',←hsize];funext t;exact qXb (fun j hj _=>hs j hj)
  have e2:SH (trW tr) sel hm ops.size=hm':=by
   rw[hhm',←hsize];funext t;exact qXd (fun j hj _=>hs j hj)
  rw[e1,e2] at R;exact R
 intro fuel
 induction fuel with
 | zero=>
  intro listed sel β F a w hls hl hc hcl R;have hs:=zGu hc;refine⟨?_,hdone sel β F a w hs R⟩;refine List.eq_nil_iff_forall_not_mem.2 (fun i hi=>?_);obtain⟨h1,o,ho,_⟩:=mem_ready.1 hi;have hi':=(Array.getElem?_eq_some_iff.1 ho).1;rw[(hl i hi').1,hs i hi'] at h1;cases h1
 | succ fuel ih=>
  intro listed sel β F a w hls hl hc hcl R;refine⟨fun hr=>hdone sel β F a w (hall listed sel hls hl hr) R,fun i hi=>?_⟩;obtain⟨h1,o,ho,hwait⟩:=mem_ready.1 hi;have hi':=(Array.getElem?_eq_some_iff.1 ho).1;have hsi:sel i=false:=by rw[←(hl i hi').1];exact h1
  have hafter : ∀ e∈o.after,Region.binds .any e=true→sel e.on=true:=fun e he hb=>by
   have hlt:=hE1 i o ho e he hb;rw[←(hl e.on oM).2];exact hwait e he hb
  have hanc : ∀ x,(anc.getD i 0).testBit x=true→sel x=true:=by
   intro x hx;obtain⟨e,g1,g2,g3⟩:=hE2 i o x ho hx;have hlt:=hE1 i o ho e g1 g2;have hse:=hafter e g1 g2;rcases g3 with rfl | g3
   ·exact hse
   ·exact hclosed sel hcl e.on oM hse x g3
  have hil:i<aos.length:=oM;obtain⟨o',keep,ho',hk⟩:=hget i aos[i] (by simp[hil]);rw[ho] at ho';cases ho';have hao:aos.getD i default=aos[i]:=qTb (by simp[hil]);have hun : ∀ j,j<ops.size→(sel j=true∧i<j∨sel j=false∧j<i)→(∀ t,aoD aos j=some t→t ∉ (aos.getD i default).slots∧aoD aos i≠some t)∧(∀ id,id∈wC (trW tr j)→id ∉ trL tr i∧id ∉ wC (trW tr i)):=by
   intro j hj hcase;rcases hcase with⟨hs,hlt⟩ | ⟨hs,hlt⟩
   ·refine apart i j hi' hj oM ?_ ?_
    ·cases hb:(anc.getD j 0).testBit i with
     | false=>rfl
     | true=>have:=hclosed sel hcl j hj hs i hb;rw[hsi] at this;cases this
    ·cases hb:(anc.getD i 0).testBit j with
     | false=>rfl
     | true=>
      exfalso;have : ∀ k,k<ops.size → ∀ x,(anc.getD k 0).testBit x=true→x<k:=by
       intro k
       induction k using Nat.strongRecOn with
       | _ k ihk=>
        intro hk x hx;obtain⟨e,g1,g2,g3⟩:=hE2 k ops[k] x (by simp[hk]) hx;have hlt:=hE1 k ops[k] (by simp[hk]) e g1 g2;rcases g3 with rfl | g3
        ·exact hlt
        ·have:=ihk e.on hlt oM x g3;omega
      have:=this i hi' j hb;omega
   ·refine apart i j hi' hj oM ?_ ?_
    ·cases hb:(anc.getD j 0).testBit i with
     | false=>rfl
     | true=>
      exfalso;have : ∀ k,k<ops.size → ∀ x,(anc.getD k 0).testBit x=true→x<k:=by
       intro k
       induction k using Nat.strongRecOn with
       | _ k ihk=>
        intro hk x hx;obtain⟨e,g1,g2,g3⟩:=hE2 k ops[k] x (by simp[hk]) hx;have hlt:=hE1 k ops[k] (by simp[hk]) e g1 g2;rcases g3 with rfl | g3
        ·exact hlt
        ·have:=ihk e.on hlt oM x g3;omega
      have:=this j hj i hb;omega
    ·cases hb:(anc.getD i 0).testBit j with
     | false=>rfl
     | true=>have:=hanc j hb;rw[hs] at this;cases this
  have hslotsEq : ∀ t∈aos[i].slots,SF (aoD aos) (trV tr) (fun _=>true) fm i t=SF (aoD aos) (trV tr) sel fm ops.size t:=by
   intro t htm;rw[←hao] at htm;rw[zT6 (n:=ops.size) (i:=i) oM (fun j h2 h3 hD=>by
    cases hs:sel j with
    | false=>rfl
    | true=>
     have hne:j≠i:=fun e=>by rw[e] at hs;rw[hsi] at hs;cases hs
     exact absurd htm ((hun j h3 (.inl ⟨hs,oM⟩)).1 t hD).1)]
   refine qXb (fun j hj hD=>?_);cases hs:sel j with
   | true=>rfl
   | false=>exact absurd htm ((hun j oM (.inr ⟨hs,hj⟩)).1 t hD).1
  have hheapEq : ∀ id∈trL tr i,SH (trW tr) sel hm ops.size id=SH (trW tr) (fun _=>true) hm i id:=by
   intro id hid;rw[zT8 (n:=ops.size) (i:=i) oM (fun j h2 h3 hD=>by
    cases hs:sel j with
    | false=>rfl
    | true=>
     have hne:j≠i:=fun e=>by rw[e] at hs;rw[hsi] at hs;cases hs
     exact absurd hid ((hun j h3 (.inl ⟨hs,oM⟩)).2 id hD).1)]
   refine qXd (fun j hj hD=>?_);cases hs:sel j with
   | true=>rfl
   | false=>exact absurd hid ((hun j oM (.inr ⟨hs,hj⟩)).2 id hD).1
  have hq:=hidx i aos[i] (by simp[hil]);rw[zYu hslotsEq] at hq;have hq':=Q.run_local _ hq hheapEq;refine qXa R ht ho hk hq' (fun β' F' a' w' R'=>?_);refine ih (listed.setIfInBounds i true) (qAg sel i) β' F' a' w' (by simpa using hls) (fun j hj=>?_) ?_ (fun j oj hs hoj e he hb=>?_) ?_
  ·by_cases hji:j=i
   ·subst hji;simp[qAg,hls,hi']
   ·have h2:=hl j hj;rw[getD_set_ne true (fun e=>hji e.symm),getD_set_ne false (fun e=>hji e.symm)];simpa [qAg,hji] using h2
  ·have:=zKu hsi (n:=ops.size);rw[if_pos hi'] at this;omega
  ·by_cases hji:j=i
   ·subst hji;rw[ho] at hoj;cases hoj;have hlt:=hE1 j o ho e he hb;have hse:=hafter e he hb;simp only[qAg];split
    ·rfl
    ·exact hse
   ·have hsj:sel j=true:=by simpa [qAg,hji] using hs
    have:=hcl j oj hsj hoj e he hb;simp only[qAg];split
    ·rfl
    ·exact this
  ·have e1:SF (aoD aos) (trV tr) (qAg sel i) fm ops.size=qU6 (SF (aoD aos) (trV tr) sel fm ops.size) aos[i].dst (trV tr i):=by
    rw[zT5 hsi (fun j hij hj hs t hD hD'=>((hun j hj (.inl ⟨hs,hij⟩)).1 t hD').2 hD),if_pos hi'];unfold aoD;rw[hao]
   have e2:SH (trW tr) (qAg sel i) hm ops.size=upd (SH (trW tr) sel hm ops.size) (trW tr i):=by
    rw[zT7 hsi (fun j hij hj hs id hD hD'=>((hun j hj (.inl ⟨hs,hij⟩)).2 id hD').2 hD),if_pos hi']
   rw[e1,e2];exact R'
end Go.Eng
end
section
namespace Go.Eng
def jU {α:Type}:List (Nat×α)→Nat→Option α
 | [],_=>none
 | (k,v)::r,t=>if k=t then some v else jU r t
def jH6 {α:Type}:List (Nat×α)→Nat→α→List (Nat×α)
 | [],k,v=>[(k,v)]
 | (k',v')::r,k,v=>if k'=k then (k,v)::r else (k',v')::jH6 r k v
def zVr (fs:List (Nat×V)):Option Nat→V→List (Nat×V)
 | some d,v=>(d,v)::fs
 | none,_=>fs
theorem zMh {fs:List (Nat×V)}{d:Option Nat}{v:V}:jU (zVr fs d v)=qU6 (jU fs) d v:=by
 funext t;cases d with
 | none=>simp[zVr,qU6]
 | some d=>
  simp only[zVr,jU,qU6,Option.some.injEq]
def qZ8:List (Nat×Ob)→Wr→List (Nat×Ob)
 | hs,[]=>hs
 | hs,(i,o)::r=>qZ8 ((i,o)::hs) r
theorem qOw : ∀ {W:Wr} {hs:List (Nat×Ob)},jU (qZ8 hs W)=upd (jU hs) W
 | [],_=>rfl
 | (i,o)::r,hs=>by
  simp only[qZ8,upd];rw[qOw];congr 1;funext j;rw[jU];by_cases h:i=j
  ·simp[h]
  ·simp[h,Ne.symm h]
def Q.wp {α:Type}(hs:List (Nat×Ob))(q:Q α)(K:α→List Nat→Prop):Prop := ∃ x l,q.run (jU hs)=some (x,l)∧K x l
section
variable {α γ:Type} {hs:List (Nat×Ob)} {K:α→List Nat→Prop}
def zJ2 {α:Type}(hs:List (Nat×Ob))(o:Option Ob)(id:Nat)(k:Ob→Q α)(K:α→List Nat→Prop):Prop:=
 match o with
 | some o=>(k o).wp hs (fun x l=>K x (id::l))
 | none=>False
def qW9 {α:Type}(hs:List (Nat×Ob))(o:Option Ob)(id:Nat)(k:Q α)(K:α→List Nat→Prop):Prop:=
 match o with
 | some _=>False
 | none=>k.wp hs (fun x l=>K x (id::l))
def zDj {α γ:Type}(hs:List (Nat×Ob))(o:Option γ)(f:γ→Q α)(K:α→List Nat→Prop):Prop:=
 match o with
 | some x=>(f x).wp hs K
 | none=>False
theorem Q.wp_ret {x:α}:(Q.ret x).wp hs K=K x []:=by
 apply propext;constructor
 ·rintro⟨y,l,h,hK⟩;obtain⟨rfl,rfl⟩:=qE h;exact hK
 ·exact fun h=>⟨x,[],rfl,h⟩
theorem Q.wp_fail:(Q.fail:Q α).wp hs K=False:=by
 apply propext;constructor
 ·rintro⟨y,l,h,hK⟩;cases h
 ·exact fun h=>h.elim
theorem Q.wp_get {id:Nat}{k:Ob→Q α}:(Q.get id k).wp hs K=zJ2 hs (jU hs id) id k K:=by
 apply propext;constructor
 ·rintro⟨y,l,h,hK⟩;obtain⟨o,l',h1,h2,rfl⟩:=yZ h;rw[h1];exact⟨y,l',h2,hK⟩
 ·intro h;cases ho:jU hs id with
  | none=>rw[ho] at h;exact h.elim
  | some o=>
   rw[ho] at h;obtain⟨y,l,h1,h2⟩:=h;exact⟨y,id::l,by simp[Q.run,ho,h1],h2⟩
theorem Q.wp_free {id:Nat}{k:Q α}:(Q.free id k).wp hs K=qW9 hs (jU hs id) id k K:=by
 apply propext;constructor
 ·rintro⟨y,l,h,hK⟩;obtain⟨h1,l',h2,rfl⟩:=kM h;rw[h1];exact⟨y,l',h2,hK⟩
 ·intro h;cases ho:jU hs id with
  | some o=>rw[ho] at h;exact h.elim
  | none=>
   rw[ho] at h;obtain⟨y,l,h1,h2⟩:=h;exact⟨y,id::l,by simp[Q.run,ho,h1],h2⟩
theorem Q.wp_assert {b:Prop}[Decidable b]{q:Q α}:(Q.assert b q).wp hs K=(b∧q.wp hs K):=by
 apply propext;constructor
 ·rintro⟨y,l,h,hK⟩;obtain⟨h1,h2⟩:=qM h;exact⟨h1,y,l,h2,hK⟩
 ·rintro⟨h1,y,l,h,hK⟩;exact⟨y,l,by unfold Q.assert;rw[if_pos h1];exact h,hK⟩
theorem Q.wp_ite {b:Prop}[Decidable b]{p q:Q α}:(if b then p else q).wp hs K=((b→p.wp hs K)∧(¬ b→q.wp hs K)):=by
 by_cases h:b<;>simp[h]
theorem Q.wp_of_bind {o:Option γ}{f:γ→Q α}:((Q.of o).bind f).wp hs K=zDj hs o f K:=by
 cases o with
 | none=>exact Q.wp_fail
 | some x=>rfl
theorem Q.wp_bind {q:Q γ}{f:γ→Q α}:(q.bind f).wp hs K=q.wp hs (fun x l=>(f x).wp hs (fun y l'=>K y (l++l'))):=by
 apply propext;constructor
 ·rintro⟨y,l,h,hK⟩;obtain⟨x,l1,l2,h1,h2,rfl⟩:=zB h;exact⟨x,l1,h1,y,l2,h2,hK⟩
 ·rintro⟨x,l1,h1,y,l2,h2,hK⟩;exact⟨y,l1++l2,by rw[Q.run_bind,h1];simp[h2],hK⟩
theorem zJ3 {id:Nat}{k:Ob→Q α}:zJ2 hs none id k K=False:=rfl
theorem zGd {o:Ob}{id:Nat}{k:Q α}:qW9 hs (some o) id k K=False:=rfl
theorem qUv {x:γ}{f:γ→Q α}:zDj hs (some x) f K=(f x).wp hs K:=rfl
theorem zO9 {f:γ→Q α}:zDj hs none f K=False:=rfl
theorem zTx {b:Prop}[Decidable b]{o:Option γ}{f:γ→Q α}:zDj hs (if b then o else none) f K=(b∧zDj hs o f K):=by
 by_cases h:b<;>simp[h,zDj]
theorem zO7 {b:Prop}[Decidable b]{o:Option γ}{f:γ→Q α}:zDj hs (if b then none else o) f K=(¬ b∧zDj hs o f K):=by
 by_cases h:b<;>simp[h,zDj]
@[congr] theorem Q.wp_congr {q q':Q α} (h:q=q'):q.wp hs K=q'.wp hs K:=by rw[h]
@[congr] theorem jAy {o o':Option Ob} {id:Nat} {k:Ob→Q α} (h:o=o'):zJ2 hs o id k K=zJ2 hs o' id k K:=by rw[h]
@[congr] theorem zV8 {o o':Option Ob} {id:Nat} {k:Q α} (h:o=o'):qW9 hs o id k K=qW9 hs o' id k K:=by rw[h]
@[congr] theorem jBa {o o':Option γ} {f:γ→Q α} (h:o=o'):zDj hs o f K=zDj hs o' f K:=by rw[h]
end
inductive AE where
 | normal
 | exit (id:Nat)
 | ret
 deriving DecidableEq
def AE.ex:AE→Exit
 | .normal=> .normal
 | .exit id=> .exit id
 | .ret=> .ret
inductive AC where
 | skip
 | ret
 | exit (id:Nat)
 | seq (a b:AC)
 | cond (c:qFi) (a b:AC)
 | condb (c:qFi) (a b:AC)
 | block (id:Nat) (a:AC)
 | loop (a:AC)
 | reg (nb:Nat) (anc:Option (List Nat)) (ops:List zU)
 deriving Inhabited
abbrev Fs:=List (Nat×V)
abbrev Hs:=List (Nat×Ob)
abbrev qF0:=AE→Fs→Hs→Prop
def qZ9 (tab:Tab)(gl:Gl):List zU→Nat→Fs→Hs→List (List Nat×List Nat)→(Fs→Hs→List (List Nat×List Nat)→Prop)→Prop
 | [],_,fs,hs,acc,K=>K fs hs acc
 | o::r,nb,fs,hs,acc,K=>(o.q tab gl (jU fs) nb).wp hs (fun p l=>qZ9 tab gl r (nb+16) (zVr fs o.dst p.1) (qZ8 hs p.2) (acc++[(wC p.2,l)]) K)
def qIy (v:Option V)(A B:Prop):Prop:=
 match v with
 | some (.t (.bool b))=>(b=true→A)∧(b=false→B)
 | _=>False
def qRa (v:Option V)(A B:Prop):Prop:=
 match v with
 | some .bq=>A∧B
 | v=>qIy v A B
@[congr] theorem zWv {v v':Option V} {A B:Prop} (h:v=v'):qIy v A B=qIy v' A B:=by rw[h]
theorem zH7 {A B:Prop}:qIy (some (.t (.bool true))) A B=A:=by simp[qIy]
@[congr] theorem zWt {v v':Option V} {A B:Prop} (h:v=v'):qRa v A B=qRa v' A B:=by rw[h]
theorem zP9 {A B:Prop}:qRa (some .bq) A B=(A∧B):=by simp[qRa]
theorem zWu {x:T}{A B:Prop}:qRa (some (.t x)) A B=qIy (some (.t x)) A B:=by simp[qRa]
theorem zD5 {A B:Prop}:qIy (some (.t (.bool false))) A B=B:=by simp[qIy]
def qI (fs:Fs)(hs:Hs)(fs':Fs)(hs':Hs):Prop:=
 ∀ (cx:Cx) (β:Nat→Option BI) (F:Nat→Prop) (a:Act) (w:World),Rel cx β F (jU fs) (jU hs) a w → ∃ β' F',Rel cx β' F' (jU fs') (jU hs') a w
theorem qI.refl {fs:Fs}{hs:Hs}:qI fs hs fs hs:=fun _ β F _ _ R=>⟨β,F,R⟩
theorem qI.trans {fs fs' fs'':Fs}{hs hs' hs'':Hs}(h:qI fs hs fs' hs')(h':qI fs' hs' fs'' hs''):qI fs hs fs'' hs'':=fun cx β F a w R=>
 let ⟨β',F',R'⟩:=h cx β F a w R
 h' cx β' F' a w R'
def zJ9 (B:Fs→Hs→qF0→Prop)(fs:Fs)(hs:Hs)(Qx:qF0):Prop:=
 ∃ (ι:Type) (I:ι→Fs×Hs) (μ:ι→Nat) (i0:ι),qI fs hs (I i0).1 (I i0).2∧
  ∀ i,B (I i).1 (I i).2 (fun e fs' hs'=>match e with | .normal => ∃ j,μ j<μ i∧qI fs' hs' (I j).1 (I j).2 | e=>Qx e fs' hs')
@[congr] theorem zWb {B:Fs→Hs→qF0→Prop} {fs:Fs} {hs:Hs} {Qx:qF0}:zJ9 B fs hs Qx=zJ9 B fs hs Qx:=rfl
def jQt (tab:Tab)(gl:Gl)(nb:Nat)(anc:Option (List Nat))(ops:List zU)(fs:Fs)(hs:Hs)(Qx:qF0):Prop:=
 qZ9 tab gl ops nb fs hs [] (fun fs' hs' acc=>(match anc with | none=>True | some l=>chk l acc=true)∧Qx .normal fs' hs')
def AC.wp (tab:Tab)(gl:Gl):AC→Fs→Hs→qF0→Prop
 | .skip,fs,hs,Qx=>Qx .normal fs hs
 | .ret,fs,hs,Qx=>Qx .ret fs hs
 | .exit id,fs,hs,Qx=>Qx (.exit id) fs hs
 | .seq a b,fs,hs,Qx=>a.wp tab gl fs hs (fun e fs' hs'=>match e with | .normal=>b.wp tab gl fs' hs' Qx | e=>Qx e fs' hs')
 | .cond c a b,fs,hs,Qx=>qIy (c.val gl (jU fs)) (a.wp tab gl fs hs Qx) (b.wp tab gl fs hs Qx)
 | .condb c a b,fs,hs,Qx=>qRa (c.val gl (jU fs)) (a.wp tab gl fs hs Qx) (b.wp tab gl fs hs Qx)
 | .block id a,fs,hs,Qx=>a.wp tab gl fs hs (fun e fs' hs'=>match e with | .exit id'=>(if id'=id then Qx .normal fs' hs' else Qx (.exit id') fs' hs') | e=>Qx e fs' hs')
 | .loop a,fs,hs,Qx=>zJ9 (fun fs hs K=>a.wp tab gl fs hs K) fs hs Qx
 | .reg nb anc ops,fs,hs,Qx=>jQt tab gl nb anc ops fs hs Qx
@[congr] theorem AC.wp_congr {tab:Tab} {gl:Gl} {c:AC} {fs fs':Fs} {hs hs':Hs} {Qx:qF0} (h1:fs=fs') (h2:hs=hs'):c.wp tab gl fs hs Qx=c.wp tab gl fs' hs' Qx:=by rw[h1,h2]
@[congr] theorem jA9 {tab:Tab} {gl:Gl} {os:List zU} {nb nb':Nat} {fs fs':Fs} {hs hs':Hs} {acc:List (List Nat×List Nat)} {K:Fs→Hs→List (List Nat×List Nat)→Prop} (h0:nb=nb') (h1:fs=fs') (h2:hs=hs') :
  qZ9 tab gl os nb fs hs acc K=qZ9 tab gl os nb' fs' hs' acc K:=by rw[h0,h1,h2]
def zPt (P:Program)(nt:Nat)(ops:Array Oper)(keeps:List Nat):Nat→List Oper→Option (List zU)
 | _,[]=>some []
 | i,o::r=>(jBm P nt ops (keeps.contains i) o).bind fun x=>(zPt P nt ops keeps (i+1) r).map (x :: ·)
def zXu (hints:List (Nat×List Nat))(id:Nat):List Nat:=(jU hints id).getD []
def ann (P:Program)(nt:Nat)(hints:List (Nat×List Nat)):Code→Option AC
 | .skip=>some .skip
 | .label _=>some .skip
 | .ret=>some .ret
 | .exit id=>some (.exit id)
 | .seq a b=>(ann P nt hints a).bind fun x=>(ann P nt hints b).map fun y=> .seq x y
 | .cond c a b=>(zRp c).bind fun o=>(ann P nt hints a).bind fun x=>(ann P nt hints b).map fun y=>match jU hints 900000 with | some _=> .condb o x y | none=> .cond o x y
 | .block id a=>(ann P nt hints a).map fun x=> .block id x
 | .loop a=>(ann P nt hints a).map fun x=> .loop x
 | .region id ops draw=>(zPt P nt ops (zXu hints id) 0 ops.toList).bind fun aos=>
  if draw then (if zK9 (jH1 ops.toList []) ops.toList&&zOe (jH1 ops.toList []) aos then some (.reg (4096*(id+1)) (some (jH1 ops.toList [])) aos) else none)
  else some (.reg (4096*(id+1)) none aos)
 | _=>none
theorem qSs {P:Program}{nt:Nat}{ops:Array Oper}{keeps:List Nat} : ∀ {l:List Oper} {i:Nat} {aos:List zU},zPt P nt ops keeps i l=some aos→l=ops.toList.drop i→i≤ops.size→zHv P nt ops i aos
 | [],i,aos,h,hl,hi=>by
  cases h;have:=congrArg List.length hl;simp at this;simp only[zHv];omega
 | o::r,i,aos,h,hl,hi=>by
  simp only[zPt,Option.bind_eq_some_iff,Option.map_eq_some_iff] at h;obtain⟨x,hx,xs,hxs,rfl⟩:=h;have hlt:i<ops.size:=by
   have:=congrArg List.length hl;simp at this;omega
  have h0:ops.toList.drop i=ops.toList[i]'(by simpa using hlt)::ops.toList.drop (i+1):=List.drop_eq_getElem_cons (by simpa using hlt);rw[h0] at hl;simp only[List.cons.injEq] at hl;refine⟨⟨o,keeps.contains i,?_,hx⟩,qSs hxs hl.2 hlt⟩;rw[hl.1];simp[hlt]
variable {β:Nat→Option BI} {F:Nat→Prop} {w:World} {cx:Cx} {a:Act}
theorem qZr {tab:Tab}{gl:Gl} : ∀ {aos:List zU} {nb:Nat} {fs:Fs} {hs:Hs} {acc:List (List Nat×List Nat)} {K:Fs→Hs→List (List Nat×List Nat)→Prop},qZ9 tab gl aos nb fs hs acc K→
  ∃ tr fs' hs',Lex tab gl aos nb (jU fs) (jU hs) tr (jU fs') (jU hs')∧tr.length=aos.length∧K fs' hs' (acc++tr.map fun p=>(wC p.2.1,p.2.2))
 | [],nb,fs,hs,acc,K,h=>⟨[],fs,hs,.nil,rfl,by simpa [qZ9] using h⟩
 | o::r,nb,fs,hs,acc,K,h=>by
  obtain⟨⟨v,W⟩,l,hq,h⟩:=h;obtain⟨tr,fs',hs',h1,h2,h3⟩:=qZr h;refine⟨(v,W,l)::tr,fs',hs',.cons hq (by rw[←zMh,←qOw];exact h1),by simp[h2],?_⟩;simpa using h3
theorem zP8 {anc:List Nat}{tr:List (V×Wr×List Nat)}(h:chk anc (tr.map fun p=>(wC p.2.1,p.2.2))=true) : ∀ i j,i<j→j<tr.length→(anc.getD j 0).testBit i=true∨apartW (wC (trW tr i),trL tr i) (wC (trW tr j),trL tr j)=true:=by
 intro i j hij hj;have h1:=List.all_eq_true.1 h j (by simpa using hj);have h2:=List.all_eq_true.1 h1 i (by simpa using hij);rw[Bool.or_eq_true] at h2;rcases h2 with h2 | h2
 ·exact .inl h2
 ·refine .inr ?_;have e : ∀ k,k<tr.length→(tr.map fun p=>(wC p.2.1,p.2.2)).getD k ([],[])=(wC (trW tr k),trL tr k):=by
   intro k hk;simp[trW,trL,List.getD,hk]
  rw[e i oM,e j hj] at h2;exact h2
theorem qZ4 {P:Program}{Qx:Exit→Act→World→Prop}{a:Act}{w:World}{c:Code}{ι:Type}(I:ι→Act→World→Prop)(μ:ι→Nat)(i0:ι)(h₀:I i0 a w)
  (round : ∀ i a w,I i a w→c.wp P (Exit.then (fun a' w' => ∃ j,μ j<μ i∧I j a' w') Qx) a w):(Code.loop c).wp P Qx a w:=by
 intro b k cs;have key : ∀ n i a w,μ i=n→I i a w → ∃ e a' w',Qx e a' w'∧Arrives P (lone (b.at a (.code c :: .inLoop c::k)) cs w) b k cs e a' w':=by
  intro n
  induction n using Nat.strongRecOn with
  | _ n ih=>
   intro i a w hn hI;obtain⟨e,a₁,w₁,hq,harr⟩:=round i a w hI b (.inLoop c::k) cs;cases e with
   | normal=>
    obtain⟨j,hlt,hI₁⟩:=hq;obtain⟨e₂,a₂,w₂,hq₂,harr₂⟩:=ih (μ j) (hn▸hlt) j a₁ w₁ rfl hI₁;exact⟨e₂,a₂,w₂,hq₂,.of_steps (Steps.trans harr (.one step_inLoop)) harr₂⟩
   | exit id=>exact⟨_,a₁,w₁,hq,.pass (x:= .inLoop c) rfl (fun _ _=> .inl sM) harr⟩
   | goto l=>exact⟨_,a₁,w₁,hq,.pass (x:= .inLoop c) rfl (fun _ _=> .inl sM) harr⟩
   | ret=>exact⟨_,a₁,w₁,hq,.pass (x:= .inLoop c) rfl (fun _ _=> .inl sM) harr⟩
   | panic ch=>exact⟨_,a₁,w₁,hq,.pass (x:= .inLoop c) rfl (fun _ _=> .inl sM) harr⟩
   | outgrown=>exact⟨_,a₁,w₁,hq,.pass (x:= .inLoop c) rfl (fun _ _=> .inl sM) harr⟩
 obtain⟨e,a',w',hq,harr⟩:=key _ i0 a w rfl h₀;exact⟨e,a',w',hq,.of_steps (.one step_loop) harr⟩
theorem AC.sound {tab:Tab}(ht:qFk cx.P cx.gl tab)(hmx:cx.P.follows .mixedOrders=true){hints:List (Nat×List Nat)} : ∀ {c:Code} {ac:AC},ann cx.P cx.nt hints c=some ac→
  ∀ {fs:Fs} {hs:Hs} {Qa:qF0} {Qx:Exit→Act→World→Prop} {β:Nat→Option BI} {F:Nat→Prop} {a:Act} {w:World},ac.wp tab cx.gl fs hs Qa→Rel cx β F (jU fs) (jU hs) a w→
   (∀ e fs' hs' β' F' a' w',Qa e fs' hs'→Rel cx β' F' (jU fs') (jU hs') a' w'→Qx e.ex a' w')→c.wp cx.P Qx a w:=by
 intro c
 induction c with
 | skip=>intro ac h fs hs Qa Qx β F a w hw R hQ;cases h;exact wp_skip (hQ .normal _ _ _ _ _ _ hw R)
 | label l=>intro ac h fs hs Qa Qx β F a w hw R hQ;cases h;exact wp_label (hQ .normal _ _ _ _ _ _ hw R)
 | ret=>intro ac h fs hs Qa Qx β F a w hw R hQ;cases h;exact wp_ret (hQ .ret _ _ _ _ _ _ hw R)
 | exit id=>intro ac h fs hs Qa Qx β F a w hw R hQ;cases h;exact wp_exit (hQ (.exit id) _ _ _ _ _ _ hw R)
 | seq x y ihx ihy=>
  intro ac h fs hs Qa Qx β F a w hw R hQ;simp only[ann,Option.bind_eq_some_iff,Option.map_eq_some_iff] at h;obtain⟨cx',hx,cy,hy,rfl⟩:=h;refine wp_seq (ihx hx hw R (fun e fs' hs' β' F' a' w' hq R'=>?_));cases e with
  | normal=>exact ihy hy hq R' hQ
  | exit id=>exact hQ (.exit id) _ _ _ _ _ _ hq R'
  | ret=>exact hQ .ret _ _ _ _ _ _ hq R'
 | cond o x y ihx ihy=>
  intro ac h fs hs Qa Qx β F a w hw R hQ;simp only[ann,Option.bind_eq_some_iff,Option.map_eq_some_iff] at h;obtain⟨o',ho,cx',hx,cy,hy,h⟩:=h;have key : ∀ {Qa:qF0},qIy (o'.val cx.gl (jU fs)) (cx'.wp tab cx.gl fs hs Qa) (cy.wp tab cx.gl fs hs Qa)→(∀ e fs' hs' β' F' a' w',Qa e fs' hs'→Rel cx β' F' (jU fs') (jU hs') a' w'→Qx e.ex a' w')→(Code.cond o x y).wp cx.P Qx a w:=by
   intro Qa hw hQ;simp only[qIy] at hw;split at hw
   ·rename_i v b hv;have:=qTj R ho hv;refine wp_cond_split (this.bool_inv) (fun e=>ihx hx (hw.1 e) R hQ) (fun e=>ihy hy (hw.2 e) R hQ)
   ·exact hw.elim
  cases hm:jU hints 900000 with
  | none=>
   rw[hm] at h;subst h;exact key hw hQ
  | some l=>
   rw[hm] at h;subst h;simp only[AC.wp,qRa] at hw;split at hw
   ·rename_i v hv;have:=qTj R ho hv;generalize he:a.eval o=y0 at this;cases this with
    | bq b=>exact wp_cond_split he (fun _=>ihx hx hw.1 R hQ) (fun _=>ihy hy hw.2 R hQ)
   ·exact key hw hQ
 | block id x ih=>
  intro ac h fs hs Qa Qx β F a w hw R hQ;simp only[ann,Option.map_eq_some_iff] at h;obtain⟨x',hx,rfl⟩:=h;refine wp_block (ih hx hw R (fun e fs' hs' β' F' a' w' hq R'=>?_));cases e with
  | normal=>exact hQ .normal _ _ _ _ _ _ hq R'
  | exit id'=>
   simp only[AE.ex,Exit.inBlock];simp only at hq;split
   ·rename_i h1;rw[if_pos h1] at hq;exact hQ .normal _ _ _ _ _ _ hq R'
   ·rename_i h1;rw[if_neg h1] at hq;exact hQ (.exit id') _ _ _ _ _ _ hq R'
  | ret=>exact hQ .ret _ _ _ _ _ _ hq R'
 | loop x ih=>
  intro ac h fs hs Qa Qx β F a w hw R hQ;simp only[ann,Option.map_eq_some_iff] at h;obtain⟨x',hx,rfl⟩:=h;obtain⟨ι,I,μ,i0,h0,hr⟩:=hw;refine qZ4 (fun i a w => ∃ β F,Rel cx β F (jU (I i).1) (jU (I i).2) a w) μ i0 (h0 cx β F a w R) (fun i a w ⟨β1,F1,R1⟩=>?_);refine ih hx (hr i) R1 (fun e fs' hs' β' F' a' w' hq R'=>?_);cases e with
  | normal=>
   obtain⟨j,h1,h2⟩:=hq;exact⟨j,h1,h2 cx β' F' a' w' R'⟩
  | exit id=>exact hQ (.exit id) _ _ _ _ _ _ hq R'
  | ret=>exact hQ .ret _ _ _ _ _ _ hq R'
 | region id ops draw=>
  intro ac h fs hs Qa Qx β F a w hw R hQ;simp only[ann,Option.bind_eq_some_iff] at h;obtain⟨aos,haos,h⟩:=h;have hag:=qSs haos rfl (Nat.zero_le _);cases draw with
  | false=>
   simp only[Bool.false_eq_true,if_false] at h;cases h;obtain⟨tr,fs',hs',h1,h2,_,h3⟩:=qZr hw;exact wp_region (zMc ht hag h1 R (fun β' F' a' w' R'=>hQ .normal _ _ _ _ _ _ h3 R') _ rfl)
  | true=>
   simp only[if_true] at h;split at h
   ·rename_i hb;cases h;rw[Bool.and_eq_true] at hb;obtain⟨tr,fs',hs',h1,h2,h4,h3⟩:=qZr hw;simp only[List.nil_append] at h4;have hsz:ops.size=aos.length:=by
     have:=(qSo hag).1;omega
    refine wp_region_any hmx ?_;refine zXw ht hag h1 hb.1 hb.2 (fun i j hij hj=>zP8 h4 i j hij oM) (fun β' F' a' w' R'=>hQ .normal _ _ _ _ _ _ h3 R') ops.size _ (fun _=>false) β F a _ sM (fun i hi=>by simp[hi]) ?_ (fun i o h=>by cases h) ?_
    ·have : ∀ n,cnt (fun _=>false) n=n:=by
      intro n
      induction n with
      | zero=>rfl
      | succ n ih=>simp[cnt,ih]
     exact this _
    ·have e1 : ∀ n,SF (aoD aos) (trV tr) (fun _=>false) (jU fs) n=jU fs:=by
      intro n
      induction n with
      | zero=>rfl
      | succ n ih=>simp[SF,ih]
     have e2 : ∀ n,SH (trW tr) (fun _=>false) (jU hs) n=jU hs:=by
      intro n
      induction n with
      | zero=>rfl
      | succ n ih=>simp[SH,ih]
     rw[e1,e2];exact R.drew
   ·cases h
 | rangeFunc f ps x y _ _=>intro ac h;cases h
 | scope x _=>intro ac h;cases h
 | goto l=>intro ac h;cases h
 | refuse s=>intro ac h;cases h
end Go.Eng
end
section
namespace Go.Eng
theorem qP5 {hm:Nat→Option Ob} : ∀ {n:Nat} {todo ids:List Nat} {obs:List Ob} {fz ids':List Nat} {obs':List Ob} {fz' l:List Nat},(qBs n todo ids obs fz).run hm=some ((ids',obs',fz'),l) → ∃ s,ids'=ids++s
 | n,[],ids,obs,fz,ids',obs',fz',l,h=>by
  have h':(Q.ret (ids,obs,fz):Q _).run hm=some ((ids',obs',fz'),l):=by cases n<;>exact h
  obtain⟨e,_⟩:=qE h';cases e;exact⟨[],sM⟩
 | 0,_::_,ids,obs,fz,ids',obs',fz',l,h=>by cases h
 | n+1,id::todo,ids,obs,fz,ids',obs',fz',l,h=>by
  simp only[qBs] at h;split at h
  ·exact qP5 h
  ·obtain⟨o,l',ho,hs2,_⟩:=yZ h;cases o with
   | dead=>cases hs2
   | live z es wr full=>
    cases wr with
    | false=>cases hs2
    | true=>
     obtain⟨p,l1,l2,hp,hs3,_⟩:=zB hs2;obtain⟨s,hs⟩:=qP5 hs3;exact⟨id::s,by rw[hs];simp⟩
theorem qQy {hm:Nat→Option Ob} : ∀ {m n s:Nat} {rest:List Nat} {obs:List Ob} {fz ids':List Nat} {obs':List Ob} {fz' l:List Nat},(qBs n (List.range' s m++rest) (List.range s) obs fz).run hm=some ((ids',obs',fz'),l) → ∃ t,ids'=List.range (s+m)++t
 | 0,n,s,rest,obs,fz,ids',obs',fz',l,h=>by
  obtain⟨t,ht⟩:=qP5 h;exact⟨t,ht⟩
 | m+1,n,s,rest,obs,fz,ids',obs',fz',l,h=>by
  cases n with
  | zero=>rw[List.range'_succ] at h;cases h
  | succ n=>
   rw[List.range'_succ,List.cons_append] at h;simp only[qBs] at h;split at h
   ·rename_i hc;simp at hc
   ·obtain⟨o,l',ho,hs2,_⟩:=yZ h;cases o with
    | dead=>cases hs2
    | live z es wr full=>
     cases wr with
     | false=>cases hs2
     | true=>
      obtain⟨p,l1,l2,hp,hs3,_⟩:=zB hs2;rw[←List.range_succ,List.append_assoc] at hs3;obtain⟨t,ht⟩:=qQy hs3;exact⟨t,by rw[ht];congr 2;omega⟩
def zVo:List V→V
 | [x]=>x
 | xs=> .tup xs
def jH5 (n:Nat)(vs:List V):Q (V×List Ob):=
 (qDm (zM 4) vs).bind fun p=>(qBs (12+n) (List.range n++qA1 p.1) [] [] []).bind fun q=>
  Q.assert ((q.1.all fun i => !(p.2++q.2.2).contains i)=true) ((qXy (p.2++q.2.2)).bind fun _=> .ret (zVo (qF2 (fun r=>q.1.idxOf r) p.1),q.2.1.map (Ob.ren fun r=>q.1.idxOf r)))
def rsQ (fs:Fs):List (Nat×Option (Nat×Bool))→Q (List V)
 | []=> .ret []
 | (t,none)::r=>(Q.of (jU fs t)).bind fun v=>(rsQ fs r).bind fun vs=> .ret (v::vs)
 | (t,some (n,agg))::r=>(Q.of (jU fs t)).bind fun v=>(qQe n agg [v]).bind fun p=>(rsQ fs r).bind fun vs=> .ret (p.1::vs)
def qY (rs:List (Nat×Option (Nat×Bool)))(n:Nat)(R:V→List Ob→Prop):qF0:=fun e fs hs=>
 match e with
 | .exit _=>False
 | _=>((rsQ fs rs).bind fun vs=>jH5 n vs).wp hs (fun p _=>R p.1 p.2)
def qD {α:Type}:Nat→List α→List (Nat×α)
 | _,[]=>[]
 | i,x::r=>(i,x)::qD (i+1) r
theorem qDy {α:Type} : ∀ {l:List α} {i t:Nat},jU (qD i l) t=if i≤t then l[t-i]? else none
 | [],i,t=>by simp[qD,jU]
 | x::r,i,t=>by
  simp only[qD,jU];by_cases h:i=t
  ·subst h;simp
  ·rw[if_neg h,qDy];by_cases h1:i≤t
   ·have h2:i+1≤t:=oM;rw[if_pos h1,if_pos h2,show t-i=(t-(i+1))+1 by omega];simp
   ·have h2 : ¬ i+1≤t:=oM;rw[if_neg h1,if_neg h2]
def zBk (vs:List Value):Value:=match vs with
 | [x]=>x
 | xs=> .tuple xs.toArray
def qO0 (P:Program):List ResultVar→Option (List (Nat×Option (Nat×Bool)))
 | []=>some []
 | .tmp t::r=>(qO0 P r).map fun l=>(t,none)::l
 | .cell a t::r=>match P.info? t,P.underlying t with
  | some i,some d=>if vL d∨i.size=1 then (qO0 P r).map fun l=>(a,some (i.size,vL d))::l else none
  | _,_=>none
def zVn (tmps:Array Value):ResultVar→Sem Value
 | .tmp t=>pure (tmps.getD t undef)
 | .cell a t=>do loadVar t (←asAddr (tmps.getD a undef))
theorem qSc {cx:Cx}{β:Nat→Option BI}{F:Nat→Prop}{fs:Fs}{hs:Hs}{a:Act}{w:World}(R:Rel cx β F (jU fs) (jU hs) a w) : ∀ {rv:List ResultVar} {rs:List (Nat×Option (Nat×Bool))} {vs:List V} {l:List Nat},qO0 cx.P rv=some rs→(rsQ fs rs).run (jU hs)=some (vs,l)→
  ∃ xs,(rv.mapM (zVn a.tmps)).run cx.P w = .ok xs w∧qAh (qV β F w) vs xs
 | [],rs,vs,l,h,hq=>by
  cases h;obtain⟨rfl,_⟩:=qE hq;exact⟨[],sM,.nil⟩
 | .tmp t::r,rs,vs,l,h,hq=>by
  simp only[qO0,Option.map_eq_some_iff] at h;obtain⟨rs',hrs,rfl⟩:=h;simp only[rsQ] at hq;obtain⟨v,hv,hq⟩:=qH hq;obtain⟨us,l1,l2,hu,hq,_⟩:=zB hq;obtain⟨rfl,_⟩:=qE hq;obtain⟨x,h1,h2⟩:=R.fr t v hv;obtain⟨xs,h3,h4⟩:=qSc R hrs hu;refine⟨x::xs,?_,.cons h2 h4⟩;rw[List.mapM_cons,Sem.run_bind];have e:(zVn a.tmps (.tmp t)).run cx.P w = .ok x w:=by simp[zVn,h1]
  rw[e,Result.andThen];simp only[Sem.run_bind,h3,Result.andThen];simp
 | .cell t ty::r,rs,vs,l,h,hq=>by
  simp only[qO0] at h;split at h
  ·rename_i i d hi hd;split at h
   ·rename_i hcond;simp only[Option.map_eq_some_iff] at h;obtain⟨rs',hrs,rfl⟩:=h;simp only[rsQ] at hq;obtain⟨v,hv,hq⟩:=qH hq;obtain⟨⟨u,W⟩,l0,l3,hl,hq,_⟩:=zB hq;obtain⟨us,l1,l2,hu,hq,_⟩:=zB hq;obtain⟨rfl,_⟩:=qE hq;obtain⟨x,h1,h2⟩:=R.fr t v hv;obtain⟨xs,h3,h4⟩:=qSc R hrs hu;have hx:a.eval (.tmp t)=x:=by simp[Act.eval,h1]
    have han:qPy cx.P ty (.tmp t)=some (.load i.size (vL d),[.tmp t]):=by simp[qPy,hi,hd,hcond]
    obtain⟨_,y,h5,h6⟩:=zNq (nb:=0) R han (vs:=[v]) (.cons (by rw[hx];exact h2) .nil) (by simpa [sem] using hl);rw[hx] at h5;have hptr : ∃ ad,x = .pointer (some ad):=by
     cases v<;>simp only[qQe] at hl<;>(try (cases hl;done))
     ·cases h2;exact⟨_,rfl⟩
     ·cases h2;exact⟨_,rfl⟩
    obtain⟨ad,rfl⟩:=hptr;refine⟨y::xs,?_,.cons h6 h4⟩;rw[List.mapM_cons,Sem.run_bind];have e:(zVn a.tmps (.cell t ty)).run cx.P w = .ok y w:=by
     have e0:a.tmps.getD t undef = .pointer (some ad):=by simp[h1]
     rw[←h5];simp only[zVn,e0,Instr.loadAt,Instr.sureAddr,asAddr]
    rw[e,Result.andThen];simp only[Sem.run_bind,h3,Result.andThen];simp
   ·cases h
  ·cases h
theorem qTy {P:Program}{fn:Func}{tmps:Array Value}{w:World}{xs:List Value}(h:(fn.results.toList.mapM (zVn tmps)).run P w = .ok xs w):(results fn tmps).run P w = .ok (zBk xs) w:=by
 have e:results fn tmps=(do
   let vs ←fn.results.mapM (zVn tmps)
   pure (if h:vs.size=1 then vs[0] else .tuple vs)):=by
  unfold results;congr 1
 rw[e,Array.mapM_eq_mapM_toList,Sem.run_bind];have k2:(Functor.map List.toArray (fn.results.toList.mapM (zVn tmps))).run P w = .ok xs.toArray w:=by
  rw[map_eq_pure_bind,Sem.run_bind,h,Result.andThen];simp
 rw[k2,Result.andThen];cases xs with
 | nil=>simp[zBk]
 | cons t r=>cases r with
  | nil=>simp[zBk]
  | cons t2 r=>simp[zBk]
theorem zBl {β:Nat→Option BI}{F:Nat→Prop}{w:World}{vs:List V}{us:List Value}(h:qAh (qV β F w) vs us):qV β F w (zVo vs) (zBk us):=by
 have tup:qV β F w (.tup vs) (.tuple us.toArray):=by
  refine .tup vs _ (by simpa using h.length.symm) (fun i c u hc hu=>?_);obtain⟨y,h1,h2⟩:=h.get' i c hc;have:us[i]?=some u:=by simpa using hu
  rw[this] at h1;cases h1;exact h2
 cases h with
 | nil=>exact tup
 | cons h1 t=>cases t with
  | nil=>exact h1
  | cons h2 t=>exact tup
theorem zE5 {P:Program}{G:Gl}{tab:Tab}{f:FuncId}{fn:Func}{c:Code}{ac:AC}{hints:List (Nat×List Nat)}{rs:List (Nat×Option (Nat×Bool))}(hf:P.funcs[f]?=some fn)(hb:fn.body=some c)(hann:ann P fn.ntmps hints c=some ac)(hmx:P.follows .mixedOrders=true)
  (ht:qFk P G tab) (hrs:qO0 P fn.results.toList=some rs) {aS:List V} {ins:List Ob} {r:V} {outs:List Ob} (hn:aS.length≤fn.ntmps) (hi:ins.length≤100)
  (h:ac.wp tab G (qD 0 aS) (qD 0 ins) (qY rs ins.length (fun r' outs'=>r'=r∧outs'=outs))):qXf P G f aS ins r outs:=by
 intro w β F vals env fits hargs;have hd0 : ∀ k bi,β k=some bi→k<100:=by
  intro k bi h;rcases Nat.lt_or_ge k ins.length with h1 | h1
  ·omega
  ·rw[fits.dom k h1] at h;cases h
 let cx:Cx := { P,w0:=w,F0:=F,inb:=fun b => ∃ k bi,β k=some bi∧bi.blk=some b,nt:=fn.ntmps,gl:=G,β0:=β,d0:=hd0 }
 have hlen:aS.length=vals.size:=by simpa using hargs.length
 have lookAs : ∀ t v,jU (qD 0 aS) t=some v→aS[t]?=some v:=by
  intro t v h;simpa [qDy] using h
 have lookIns : ∀ t v,jU (qD 0 ins) t=some v→ins[t]?=some v:=by
  intro t v h;simpa [qDy] using h
 have R0:Rel cx β F (jU (qD 0 aS)) (jU (qD 0 ins)) { tmps:=vals++Array.replicate (fn.ntmps-vals.size) undef,defers:=[] } w:=by
  refine⟨by simp[cx];omega,rfl,fun t v hv=>?_,fun id o ho=>?_,fun id hn=>?_,fun i j bi bj b oi oj h1 h2 h3 h4 _ _ _ _=>fits.inj i j bi bj b h1 h2 h3 h4,rfl,rfl,rfl,Nat.le_refl _,fun _ _ _=>rfl,fun id z es full bi b h1 h2 h3=> .inr ⟨?_,id,bi,h2,h3⟩,fun b hb=>?_,fun b hb=>?_,env.Fw,fun _ _=>Iff.rfl,fun id bi b h1 h2=>(fits.blt id bi b h1 h2).1,fun g cs hg=>?_,fun _ _ h=>h,env.gs⟩
  ·obtain⟨x,h1,h2⟩:=hargs.get' t v (lookAs t v hv);refine⟨x,?_,h2⟩;have hlt:t<vals.size:=by
    have:=(List.getElem?_eq_some_iff.1 (lookAs t v hv)).1;omega
   rw[Array.getElem?_append_left hlt];simpa using h1
  ·obtain⟨bi,h1,h2,_⟩:=fits.ok id o (lookIns id o ho);exact⟨bi,h1,h2⟩
  ·refine fits.dom id ?_;rcases Nat.lt_or_ge id ins.length with h1 | h1
   ·rw[qDy] at hn;simp[h1] at hn
   ·exact h1
  ·have:=(List.getElem?_eq_some_iff.1 (lookIns id _ h1)).1;omega
  ·obtain⟨k,bi,h1,h2⟩:=hb;exact (fits.blt k bi b h1 h2).2
  ·obtain⟨k,bi,h1,h2⟩:=hb;exact (fits.blt k bi b h1 h2).1
  ·exact (env.gl g cs hg).mono (fun _ _ h=>by cases h) (fun _ h=>h) (fun _ _=>rfl)
 refine calls_of_wp hf hb (AC.sound (cx:=cx) ht hmx hann h R0 (fun e fs hs βR FR a w' hq R=>?_));have fin:((rsQ fs rs).bind fun vs=>jH5 ins.length vs).wp hs (fun p _=>p.1=r∧p.2=outs)→a.defers=[] ∧ ∃ v,(results fn a.tmps).run P w' = .ok v w' ∧ ∃ x β' F',Ending.returned v = .returned x∧qRz w β F ins r outs x β' F' w':=by
  intro hq;rw[Q.wp_bind] at hq;obtain⟨vs,l0,hvs,⟨r',outs'⟩,l,hrun,e1,e2⟩:=hq;obtain⟨xs,hxs,hall⟩:=qSc (cx:=cx) R hrs hvs;refine⟨R.dfr,_,qTy hxs,?_⟩
  ·simp only at e1 e2;subst e1 e2;unfold jH5 at hrun;obtain⟨p,l1,l2,hp,hrun,_⟩:=zB hrun;obtain⟨q,l3,l4,hqq,hrun,_⟩:=zB hrun;obtain⟨hdis,hrun⟩:=qM hrun;obtain⟨fw,l5,l6,hfw,hrun,_⟩:=zB hrun;obtain⟨e,_⟩:=qE hrun;simp only[Prod.mk.injEq] at e;obtain⟨rfl,rfl⟩:=e;obtain⟨ids,obs,fzq⟩:=q;obtain⟨t,htt⟩:=qQy (s:=0) (m:=ins.length) (n:=12+ins.length) (rest:=qA1 p.1) (by simpa [List.range_eq_range'] using hqq);have hidk : ∀ k,k<ins.length→ids[k]?=some k:=by
    intro k hk;rw[htt,List.getElem?_append_left (by simpa using hk)];simp[hk]
   obtain⟨F1,R1,hFF,hnd,hlo,hfwl,hlive,fits',hres⟩:=zHe R hp hqq (fun r h=>by simp[h]) hdis hfw hall;have hβk : ∀ k bi,β k=some bi→βR k=some bi:=R1.ext0;have hklt : ∀ k bi,β k=some bi→k<ins.length:=by
    intro k bi h;rcases Nat.lt_or_ge k ins.length with h1 | h1
    ·exact h1
    ·rw[fits.dom k h1] at h;cases h
   refine⟨_,qKz ids βR,F1,rfl,fits',zBl hres,fun k hk=>?_,fun k bi b hk h1 h2=>?_,fun b hb=>R1.F0 b hb,R1.Fw,R1.os,R1.tape,R1.output,R1.size,fun b hb hk=>R1.ext b hb (fun ⟨k,bi,h1,h2⟩=>hk k bi h1 h2)⟩
   ·obtain⟨bi,h1,_⟩:=fits.ok k ins[k] (by simp[hk]);simp[qKz,hidk k hk,hβk k bi h1,h1]
   ·unfold qKz at h1;rw[Option.bind_eq_some_iff] at h1;obtain⟨id,hid,h1⟩:=h1;obtain⟨z,es,full,_,hl⟩:=hlive k id hid;rcases R1.old id z es full bi b hl h1 h2 with h | ⟨_,k0,bi0,g1,g2⟩
    ·exact h
    ·exfalso;have hk0:=hklt k0 bi0 g1;obtain⟨z0,es0,full0,_,hl0⟩:=hlive k0 k0 (hidk k0 hk0);have e:=R1.inj id k0 bi bi0 b _ _ h1 (hβk k0 bi0 g1) h2 g2 hl hl0 sM sM;subst e;have hi1:k<ids.length:=(List.getElem?_eq_some_iff.1 hid).1;have hi2:id<ids.length:=(List.getElem?_eq_some_iff.1 (hidk id hk0)).1;have:=qD0 hnd hi1 hi2 (by
      have a1:=hid;have a2:=hidk id hk0;rw[List.getElem?_eq_getElem hi1] at a1;rw[List.getElem?_eq_getElem hi2] at a2;rw[Option.some.inj a1,Option.some.inj a2])
     omega
 cases e with
 | normal=>exact fin hq
 | ret=>exact fin hq
 | exit id=>exact hq.elim
end Go.Eng
end
