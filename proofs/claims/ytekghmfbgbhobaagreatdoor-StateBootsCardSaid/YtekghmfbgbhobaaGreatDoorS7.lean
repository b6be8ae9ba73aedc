/- A part of an abstract machine, its walks, their tie. -/
import Derived.Test.YtekghmfbgbhobaaGreatDoorS6
import Derived.BigCall
set_option linter.all false
section
namespace Go.Eng
variable {β:Nat→Option BI} {F:Nat→Prop} {w:World} {cx:Cx} {fm:Nat→Option V} {hm:Nat→Option Ob} {a:Act}
def gam (ids:List Nat)(nb k:Nat):Nat:=
 match ids[k]? with
 | some id=>id
 | none=>nb+(k-ids.length)
def qNz (ids:List Nat)(nb:Nat):Nat→List Ob→Wr
 | _,[]=>[]
 | k,o::r=>(gam ids nb k,o.ren (gam ids nb))::qNz ids nb (k+1) r
theorem qQa (ids:List Nat)(nb:Nat) : ∀ (outs:List Ob) (k:Nat) (p:Nat×Ob),p∈qNz ids nb k outs → ∃ j,j<outs.length∧p.1=gam ids nb (k+j)
 | [],_,p,h=>by simp[qNz] at h
 | o::r,k,p,h=>by
  simp only[qNz,List.mem_cons] at h;rcases h with rfl | h
  ·exact⟨0,sM,rfl⟩
  ·obtain⟨j,h1,h2⟩:=qQa ids nb r (k+1) p h;exact⟨j+1,soM,by rw[h2];congr 1;omega⟩
theorem qEl : ∀ {W:Wr} {hm:Nat→Option Ob} {id:Nat},(∀ p∈W,p.1≠id)→upd hm W id=hm id
 | [],_,_,_=>rfl
 | (i,o)::r,hm,id,h=>by
  rw[upd,qEl (fun p hp=>h p (by simp[hp]))];rw[if_neg (fun e=>h (i,o) sM e.symm)]
theorem zHu {ids:List Nat}{nb:Nat} : ∀ {outs:List Ob} {hm:Nat→Option Ob} {k:Nat},(∀ i j,i<k+outs.length→j<k+outs.length→gam ids nb i=gam ids nb j→i=j)→
  ∀ {j:Nat} {o:Ob},outs[j]?=some o→upd hm (qNz ids nb k outs) (gam ids nb (k+j))=some (o.ren (gam ids nb))
 | [],_,_,_,j,o,h=>by simp at h
 | p::r,hm,k,hinj,j,o,h=>by
  simp only[qNz,upd];cases j with
  | zero=>
   simp at h;subst h;rw[qEl (fun q hq=>by
    obtain⟨i,h1,h2⟩:=qQa ids nb r (k+1) q hq;intro e;rw[h2] at e;have:=hinj _ _ soM sM e;omega)]
   simp
  | succ j=>
   simp at h;have:=zHu (hm:=fun i=>if i=gam ids nb k then some (p.ren (gam ids nb)) else hm i) (k:=k+1) (fun a b ha hb=>hinj a b (by simp at ha ⊢;omega) (by simp at hb ⊢;omega)) h;rw[show k+(j+1)=k+1+j by omega];exact this
theorem qD0 {l:List Nat}(h:l.Nodup){i j:Nat}(hi:i<l.length)(hj:j<l.length)(e:l[i]=l[j]):i=j:=by
 unfold List.Nodup at h;rw[List.pairwise_iff_getElem] at h;rcases Nat.lt_trichotomy i j with h1 | h1 | h1
 ·exact absurd e (h i j hi hj h1)
 ·exact h1
 ·exact absurd e.symm (h j i hj hi h1)
theorem Rel.called {FA:Nat→Prop}{hmA:Nat→Option Ob}(R:Rel cx β FA fm hmA a w){ids:List Nat}(hnd:ids.Nodup)(hlive : ∀ (k id:Nat),ids[k]?=some id → ∃ z es full,hmA id=some (.live z es true full))
  {βp:Nat→Option BI} {F':Nat→Prop} {w':World} {outs:List Ob} {nb:Nat} (fits:zT3 βp F' w' outs) (old : ∀ (k id:Nat),ids[k]?=some id→βp k=β id)
  (new : ∀ (k:Nat) (bi:BI) (b:Nat),ids.length≤k→βp k=some bi→bi.blk=some b→w.heap.size≤b) (hF : ∀ b,b<w.heap.size→(F' b↔FA b)) (hFw : ∀ b,F' b→b<w'.heap.size)
  (hos:w'.os=w.os) (htp:w'.tape=w.tape) (hout:w'.output=w.output) (hsz:w.heap.size≤w'.heap.size)
  (frame : ∀ b,b<w.heap.size→(∀ (k id:Nat) (bi:BI),ids[k]?=some id→β id=some bi→bi.blk≠some b)→w'.heap[b]?=w.heap[b]?)
  (hlen:ids.length≤outs.length) (fresh : ∀ j,j<outs.length-ids.length→hmA (nb+j)=none) :
  ∃ βn,Rel cx βn F' fm (upd hmA (qNz ids nb 0 outs)) a w'∧(∀ k bi,βp k=some bi→βn (gam ids nb k)=some bi)∧(∀ i bi,β i=some bi→βn i=some bi):=by
 have gold : ∀ k id,ids[k]?=some id→gam ids nb k=id:=fun k id h=>by simp[gam,h]
 have gnew : ∀ k,ids.length≤k→gam ids nb k=nb+(k-ids.length):=fun k h=>by simp[gam,List.getElem?_eq_none h]
 have glt : ∀ k,k<ids.length → ∃ id,ids[k]?=some id:=fun k h=>⟨ids[k],by simp[h]⟩
 have ginj : ∀ i j,i<0+outs.length→j<0+outs.length→gam ids nb i=gam ids nb j→i=j:=by
  intro i j hi hj h;rcases Nat.lt_or_ge i ids.length with h1 | h1<;>rcases Nat.lt_or_ge j ids.length with h2 | h2
  ·obtain⟨x,hx⟩:=glt i h1;obtain⟨y,hy⟩:=glt j h2;rw[gold i x hx,gold j y hy] at h;subst h;have e1:ids[i]=x:=by simpa [h1] using hx
   have e2:ids[j]=x:=by simpa [h2] using hy
   exact qD0 hnd h1 h2 (e1.trans e2.symm)
  ·obtain⟨x,hx⟩:=glt i h1;obtain⟨z,es,full,hl⟩:=hlive i x hx;rw[gold i x hx,gnew j h2] at h;rw[h,fresh _ oM] at hl;cases hl
  ·obtain⟨y,hy⟩:=glt j h2;obtain⟨z,es,full,hl⟩:=hlive j y hy;rw[gold j y hy,gnew i h1] at h;rw[←h,fresh _ oM] at hl;cases hl
  ·rw[gnew i h1,gnew j h2] at h;omega
 let inr:Nat→Prop:=fun id=>nb≤id∧id<nb+(outs.length-ids.length)
 have hdec : ∀ id,Decidable (inr id):=fun id=>by unfold inr;infer_instance
 let βn:Nat→Option BI:=fun id=>if nb≤id∧id<nb+(outs.length-ids.length) then βp (ids.length+(id-nb)) else β id
 have bnew : ∀ id,inr id→βn id=βp (ids.length+(id-nb)):=fun id h=>if_pos h
 have bold : ∀ id,¬ inr id→βn id=β id:=fun id h=>if_neg h
 have inrNone : ∀ id,inr id→hmA id=none:=by
  intro id h;have:=fresh (id-nb) (by have:=h.1;have:=h.2;omega);rwa [show nb+(id-nb)=id by have:=h.1;omega] at this
 have bext : ∀ i bi,β i=some bi→βn i=some bi:=by
  intro i bi h;rw[bold i (fun hi=>by rw[R.dom i (inrNone i hi)] at h;cases h)];exact h
 have bgam : ∀ k bi,βp k=some bi→βn (gam ids nb k)=some bi:=by
  intro k bi h;have hk:k<outs.length:=by
   rcases Nat.lt_or_ge k outs.length with h1 | h1
   ·exact h1
   ·rw[fits.dom k h1] at h;cases h
  rcases Nat.lt_or_ge k ids.length with h1 | h1
  ·obtain⟨id,hid⟩:=glt k h1;rw[gold k id hid];exact bext id bi (by rw[←old k id hid];exact h)
  ·rw[gnew k h1,bnew _ ⟨oM,oM⟩,show ids.length+(nb+(k-ids.length)-nb)=k by omega];exact h
 have key : ∀ id,(∃ k o,outs[k]?=some o∧gam ids nb k=id∧upd hmA (qNz ids nb 0 outs) id=some (o.ren (gam ids nb)))∨((∀ k,k<outs.length→gam ids nb k≠id)∧upd hmA (qNz ids nb 0 outs) id=hmA id):=by
  intro id;by_cases h : ∃ k,k<outs.length∧gam ids nb k=id
  ·obtain⟨k,hk,hg⟩:=h;left;have:=zHu (hm:=hmA) (ids:=ids) (nb:=nb) (outs:=outs) (k:=0) ginj (j:=k) (o:=outs[k]) (by simp[hk]);rw[Nat.zero_add,hg] at this;exact⟨k,outs[k],by simp[hk],hg,this⟩
  ·right;have hne : ∀ k,k<outs.length→gam ids nb k≠id:=fun k hk e=>h ⟨k,hk,e⟩
   refine⟨hne,qEl (fun p hp=>?_)⟩;obtain⟨j,h1,h2⟩:=qQa ids nb outs 0 p hp;rw[h2,Nat.zero_add];exact hne j h1
 have hFA : ∀ b,FA b→F' b:=fun b hb=>(hF b (R.Fw b hb)).2 hb
 have hFblk : ∀ b,FA b→w'.heap[b]?=w.heap[b]?:=by
  intro b hb;refine frame b (R.Fw b hb) (fun k id bi hk hbi hbk=>?_);obtain⟨z,es,full,hl⟩:=hlive k id hk;exact R.notF hl hbi hbk hb
 have where_ : ∀ id o bi b,upd hmA (qNz ids nb 0 outs) id=some o→o≠ .dead→βn id=some bi→bi.blk=some b→
   (inr id∧w.heap.size≤b∧βp (ids.length+(id-nb))=some bi)∨(¬ inr id∧β id=some bi∧b<w.heap.size ∧ ∃ o',hmA id=some o'∧o'≠ .dead):=by
  intro id o bi b ho hd hb hbk;by_cases hi:inr id
  ·rw[bnew id hi] at hb;exact .inl ⟨hi,new _ bi b oM hb hbk,hb⟩
  ·rw[bold id hi] at hb;refine .inr ⟨hi,hb,R.blt id bi b hb hbk,?_⟩;rcases key id with⟨k,o2,hk,hg,hu⟩ | ⟨hne,hu⟩
   ·have hkl:k<outs.length:=(List.getElem?_eq_some_iff.1 hk).1;rcases Nat.lt_or_ge k ids.length with h1 | h1
    ·obtain⟨x,hx⟩:=glt k h1;rw[gold k x hx] at hg;subst hg;obtain⟨z,es,full,hl⟩:=hlive k x hx;exact⟨_,hl,sM⟩
    ·rw[gnew k h1] at hg;exact absurd ⟨oM,oM⟩ hi
   ·rw[hu] at ho;exact⟨o,ho,hd⟩
 refine⟨βn,⟨R.tsz,R.dfr,fun t v hv=>?_,fun id o ho=>?_,fun id hn=>?_,fun i j bi bj b oi oj h1 h2 h3 h4 h5 h6 h7 h8=>?_,hos.trans R.os,htp.trans R.tape,hout.trans R.output,Nat.le_trans R.size hsz,fun b hb hib=>?_,fun id z es full bi b h1 h2 h3=>?_,fun b hib hFb=>?_,R.inw,hFw,fun b hb=>?_,fun id bi b h1 h2=>?_,fun g cs hg=>(R.gl g cs hg).mono bext hFA hFblk,fun k bi h=>bext _ _ (R.ext0 k bi h),fun g cs hg=>(R.gs g cs hg).mono (hFblk g (jPp (R.gl g cs hg)))⟩,bgam,bext⟩
 ·obtain⟨x,h1,h2⟩:=R.fr t v hv;exact⟨x,h1,h2.mono bext hFA hFblk⟩
 ·rcases key id with⟨k,o2,hk,hg,hu⟩ | ⟨hne,hu⟩
  ·rw[hu] at ho;cases ho;obtain⟨bi,h1,h2,_⟩:=fits.ok k o2 hk;refine⟨bi,by rw[←hg];exact bgam k bi h1,?_⟩;exact qFj.ren (β:=βn) (ρ:=gam ids nb) (h2.mono (β':=fun k=>βn (gam ids nb k)) bgam (fun _ h=>h) (fun _ _=>rfl) (fun _ _ _=>⟨rfl,fun h=>h⟩))
  ·rw[hu] at ho;obtain⟨bi,h1,h2⟩:=R.hp id o ho;refine⟨bi,bext id bi h1,h2.mono bext hFA hFblk (fun b hbk hd=>⟨frame b (R.blt id bi b h1 hbk) (fun k id' bi' hk hbi' hbk'=>?_),fun h=>(hF b (R.blt id bi b h1 hbk)).1 h⟩)⟩;obtain⟨z,es,full,hl⟩:=hlive k id' hk;have:=R.inj id' id bi' bi b _ o hbi' h1 hbk' hbk hl ho sM hd;have hkl:k<ids.length:=(List.getElem?_eq_some_iff.1 hk).1;exact hne k oM (by rw[gold k id' hk];exact this)
 ·rcases key id with⟨k,o2,hk,hg,hu⟩ | ⟨hne,hu⟩
  ·rw[hu] at hn;cases hn
  ·rw[hu] at hn;rw[bold id (fun hi=>by
    have:=hne (ids.length+(id-nb)) (by have:=hi.1;have:=hi.2;omega);rw[gnew _ oM] at this;have h1:=hi.1;omega)]
   exact R.dom id hn
 ·rcases where_ i oi bi b h5 h7 h1 h3 with⟨a1,a2,a3⟩ | ⟨a1,a2,a3,o1,a4,a5⟩<;>rcases where_ j oj bj b h6 h8 h2 h4 with⟨b1,b2,b3⟩ | ⟨b1,b2,b3,o2,b4,b5⟩
  ·have:=fits.inj _ _ bi bj b a3 b3 h3 h4;have e1:=a1.1;have e2:=b1.1;omega
  ·omega
  ·omega
  ·exact R.inj i j bi bj b o1 o2 a2 b2 h3 h4 a4 b4 a5 b5
 ·rw[frame b (Nat.lt_of_lt_of_le hb R.size) (fun k id bi hk hbi hbk=>?_)]
  ·exact R.ext b hb hib
  ·obtain⟨z,es,full,hl⟩:=hlive k id hk;rcases R.old id z es full bi b hl hbi hbk with h | h
   ·omega
   ·exact hib h.2
 ·rcases where_ id _ bi b h1 sM h2 h3 with⟨a1,a2,a3⟩ | ⟨a1,a2,a3,o1,a4,a5⟩
  ·exact .inl (Nat.le_trans R.size a2)
  ·rcases key id with⟨k,o2,hk,hg,hu⟩ | ⟨hne,hu⟩
   ·have hkl:k<outs.length:=(List.getElem?_eq_some_iff.1 hk).1;rcases Nat.lt_or_ge k ids.length with h4 | h4
    ·obtain⟨x,hx⟩:=glt k h4;rw[gold k x hx] at hg;subst hg;obtain⟨z',es',full',hl⟩:=hlive k x hx;exact R.old x z' es' full' bi b hl a2 h3
    ·rw[gnew k h4] at hg;exact absurd ⟨oM,oM⟩ a1
   ·rw[hu] at h1;exact R.old id z es full bi b h1 a2 h3
 ·have:=R.inw b hib;exact R.inF b hib ((hF b (by have:=R.size;omega)).1 hFb)
 ·exact (hF b (by have:=R.size;omega)).trans (R.F0 b hb)
 ·by_cases hi:inr id
  ·rw[bnew id hi] at h1;exact (fits.blt _ bi b h1 h2).1
  ·rw[bold id hi] at h1;have:=R.blt id bi b h1 h2;omega
end Go.Eng
end
section
namespace Go.Eng
variable {β:Nat→Option BI} {F:Nat→Prop} {w:World} {cx:Cx} {fm:Nat→Option V} {hm:Nat→Option Ob} {a:Act}
abbrev FnS:=List V→List Ob→Option (V×List Ob)
abbrev Tab:=List (FuncId×FnS)
def Tab.look:Tab→FuncId→Option FnS
 | [],_=>none
 | (g,s)::r,f=>if g=f then some s else Tab.look r f
def qSn (P:Program)(f:FuncId)(vals:Array Value)(w:World)(R:Ending→World→Prop):Prop:=
 (∃ g,(callFunc f vals).run P w = .ok (.enter g vals) w∧Calls P g vals w R)∨(∃ x w',(callFunc f vals).run P w = .ok (.value x) w'∧R (.returned x) w')
theorem qSn.mono {P:Program}{f:FuncId}{vals:Array Value}{w:World}{R R':Ending→World→Prop}(h:qSn P f vals w R)(hr : ∀ e w',R e w'→R' e w'):qSn P f vals w R':=by
 rcases h with⟨g,h1,h2⟩ | ⟨x,w',h1,h2⟩
 ·exact .inl ⟨g,h1,h2.mono hr⟩
 ·exact .inr ⟨x,w',h1,hr _ _ h2⟩
def jBf (P:Program)(G:Nat→Option (List T))(f:FuncId)(aS:List V)(ins:List Ob)(r:V)(outs:List Ob):Prop:=
 ∀ (w:World) (β:Nat→Option BI) (F:Nat→Prop) (vals:Array Value),zJ8 G F w→zT3 β F w ins→qAh (qV β F w) aS vals.toList→
  qSn P f vals w (fun e w' => ∃ x β' F',e = .returned x∧qRz w β F ins r outs x β' F' w')
theorem qXf.e {P:Program}{G:Nat→Option (List T)}{f:FuncId}{aS:List V}{ins:List Ob}{r:V}{outs:List Ob}(hc : ∀ args w,(callFunc f args).run P w = .ok (.enter f args) w)(h:qXf P G f aS ins r outs):jBf P G f aS ins r outs:=
 fun w β F vals h1 h2 h3=> .inl ⟨f,hc vals w,h w β F vals h1 h2 h3⟩
def FOk (P:Program)(G:Nat→Option (List T))(f:FuncId)(s:FnS):Prop := ∀ aS ins r outs,s aS ins=some (r,outs)→jBf P G f aS ins r outs
theorem FOk.of {P:Program}{G:Nat→Option (List T)}{f:FuncId}{s:FnS}(hc : ∀ args w,(callFunc f args).run P w = .ok (.enter f args) w)(h : ∀ aS ins r outs,s aS ins=some (r,outs)→qXf P G f aS ins r outs):FOk P G f s:=
 fun aS ins r outs hs=>(h aS ins r outs hs).e hc
def qFk (P:Program)(G:Nat→Option (List T))(tab:Tab):Prop := ∀ f s,tab.look f=some s→FOk P G f s
theorem qFk.nil {P:Program}{G:Nat→Option (List T)}:qFk P G []:=fun _ _ h=>by cases h
theorem qFk.cons {P:Program}{G:Nat→Option (List T)}{f:FuncId}{s:FnS}{tab:Tab}(h:FOk P G f s)(ht:qFk P G tab):qFk P G ((f,s)::tab):=by
 intro g s' hg;unfold Tab.look at hg;split at hg
 ·cases hg;subst_vars;exact h
 ·exact ht g s' hg
def zEf {α:Type}:Nat→Nat→Q α→Q α
 | _,0,k=>k
 | nb,n+1,k=> .free nb (zEf (nb+1) n k)
theorem zAs {α:Type} : ∀ {n nb:Nat} {q:Q α} {x:α} {l:List Nat},(zEf nb n q).run hm=some (x,l)→(∀ j,j<n→hm (nb+j)=none) ∧ ∃ l',q.run hm=some (x,l')
 | 0,nb,q,x,l,h=>⟨by intro j hj;omega,l,h⟩
 | n+1,nb,q,x,l,h=>by
  obtain⟨h0,l',h1,_⟩:=kM h;obtain⟨h2,h3⟩:=zAs h1;refine⟨fun j hj=>?_,h3⟩;cases j with
  | zero=>exact h0
  | succ j=>rw[show nb+(j+1)=nb+1+j by omega];exact h2 j oM
def qUz (tab:Tab)(f:FuncId)(keep:Bool)(vs:List V)(nb:Nat):Q (V×Wr):=
 (qS0 keep vs).bind fun cp=>
  (Q.of ((tab.look f).bind fun s=>s (qF2 (fun r=>cp.ids.idxOf r) cp.aS) (cp.obs.map (Ob.ren fun r=>cp.ids.idxOf r)))).bind fun p=>
   Q.assert (cp.ids.length≤p.2.length∧(keep=true∨p.1.flat=true∧zEc p.2=true))
    (zEf nb (p.2.length-cp.ids.length) (.ret (p.1.ren (gam cp.ids nb),(if keep then cp.fw else [])++qNz cp.ids nb 0 p.2)))
theorem qW7 : ∀ {W W':Wr} {hm:Nat→Option Ob},upd hm (W++W')=upd (upd hm W) W'
 | [],_,_=>rfl
 | (i,o)::r,W',hm=>by simp only[List.cons_append,upd];exact qW7
theorem qR9 (cs:List V):(V.mk cs).cells=cs:=by
 unfold V.mk;split
 ·rename_i ts h;rw[qDj h];rfl
 ·rfl
theorem zAj (R:Rel cx β F fm hm a w){n:Nat}{x x':V}{fz l fz':List Nat}(h:(zM n x).run hm=some ((x',fz),l))(hsub : ∀ i∈fz,i∈fz')(hz:x.cells≠[])
  (hx : ∀ (j:Nat) (y:V),x.cells[j]?=some y → ∃ u,qV β F w y u∧u.oneCell'=true):x'.cells.length=x.cells.length∧
  ∀ (j:Nat) (y y':V) (u:Value),x.cells[j]?=some y→x'.cells[j]?=some y'→qV β F w y u→u.oneCell'=true→qV β (qRy β F fz') w y' u∧y'.noSl=true ∧ ∀ r∈y'.refs,r∈x'.refs:=by
 have one:x.cells=[x]→x'.cells.length=x.cells.length∧
  ∀ (j:Nat) (y y':V) (u:Value),x.cells[j]?=some y→x'.cells[j]?=some y'→qV β F w y u→u.oneCell'=true→qV β (qRy β F fz') w y' u∧y'.noSl=true ∧ ∀ r∈y'.refs,r∈x'.refs:=by
  intro hc;obtain⟨u,hu,ho⟩:=hx 0 x (by rw[hc];rfl);have h1:=wN R h hu hsub;have h2:=h1.one_cells ho;rw[hc,h2];refine⟨rfl,fun j y y' u' hy hy' hr _=>?_⟩;cases j with
  | succ j=>simp at hy
  | zero=>
   simp at hy hy';subst hy hy';exact⟨wN R h hr hsub,qOh h,fun _ h=>h⟩
 cases x with
 | t y=>
  cases n<;>(
   obtain⟨h1,_⟩:=qE h;cases h1;refine⟨rfl,fun j y1 y' u hy hy' hr _=>?_⟩;rw[hy] at hy';cases hy';refine⟨hr.mono (fun _ _ h=>h) (fun _ h=> .inl h) (fun _ _=>rfl),?_⟩;obtain⟨c,hc,rfl⟩:=xN hy;exact⟨rfl,by simp[V.refs]⟩)
 | agg cs=>
  cases n with
  | zero=>cases h
  | succ n=>
   simp only[zM] at h;obtain⟨p,l1,l2,hp,h,_⟩:=zB h;obtain⟨h1,_⟩:=qE h;cases h1;obtain⟨g1,g2⟩:=yY hp;rw[qR9];refine⟨g1,fun j y y' u hy hy' hr _=>?_⟩;obtain⟨fzi,li,m1,m2⟩:=g2 j y y' hy hy';refine⟨wN R m1 hr (fun i hi=>hsub i (m2 i hi)),qOh m1,fun r hr=>?_⟩;unfold V.mk;split
   ·rename_i ts hts;have:=List.mem_of_getElem? hy';rw[qDj hts] at this;simp only[List.mem_map] at this;obtain⟨t,_,rfl⟩:=this;simp[V.refs] at hr
   ·exact qD3 (List.mem_of_getElem? hy') hr
 | nil=>exact one rfl
 | ref id i f=>exact one rfl
 | bd g id i f=>exact one rfl
 | bq=>exact one rfl
 | ro cs=>exact one rfl
 | sl id off len=>exact one rfl
 | tup cs=>exact one rfl
 | fn f cs=>exact one rfl
theorem zMq (R:Rel cx β F fm hm a w){F1:Nat→Prop}{fz':List Nat}(hF1 : ∀ b,F1 b↔qRy β F fz' b){z:Nat}{es es':List V}{full:Bool}{bi:BI}{fz l:List Nat}(h:(qDl es).run hm=some ((es',fz),l))(hsub : ∀ i∈fz,i∈fz')
  (hok:qFj β F w bi (.live z es true full)) (hnF : ∀ b,bi.blk=some b → ¬ F1 b) {ids:List Nat} (hrefs : ∀ r∈qA1 es',r∈ids) :
  qFj (qKz ids β) F1 w bi ((Ob.live z es' true full).ren (fun r=>ids.idxOf r)):=by
 have hF:F1=qRy β F fz':=by funext b;exact propext (hF1 b)
 subst hF;unfold qFj at hok;obtain⟨g1,g2,g3⟩:=hok;have hlen:es'.length=es.length:=by
  unfold qDl at h;split at h
  ·obtain⟨e,_⟩:=qE h;cases e;rfl
  ·exact (yY h).1
 simp only[Ob.ren,zN,qFj,List.length_map,hlen];refine⟨g1,g2,?_⟩;cases hb:bi.blk with
 | none=>
  simp only[hb] at g3 ⊢;refine⟨?_,g3.2⟩;rw[g3.1] at hlen;simp at hlen;rw[hlen];rfl
 | some b=>
  simp only[hb] at g3 ⊢;obtain⟨c,e,fzz,k1,k2,k3,k4,k5,k6,k7⟩:=g3;refine⟨c,e,fzz,k1,k2,k3,k4,k5,fun i y hy=>?_,by simpa using hnF b hb⟩;rw[List.getElem?_map,Option.map_eq_some_iff] at hy;obtain⟨x',hx',rfl⟩:=hy;have hi:i<es.length:=by rw[←hlen];exact (List.getElem?_eq_some_iff.1 hx').1
  obtain⟨m1,m2⟩:=k6 i es[i] (by simp[hi]);have key:x'.cells.length=es[i].cells.length ∧ ∀ (j:Nat) (y y':V) (u:Value),es[i].cells[j]?=some y→x'.cells[j]?=some y'→qV β F w y u→u.oneCell'=true→qV β (qRy β F fz') w y' u∧y'.noSl=true ∧ ∀ r∈y'.refs,r∈qA1 es':=by
   unfold qDl at h;split at h
   ·rename_i ts hts;obtain⟨e,_⟩:=qE h;cases e;have:x'=es[i]:=by rw[List.getElem?_eq_getElem hi] at hx';exact (Option.some.inj hx').symm
    subst this;refine⟨rfl,fun j y y' u hy hy' hr _=>?_⟩;rw[hy] at hy';cases hy';refine⟨hr.mono (fun _ _ h=>h) (fun _ h=> .inl h) (fun _ _=>rfl),?_⟩;have hm1:es[i]∈es:=sM;have heq:=qDj hts;have hm2:es[i]∈ts.map V.t:=by rw[←heq];exact hm1
    simp only[List.mem_map] at hm2;obtain⟨t,_,ht⟩:=hm2;rw[←ht] at hy;obtain⟨c,_,rfl⟩:=xN hy;exact⟨rfl,by simp[V.refs]⟩
   ·obtain⟨h1,h2⟩:=yY h;obtain⟨fzi,li,n1,n2⟩:=h2 i es[i] x' (by simp[hi]) hx';by_cases hz:es[i].cells=[]
    ·
     cases hx0:es[i] with
     | t y=>
      rw[hx0] at n1;obtain⟨e,_⟩:=qE (x:=(V.t y,([]:List Nat))) n1;cases e;rw[hx0] at hz;rw[hz];simp
     | agg cs=>
      rw[hx0] at n1 hz;simp only[zM] at n1;obtain⟨p,l1,l2,hp,n1,_⟩:=zB n1;obtain⟨e,_⟩:=qE n1;cases e;rw[qR9,(yY hp).1];have:cs=[]:=hz;subst this;simp[V.cells]
     | _=>rw[hx0] at hz;simp[V.cells] at hz
    ·obtain⟨q1,q2⟩:=zAj R n1 (fz':=fz') (fun i hi=>hsub i (n2 i hi)) hz (fun j y hy=>let ⟨u,_,b,d⟩:=m2 j y hy;⟨u,b,d⟩);refine⟨q1,fun j y y' u hy hy' hr ho=>?_⟩;obtain⟨s1,s2,s3⟩:=q2 j y y' u hy hy' hr ho;exact⟨s1,s2,fun r hr=>qD3 (List.mem_of_getElem? hx') (s3 r hr)⟩
  rw[qIw,zN,List.length_map,key.1];refine⟨m1,fun j y hy=>?_⟩;rw[List.getElem?_map,Option.map_eq_some_iff] at hy;obtain⟨y',hy',rfl⟩:=hy;have hj:j<es[i].cells.length:=by rw[←key.1];exact (List.getElem?_eq_some_iff.1 hy').1
  obtain⟨u,hu,hr,ho⟩:=m2 j (es[i].cells[j]'hj) (by simp[hj]);obtain⟨s1,s2,s3⟩:=key.2 j (es[i].cells[j]'hj) y' u (by simp[hj]) hy' hr ho;exact⟨u,hu,zBh s1 s2 (fun r hr=>hrefs r (s3 r hr)),ho⟩
end Go.Eng
end
section
namespace Go.Eng
variable {β:Nat→Option BI} {F:Nat→Prop} {w:World} {cx:Cx} {fm:Nat→Option V} {hm:Nat→Option Ob} {a:Act}
theorem jCv (R:Rel cx β F fm hm a w):zJ8 cx.gl F w:=by
 refine⟨R.Fw,fun g cs hg=>?_,R.gs⟩;have:=R.gl g cs hg;cases this with
 | ro _ a news ha hn h1 hF hw h=>exact .ro cs _ news ha hn h1 hF hw h
theorem zD6 (R:Rel cx β F fm hm a w){n:Nat}{vs aS:List V}{fz l fz':List Nat}(h:(qDm (zM n) vs).run hm=some ((aS,fz),l))(hsub : ∀ i∈fz,i∈fz'){vals:List Value}(hv:qAh (qV β F w) vs vals){ids:List Nat}(hr : ∀ r∈qA1 aS,r∈ids) :
  qAh (qV (qKz ids β) (qRy β F fz') w) (qF2 (fun r=>ids.idxOf r) aS) vals:=by
 obtain⟨g1,g2⟩:=yY h;rw[zN];have hlen:=hv.length;have key : ∀ (as0:List V) (vals0:List Value),as0.length=vals0.length→(∀ (i:Nat) (c:V) (u:Value),as0[i]?=some c→vals0[i]?=some u→qV (qKz ids β) (qRy β F fz') w (c.ren fun r=>ids.idxOf r) u)→
   qAh (qV (qKz ids β) (qRy β F fz') w) (as0.map (V.ren fun r=>ids.idxOf r)) vals0:=by
  intro as0
  induction as0 with
  | nil=>intro vals0 hl _;cases vals0 with
   | nil=>exact .nil
   | cons _ _=>simp at hl
  | cons c r ih=>intro vals0 hl h;cases vals0 with
   | nil=>simp at hl
   | cons u vals0=>
    exact .cons (h 0 c u rfl rfl) (ih vals0 (by simpa using hl) (fun i c u hc hu=>h (i+1) c u (by simpa using hc) (by simpa using hu)))
 refine key aS vals (by rw[g1,hlen]) (fun i c u hc hu=>?_);have hi:i<vs.length:=by rw[←g1];exact (List.getElem?_eq_some_iff.1 hc).1
 obtain⟨fzi,li,m1,m2⟩:=g2 i vs[i] c (by simp[hi]) hc;obtain⟨x,hx,hrx⟩:=hv.get i u hu;have:x=vs[i]:=by rw[List.getElem?_eq_getElem hi] at hx;exact (Option.some.inj hx).symm
 subst this;exact zBh (wN R m1 hrx (fun j hj=>hsub j (m2 j hj))) (qOh m1) (fun r hr'=>hr r (qD3 (List.mem_of_getElem? hc) hr'))
theorem zHe (R:Rel cx β F fm hm a w){n:Nat}{vs aS:List V}{fz0 l1:List Nat}(hp:(qDm (zM 4) vs).run hm=some ((aS,fz0),l1)){todo ids:List Nat}{obs:List Ob}{fzq l2:List Nat}
  (hq:(qBs n todo [] [] []).run hm=some ((ids,obs,fzq),l2)) (htodo : ∀ r∈qA1 aS,r∈todo) (hdis:(ids.all fun i => !(fz0++fzq).contains i)=true) {fw:Wr} {l3:List Nat} (hfw:(qXy (fz0++fzq)).run hm=some (fw,l3))
  {vals:List Value} (hv:qAh (qV β F w) vs vals) :
  ∃ F1,Rel cx β F1 fm (upd hm fw) a w∧(∀ b,F b→F1 b)∧
   ids.Nodup∧ids.length=obs.length∧(∀ p∈fw,hm p.1≠none)∧
   (∀ (k id:Nat),ids[k]?=some id → ∃ z es full,hm id=some (.live z es true full)∧upd hm fw id=some (.live z es true full))∧
   zT3 (qKz ids β) F1 w (obs.map (Ob.ren fun r=>ids.idxOf r))∧qAh (qV (qKz ids β) F1 w) (qF2 (fun r=>ids.idxOf r) aS) vals:=by
 obtain⟨k1,k2,k3,k4,k5,_,_⟩:=qP4 hq sM rfl (by intro k id o hk;simp at hk) sM;obtain⟨F1,R1,hF1⟩:=Rel.freezeAll hfw R (fun id _=> .inl rfl);obtain⟨n1,n2⟩:=zGz hfw;have hnot : ∀ (k id:Nat),ids[k]?=some id→id ∉ fz0++fzq:=by
  intro k id hk;have:=List.all_eq_true.1 hdis id (List.mem_of_getElem? hk);simpa using this
 have hkeepid : ∀ (k id:Nat),ids[k]?=some id→upd hm fw id=hm id:=fun k id hk=>qEl (fun q hq e=>hnot k id hk (by rw[←e];exact (n2 q hq).1))
 have hob : ∀ (k id:Nat),ids[k]?=some id → ∃ o z es es' full fzk lk,obs[k]?=some o∧hm id=some (.live z es true full)∧o = .live z es' true full∧(qDl es).run hm=some ((es',fzk),lk) ∧ ∀ j∈fzk,j∈fzq:=by
  intro k id hk;have hkl:k<obs.length:=by rw[←k2];exact (List.getElem?_eq_some_iff.1 hk).1
  obtain⟨z,es,es',full,fzk,lk,g1,g2,g3,g4⟩:=k3 k id obs[k] hk (by simp[hkl]);exact⟨_,z,es,es',full,fzk,lk,by simp[hkl],g1,g2,g3,g4⟩
 have hlive : ∀ (k id:Nat),ids[k]?=some id → ∃ z es full,hm id=some (.live z es true full)∧upd hm fw id=some (.live z es true full):=by
  intro k id hk;obtain⟨o,z,es,es',full,fzk,lk,_,g1,_⟩:=hob k id hk;exact⟨z,es,full,g1,by rw[hkeepid k id hk];exact g1⟩
 have hFeq:F1=qRy β F (fz0++fzq):=by funext b;exact propext (hF1 b)
 refine⟨F1,R1,fun b hb=>(hF1 b).2 (.inl hb),k1,k2,fun q hq=>?_,hlive,⟨fun k o ho=>?_,fun k hk=>?_,fun i j bi bj b h1 h2 h3 h4=>?_,fun k bi b h1 h2=>?_⟩,?_⟩
 ·obtain⟨_,z,es,full,h,_⟩:=n2 q hq;rw[h];simp
 ·rw[List.getElem?_map,Option.map_eq_some_iff] at ho;obtain⟨o',ho',rfl⟩:=ho;have hkl:k<ids.length:=by rw[k2];exact (List.getElem?_eq_some_iff.1 ho').1
  obtain⟨o2,z,es,es',full,fzk,lk,g0,g1,g2,g3,g4⟩:=hob k ids[k] (by simp[hkl]);rw[ho'] at g0;cases g0;obtain⟨bi,hb,hok⟩:=R.hp _ _ g1;have hnF : ∀ b,bi.blk=some b → ¬ F1 b:=by
   intro b hbk;obtain⟨z',es2,full',_,h2⟩:=hlive k ids[k] (by simp[hkl]);exact R1.notF h2 hb hbk
  refine⟨bi,by simp[qKz,hkl,hb],?_,?_⟩
  ·rw[g2];exact zMq R hF1 g3 (fun i hi=>by simp[g4 i hi]) hok hnF (fun r hr=>k4 o' (List.mem_of_getElem? ho') r (by rw[g2];exact hr))
  ·rw[g2];exact⟨z,_,full,rfl⟩
 ·rw[List.length_map,←k2] at hk;simp[qKz,List.getElem?_eq_none hk]
 ·unfold qKz at h1 h2;rw[Option.bind_eq_some_iff] at h1 h2;obtain⟨x,hx,h1⟩:=h1;obtain⟨y,hy,h2⟩:=h2;obtain⟨z1,e1,f1,m1,_⟩:=hlive i x hx;obtain⟨z2,e2,f2,m2,_⟩:=hlive j y hy;have:=R.inj x y bi bj b _ _ h1 h2 h3 h4 m1 m2 sM sM;subst this;have hi:i<ids.length:=(List.getElem?_eq_some_iff.1 hx).1;have hj:j<ids.length:=(List.getElem?_eq_some_iff.1 hy).1;exact qD0 k1 hi hj (by rw[List.getElem?_eq_getElem hi] at hx;rw[List.getElem?_eq_getElem hj] at hy;rw[Option.some.inj hx,Option.some.inj hy])
 ·unfold qKz at h1;rw[Option.bind_eq_some_iff] at h1;obtain⟨x,hx,h1⟩:=h1;obtain⟨z1,e1,f1,m1,m2⟩:=hlive k x hx;exact⟨R.blt x bi b h1 h2,R1.notF m2 h1 h2⟩
 ·rw[hFeq];exact zD6 R hp (fun i hi=>by simp[hi]) hv (fun r hr=>k5 r (htodo r hr))
theorem zMx (R:Rel cx β F fm hm a w){keep:Bool}{vs:List V}{cp:CP}{l:List Nat}(h:(qS0 keep vs).run hm=some (cp,l)){vals:List Value}(hv:qAh (qV β F w) vs vals) :
  ∃ F1,Rel cx β F1 fm (upd hm cp.fw) a w∧(∀ b,F b→F1 b)∧(keep=false → ∀ (k id:Nat),cp.ids[k]?=some id → ∃ z es full,hm id=some (.live z es true full))∧
   cp.ids.Nodup∧cp.ids.length=cp.obs.length∧(∀ p∈cp.fw,hm p.1≠none)∧
   (∀ (k id:Nat),cp.ids[k]?=some id → ∃ z es full,hm id=some (.live z es true full)∧upd hm cp.fw id=some (.live z es true full))∧
   zT3 (qKz cp.ids β) F1 w (cp.obs.map (Ob.ren fun r=>cp.ids.idxOf r))∧qAh (qV (qKz cp.ids β) F1 w) (qF2 (fun r=>cp.ids.idxOf r) cp.aS) vals:=by
 unfold qS0 at h;obtain⟨p,l1,l2,hp,h,_⟩:=zB h;obtain⟨q,l3,l4,hq,h,_⟩:=zB h;obtain⟨⟨_,hdis⟩,h⟩:=qM h;obtain⟨fw,l5,l6,hfw,h,_⟩:=zB h;obtain⟨e,_⟩:=qE h;cases e;obtain⟨F1,g1,g2,g3,g4,g5,g6,g7,g8⟩:=zHe R hp hq (fun r h=>h) hdis hfw hv;exact⟨F1,g1,g2,fun _ k id hk=>let ⟨z,es,full,h,_⟩:=g6 k id hk;⟨z,es,full,h⟩,g3,g4,g5,g6,g7,g8⟩
theorem zLh {obs:List Ob}(h:zEc obs=true){k:Nat}{o:Ob}(ho:obs[k]?=some o):o.flat=true:=List.all_eq_true.1 h o (List.mem_of_getElem? ho)
theorem zH4 (R:Rel cx β F fm hm a w){tab:Tab}(ht:qFk cx.P cx.gl tab){f:FuncId}{keep:Bool}{vs:List V}{nb:Nat}{v:V}{W:Wr}{l:List Nat}(h:(qUz tab f keep vs nb).run hm=some ((v,W),l)){vals:Array Value}(hv:qAh (qV β F w) vs vals.toList) :
  qSn cx.P f vals w (fun e w' => ∃ x β' F',e = .returned x∧Rel cx β' F' fm (upd hm W) a w'∧qV β' F' w' v x):=by
 unfold qUz at h;obtain⟨cp,l1,l2,hcp,h,_⟩:=zB h;obtain⟨p,hp,h⟩:=qH h;obtain⟨⟨hlen,hflat⟩,h⟩:=qM h;obtain⟨hfree,l',h⟩:=zAs h;obtain⟨e,_⟩:=qE h;cases e;obtain⟨r,outs⟩:=p;rw[Option.bind_eq_some_iff] at hp;obtain⟨s,hs,hp⟩:=hp;obtain⟨F1,R1,hFF1,hlive0,hnd,hlo,hfwl,hlive,fits,hargs⟩:=zMx R hcp hv;simp only at hlen hflat hfree ⊢;refine (ht f s hs _ _ r outs hp w (qKz cp.ids β) F1 vals (jCv R1) fits hargs).mono ?_;rintro e w' ⟨x,βp,F',rfl,post⟩;have hold : ∀ (k id:Nat),cp.ids[k]?=some id→βp k=β id:=by
  intro k id hk;have hkl:k<cp.ids.length:=(List.getElem?_eq_some_iff.1 hk).1;rw[post.old k (by rw[List.length_map,←hlo];exact hkl)];simp[qKz,hk]
 have hframe : ∀ b,b<w.heap.size→(∀ (k id:Nat) (bi:BI),cp.ids[k]?=some id→β id=some bi→bi.blk≠some b)→w'.heap[b]?=w.heap[b]?:=by
  intro b hb hk;refine post.frame b hb (fun k bi hkb=>?_);unfold qKz at hkb;rw[Option.bind_eq_some_iff] at hkb;obtain⟨id,h1,h2⟩:=hkb;exact hk k id bi h1 h2
 have hnew : ∀ (k:Nat) (bi:BI) (b:Nat),cp.ids.length≤k→βp k=some bi→bi.blk=some b→w.heap.size≤b:=by
  intro k bi b hk h1 h2;exact post.new k bi b (by rw[List.length_map,←hlo];exact hk) h1 h2
 cases keep with
 | true=>
  obtain⟨βn,R2,hg,_⟩:=Rel.called R1 hnd (fun k id hk=>let ⟨z,es,full,_,h2⟩:=hlive k id hk;⟨z,es,full,h2⟩) post.fits hold hnew post.F post.Fw post.os post.tape post.output post.size hframe hlen (nb:=nb)
   (fun j hj=>by
    rw[qEl (fun q hq e=>hfwl q hq (by rw[e];exact hfree j hj))];exact hfree j hj)
  refine⟨x,βn,F',rfl,?_,?_⟩
  ·simp only[if_true,qW7];exact R2
  ·exact qV.ren (β:=βn) (ρ:=gam cp.ids nb) (post.res.mono (β':=fun k=>βn (gam cp.ids nb k)) hg (fun _ h=>h) (fun _ _=>rfl))
 | false=>
  have hfl:r.flat=true∧zEc outs=true:=by simpa using hflat
  let F2:Nat→Prop:=fun b=>(b<w.heap.size∧F b)∨(w.heap.size≤b∧F' b)
  have hF2o : ∀ b,b<w.heap.size→(F2 b↔F b):=fun b hb=>⟨fun h=>by
   rcases h with h | h
   ·exact h.2
   ·omega,fun h=> .inl ⟨hb,h⟩⟩
  have hblkF2 : ∀ (k:Nat) (bi:BI) (b:Nat),βp k=some bi→bi.blk=some b → ¬ F2 b:=by
   intro k bi b h1 h2 hF2;rcases hF2 with⟨hb,hF⟩ | ⟨hb,hF⟩
   ·rcases Nat.lt_or_ge k cp.ids.length with hk | hk
    ·obtain⟨z,es,full,hl⟩:=hlive0 rfl k cp.ids[k] (by simp[hk]);exact R.notF hl (by rw[←hold k cp.ids[k] (by simp[hk])];exact h1) h2 hF
    ·have:=hnew k bi b hk h1 h2;omega
   ·exact (post.fits.blt k bi b h1 h2).2 hF
  have fits2:zT3 βp F2 w' outs:=by
   refine⟨fun k o ho=>?_,post.fits.dom,post.fits.inj,fun k bi b h1 h2=>⟨(post.fits.blt k bi b h1 h2).1,hblkF2 k bi b h1 h2⟩⟩;obtain⟨bi,h1,h2,z,es,full,rfl⟩:=post.fits.ok k o ho;have hfo:=zLh hfl.2 ho;exact⟨bi,h1,h2.flat hfo (fun b hb=>hblkF2 k bi b h1 hb),z,es,full,rfl⟩
  obtain⟨βn,R2,hg,_⟩:=Rel.called R hnd (fun k id hk=>let ⟨z,es,full,h1,_⟩:=hlive k id hk;⟨z,es,full,h1⟩) fits2 hold hnew hF2o (fun b hb=>by
    rcases hb with⟨h1,_⟩ | ⟨_,h2⟩
    ·have:=post.size;omega
    ·exact post.Fw b h2) post.os post.tape post.output post.size hframe hlen (nb:=nb) hfree
  refine⟨x,βn,F2,rfl,?_,?_⟩
  ·simpa using R2
  ·exact qV.ren (β:=βn) (ρ:=gam cp.ids nb) ((post.res.flat hfl.1).mono (β':=fun k=>βn (gam cp.ids nb k)) hg (fun _ h=>h) (fun _ _=>rfl))
end Go.Eng
end
section
namespace Go.Eng
variable {β:Nat→Option BI} {F:Nat→Prop} {w:World} {cx:Cx} {fm:Nat→Option V} {hm:Nat→Option Ob} {a:Act}
inductive qFi where
 | tmp (t:Nat)
 | cst (v:V)
 | glob (g:Nat)
 deriving Inhabited
inductive AK where
 | op (ao:AO)
 | call (f:FuncId) (keep:Bool)
 | callv (keep:Bool)
 deriving Inhabited
structure zU where
 dst:Option Nat
 k:AK
 args:List qFi
 guard:Option (Nat×Bool)
 deriving Inhabited
abbrev Gl:=Nat→Option (List T)
def qFi.val (gl:Gl)(fm:Nat→Option V):qFi→Option V
 | .tmp t=>fm t
 | .cst v=>some v
 | .glob g=>(gl g).map .ro
def qA4 (gl:Gl)(fm:Nat→Option V):List qFi→Option (List V)
 | []=>some []
 | x::r=>(x.val gl fm).bind fun v=>(qA4 gl fm r).map (v :: ·)
def AK.q (tab:Tab)(nb:Nat):AK→List V→Q (V×Wr)
 | .op ao,vs=>sem ao vs nb
 | .call f keep,vs=>qUz tab f keep vs nb
 | .callv keep,.fn f caps::rest=>qUz tab f keep (rest++caps) nb
 | .callv keep,.bd g id i f::rest=>qUz tab g keep (.ref id i f::rest) nb
 | .callv _,_=> .fail
def zU.go (tab:Tab)(gl:Gl)(o:zU)(fm:Nat→Option V)(nb:Nat):Q (V×Wr):=
 (Q.of (qA4 gl fm o.args)).bind fun vs=>o.k.q tab nb vs
def qFd (fm:Nat→Option V):Option (Nat×Bool)→Option Bool
 | none=>some true
 | some (t,want)=>match fm t with
  | some (.t (.bool b))=>some (b==want)
  | some (.tup [])=>some false
  | _=>none
def zU.q (tab:Tab)(gl:Gl)(o:zU)(fm:Nat→Option V)(nb:Nat):Q (V×Wr):=
 (Q.of (qFd fm o.guard)).bind fun g=>if g then o.go tab gl fm nb else .ret (.tup [],[])
def qU6 (fm:Nat→Option V)(d:Option Nat)(v:V):Nat→Option V:=fun t=>if d=some t then some v else fm t
def zRp:Operand→Option qFi
 | .tmp t=>some (.tmp t)
 | .const v=>(V.ofConst v).map .cst
 | .global g=>some (.glob g)
 | .func f=>some (.cst (.fn f []))
def zHb:List Operand→Option (List qFi)
 | []=>some []
 | x::r=>(zRp x).bind fun y=>(zHb r).map (y :: ·)
def zL9 (P:Program)(keep:Bool):Op→Option (AK×List Operand)
 | .call { callee:= .value (.func f),args,.. }=>some (.call f keep,args.toList)
 | .call { callee:= .value (.tmp t),args,.. }=>some (.callv keep,.tmp t::args.toList)
 | op=>(zKf P op).map fun p=>(.op (if keep then p.1.cut else p.1),p.2)
def zEh (ops:Array Oper):Option (Nat×Bool)→Option (Option (Nat×Bool))
 | none=>some none
 | some (j,want)=>((ops[j]?).bind (·.dst)).map fun t=>some (t,want)
def jCj (nt:Nat):Option Nat→Bool
 | some d=>decide (d<nt)
 | none=>true
def zQ0 (P:Program)(keep:Bool)(op:Op):Option (AK×List qFi):=(zL9 P keep op).bind fun p=>(zHb p.2).map fun xs=>(p.1,xs)
def jBm (P:Program)(nt:Nat)(ops:Array Oper)(keep:Bool)(o:Oper):Option zU:=
 (zEh ops o.guard).bind fun g=>
  if jCj nt o.dst=true then some (match zQ0 P keep o.op with | some p=>⟨o.dst,p.1,p.2,g⟩ | none=>⟨o.dst,.op .bad,[],g⟩) else none
theorem qTj (R:Rel cx β F fm hm a w){x:Operand}{y:qFi}(h:zRp x=some y){v:V}(hv:y.val cx.gl fm=some v):qV β F w v (a.eval x):=by
 cases x with
 | tmp t=>
  cases h;obtain⟨x,h1,h2⟩:=R.fr t v hv;have:a.eval (.tmp t)=x:=by simp[Act.eval,h1]
  rw[this];exact h2
 | const c=>
  simp only[zRp,Option.map_eq_some_iff] at h;obtain⟨u,hu,rfl⟩:=h;cases hv;exact qAz hu
 | global g=>
  cases h;simp only[qFi.val,Option.map_eq_some_iff] at hv;obtain⟨cs,hcs,rfl⟩:=hv;exact R.gl g cs hcs
 | func f=>
  cases h;cases hv;exact .fn f [] #[] rfl (by intro i c u hc;simp at hc)
theorem qWz (R:Rel cx β F fm hm a w) : ∀ {xs:List Operand} {ys:List qFi} {vs:List V},zHb xs=some ys→qA4 cx.gl fm ys=some vs→qAh (fun x v=>qV β F w v (a.eval x)) xs vs
 | [],ys,vs,h,hv=>by cases h;cases hv;exact .nil
 | x::r,ys,vs,h,hv=>by
  simp only[zHb,Option.bind_eq_some_iff,Option.map_eq_some_iff] at h;obtain⟨y,hy,zs,hz,rfl⟩:=h;simp only[qA4,Option.bind_eq_some_iff,Option.map_eq_some_iff] at hv;obtain⟨v,hv,us,hu,rfl⟩:=hv;exact .cons (qTj R hy hv) (qWz R hz hu)
theorem qXg {xs:List Operand}{vs:List V}{a:Act}(h:qAh (fun x v=>qV β F w v (a.eval x)) xs vs):qAh (qV β F w) vs (xs.map a.eval):=by
 induction h with
 | nil=>exact .nil
 | cons h _ ih=>exact .cons h ih
theorem zPl {α γ:Type}{R:α→γ→Prop}{xs xs':List α}{ys ys':List γ}(h:qAh R xs ys)(h':qAh R xs' ys'):qAh R (xs++xs') (ys++ys'):=by
 induction h with
 | nil=>exact h'
 | cons h _ ih=>exact .cons h ih
theorem zDs {vs:List V}{us:List Value}(hl:us.length=vs.length)(h : ∀ (i:Nat) (c:V) (u:Value),vs[i]?=some c→us[i]?=some u→qV β F w c u):qAh (qV β F w) vs us:=by
 induction vs generalizing us with
 | nil=>cases us with
  | nil=>exact .nil
  | cons _ _=>simp at hl
 | cons c r ih=>cases us with
  | nil=>simp at hl
  | cons u us=>exact .cons (h 0 c u rfl rfl) (ih (by simpa using hl) (fun i c u hc hu=>h (i+1) c u (by simpa using hc) (by simpa using hu)))
theorem Rel.put (R:Rel cx β F fm hm a w){d:Option Nat}(hd : ∀ t,d=some t→t<cx.nt){v:V}{x:Value}(hx:qV β F w v x):Rel cx β F (qU6 fm d v) hm (a.put d x) w:=by
 cases d with
 | none=>
  have:qU6 fm none v=fm:=by funext t;simp[qU6]
  rw[this];exact R
 | some t=>
  refine⟨by simp[Act.put,R.tsz],R.dfr,fun t' v' hv'=>?_,R.hp,R.dom,R.inj,R.os,R.tape,R.output,R.size,R.ext,R.old,R.inF,R.inw,R.Fw,R.F0,R.blt,R.gl,R.ext0,R.gs⟩;unfold qU6 at hv';split at hv'
  ·rename_i h;cases h;cases hv';exact⟨x,by simp[Act.put,R.tsz,hd _ rfl],hx⟩
  ·rename_i h;obtain⟨y,h1,h2⟩:=R.fr t' v' hv';exact⟨y,by simp only[Act.put];rw[Array.getElem?_setIfInBounds_ne (fun e=>h (by rw[e]))];exact h1,h2⟩
theorem zEj (R:Rel cx β F fm hm a w){ops:Array Oper}{o:Oper}{g:Option (Nat×Bool)}(hg:zEh ops o.guard=some g){b:Bool}(hb:qFd fm g=some b):Region.wanted o (yielded ops a.tmps)=b:=by
 unfold Region.wanted;cases ho:o.guard with
 | none=>
  rw[ho] at hg;cases hg;cases hb;rfl
 | some p=>
  obtain⟨j,want⟩:=p;rw[ho] at hg;simp only[zEh,Option.map_eq_some_iff] at hg;obtain⟨t,ht,rfl⟩:=hg;simp only[qFd] at hb;simp only[yielded,ht,Option.bind_some];cases hf:fm t with
  | none=>rw[hf] at hb;cases hb
  | some v=>
   obtain⟨x,h1,h2⟩:=R.fr t v hf;rw[h1];rw[hf] at hb;split at hb
   ·rename_i b' h;cases h;cases hb;rw[h2.bool_inv];cases b'<;>cases want<;>rfl
   ·rename_i h;cases h;cases hb;cases h2 with
    | tup _ vs hl _=>
     simp only;cases want<;>rfl
   ·cases hb
theorem qXa (R:Rel cx β F fm hm a w){tab:Tab}(ht:qFk cx.P cx.gl tab){ops:Array Oper}{i:Nat}{o:Oper}{ao:zU}{keep:Bool}(ho:ops[i]?=some o)(hag:jBm cx.P cx.nt ops keep o=some ao)
  {nb:Nat} {v:V} {W:Wr} {l:List Nat} (hq:(ao.q tab cx.gl fm nb).run hm=some ((v,W),l)) {K:Act→World→Prop} {Qx:Exit→Act→World→Prop}
  (hK : ∀ β' F' a' w',Rel cx β' F' (qU6 fm ao.dst v) (upd hm W) a' w'→K a' w'):wpOp cx.P ops Qx i K a w:=by
 unfold jBm at hag;simp only[Option.bind_eq_some_iff] at hag;obtain⟨g,hg,hag⟩:=hag;split at hag
 ·rename_i hd;have hag:=Option.some.inj hag;obtain⟨kd,ys,hkx,rfl⟩ : ∃ kd ys,(zQ0 cx.P keep o.op=some (kd,ys)∨kd = .op .bad)∧ao=⟨o.dst,kd,ys,g⟩:=by
   cases hk:zQ0 cx.P keep o.op with
   | none=>rw[hk] at hag;exact⟨_,_,.inr rfl,hag.symm⟩
   | some p=>rw[hk] at hag;exact⟨p.1,p.2,.inl rfl,hag.symm⟩
  simp only at hq hK;have hd' : ∀ t,o.dst=some t→t<cx.nt:=by
   intro t e;rw[e] at hd;simpa [jCj] using hd
  unfold zU.q at hq;obtain⟨b,hb,hq⟩:=qH hq;have hw:=zEj R hg hb;unfold wpOp;simp only[ho,hw];cases b with
  | false=>
   simp only[Bool.false_eq_true,if_false] at hq ⊢;obtain⟨e,_⟩:=qE hq;cases e;exact hK β F _ _ (R.put hd' (.tup [] #[] rfl (by intro i c u hc;simp at hc)))
  | true=>
   simp only[if_true] at hq ⊢;refine .inl ?_;unfold zU.go at hq;obtain⟨vs,hvs,hq2⟩:=qH hq;clear hq;rcases hkx with hkx | hbad
   case inr=>rw[hbad] at hq2;cases hq2
   unfold zQ0 at hkx;simp only[Option.bind_eq_some_iff,Option.map_eq_some_iff] at hkx;obtain⟨⟨kd',xs⟩,hkd,ys',hys,hkeq⟩:=hkx;simp only[Prod.mk.injEq] at hkeq;obtain⟨rfl,rfl⟩:=hkeq;have hall:=qWz R hys hvs;simp only at hall hkd hq2;unfold Oper.wp;have call : ∀ {f:FuncId} {us:List V} {vals:Array Value},execOp a.eval o=callFunc f vals→(qUz tab f keep us nb).run hm=some ((v,W),l)→qAh (qV β F w) us vals.toList→o.upon cx.P a K Qx ((execOp a.eval o).run cx.P w):=by
    intro f us vals he hq hv;rw[he];rcases zH4 R ht hq hv with⟨g,h1,h2⟩ | ⟨x,w',h1,x',β',F',e,R',hx⟩
    ·rw[h1];simp only[Oper.upon];refine h2.mono ?_;rintro e w' ⟨x,β',F',rfl,R',hx⟩;exact hK β' F' _ _ (R'.put hd' hx)
    ·cases e;rw[h1];exact hK β' F' _ _ (R'.put hd' hx)
   have plain:(zKf cx.P o.op).map (fun p=>(AK.op (if keep then p.1.cut else p.1),p.2))=some (kd',xs)→o.upon cx.P a K Qx ((execOp a.eval o).run cx.P w):=by
    intro h;simp only[Option.map_eq_some_iff] at h;obtain⟨⟨ao,zs⟩,hao,e⟩:=h;simp only[Prod.mk.injEq] at e;obtain⟨rfl,rfl⟩:=e;have hq3:(sem (if keep then ao.cut else ao) vs nb).run hm=some ((v,W),l):=hq2;have fin:zT4 cx β F fm hm a w v W (execOp a.eval o):=by
     rcases AO.cut_or ao with⟨z,b,rfl,hc⟩ | hc
     ·cases keep
      ·exact qX6 R hao hall hq3
      ·rw[if_pos rfl,hc] at hq3;exact zBb R hao hall hq3
     ·have e:(if keep then ao.cut else ao)=ao:=by rw[hc,ite_self]
      rw[e] at hq3;exact qX6 R hao hall hq3
    obtain⟨n,w',β',x,h1,h2,h3,h4,h5⟩:=fin;rw[h1];rcases h2 with rfl | ⟨rfl,rfl⟩
    ·exact hK β' F _ _ (h3.put hd' h4)
    ·exact hK β' F _ _ (h3.put hd' h4)
   obtain⟨dst,op,ty,pos,after,guard⟩:=o;cases op with
   | call c=>
    obtain⟨callee,args,ts⟩:=c;cases callee with
    | value fo=>
     cases fo with
     | tmp t=>
      simp only[zL9,Option.some.injEq,Prod.mk.injEq] at hkd;obtain⟨rfl,rfl⟩:=hkd;cases hall with
      | cons hx hrest=>
       rename_i u us;cases u<;>simp only[AK.q] at hq2<;>(try (cases hq2;done))
       ·rename_i f caps;generalize h0:a.eval (.tmp t)=y0 at hx;cases hx with
        | fn _ _ cvs hl hc=>
         refine call (vals:=args.map a.eval++cvs) ?_ hq2 ?_
         ·simp only[execOp,resolve,h0,Deferred.ofValue];simp[invoke,pure_bind]
         ·have h1:=qXg hrest;have h2:qAh (qV β F w) caps cvs.toList:=zDs (by simpa using hl) (fun i c u hc' hu=>hc i c u hc' (by simpa using hu));simpa using zPl h1 h2
       ·rename_i g id i fo;generalize h0:a.eval (.tmp t)=y0 at hx;cases hx with
        | bd _ _ _ _ b sz room hb=>
         refine call (vals := #[.pointer (some ⟨b,i*sz+fo,none⟩)]++args.map a.eval) ?_ hq2 ?_
         ·simp only[execOp,resolve,h0,Deferred.ofValue];simp[invoke,pure_bind]
         ·have h1:=qXg hrest;have h2:qV β F w (.ref id i fo) (.pointer (some ⟨b,i*sz+fo,none⟩)):= .ref id i fo b sz room hb;simpa using qAh.cons h2 h1
     | func f=>
      simp only[zL9,Option.some.injEq,Prod.mk.injEq] at hkd;obtain⟨rfl,rfl⟩:=hkd;refine call (vals:=args.map a.eval) ?_ hq2 ?_
      ·have:execOp a.eval ⟨dst,.call ⟨.value (.func f),args,ts⟩,ty,pos,after,guard⟩=callFunc f (#[]++args.map a.eval ++ #[]):=rfl;rw[this];simp
      ·simpa using qXg hall
     | const c=>exact plain hkd
     | global g=>exact plain hkd
    | invoke r m=>exact plain hkd
    | builtin b=>exact plain hkd
   | _=>exact plain hkd
 ·cases hag
end Go.Eng
end
section
namespace Go.Eng
variable {β:Nat→Option BI} {F:Nat→Prop} {w:World} {cx:Cx} {fm:Nat→Option V} {hm:Nat→Option Ob} {a:Act}
inductive Lex (tab:Tab) (gl:Gl):List zU→Nat→(Nat→Option V)→(Nat→Option Ob)→List (V×Wr×List Nat)→(Nat→Option V)→(Nat→Option Ob)→Prop
 | nil {nb:Nat} {fm:Nat→Option V} {hm:Nat→Option Ob}:Lex tab gl [] nb fm hm [] fm hm
 | cons {o:zU} {r:List zU} {nb:Nat} {fm fm':Nat→Option V} {hm hm':Nat→Option Ob} {v:V} {W:Wr} {l:List Nat} {tr:List (V×Wr×List Nat)}
   (h:(o.q tab gl fm nb).run hm=some ((v,W),l)) (t:Lex tab gl r (nb+16) (qU6 fm o.dst v) (upd hm W) tr fm' hm'):Lex tab gl (o::r) nb fm hm ((v,W,l)::tr) fm' hm'
def zHv (P:Program)(nt:Nat)(ops:Array Oper):Nat→List zU→Prop
 | i,[]=>ops.size=i
 | i,ao::r=>(∃ o keep,ops[i]?=some o∧jBm P nt ops keep o=some ao)∧zHv P nt ops (i+1) r
theorem zMc {tab:Tab}(ht:qFk cx.P cx.gl tab){ops:Array Oper}{Qx:Exit→Act→World→Prop} : ∀ {aos:List zU} {i nb:Nat} {β:Nat→Option BI} {F:Nat→Prop} {fm fm':Nat→Option V} {hm hm':Nat→Option Ob} {tr:List (V×Wr×List Nat)} {a:Act} {w:World},
  zHv cx.P cx.nt ops i aos→Lex tab cx.gl aos nb fm hm tr fm' hm'→Rel cx β F fm hm a w→(∀ β' F' a' w',Rel cx β' F' fm' hm' a' w'→Qx .normal a' w') → ∀ l,l=(List.range ops.size).drop i→wpOps cx.P ops Qx l a w
 | [],i,nb,β,F,fm,fm',hm,hm',tr,a,w,hag,hl,R,hQ,l,hl'=>by
  cases hl;have:l=[]:=by
   rw[hl',List.drop_eq_nil_iff,List.length_range,hag];exact Nat.le_refl _
  subst this;exact hQ β F a w R
 | ao::r,i,nb,β,F,fm,fm',hm,hm',tr,a,w,hag,hl,R,hQ,l,hl'=>by
  cases hl with
  | cons h t=>
   obtain⟨⟨o,keep,ho,hk⟩,hag'⟩:=hag;have hi:i<ops.size:=(Array.getElem?_eq_some_iff.1 ho).1;have:l=i::(List.range ops.size).drop (i+1):=by
    rw[hl',List.drop_eq_getElem_cons (by simpa using hi)];simp
   subst this;rw[wpOps_cons];exact qXa R ht ho hk h (fun β' F' a' w' R'=>zMc ht hag' t R' hQ _ rfl)
def SF (D:Nat→Option Nat)(v:Nat→V)(sel:Nat→Bool)(fm:Nat→Option V):Nat→(Nat→Option V)
 | 0=>fm
 | n+1=>if sel n then qU6 (SF D v sel fm n) (D n) (v n) else SF D v sel fm n
def SH (W:Nat→Wr)(sel:Nat→Bool)(hm:Nat→Option Ob):Nat→(Nat→Option Ob)
 | 0=>hm
 | n+1=>if sel n then upd (SH W sel hm n) (W n) else SH W sel hm n
def wC (W:Wr):List Nat:=W.map (·.1)
theorem qYq : ∀ {W:Wr} {hm hm':Nat→Option Ob} {id:Nat},id∈wC W→upd hm W id=upd hm' W id
 | [],_,_,_,h=>by simp[wC] at h
 | (i,o)::r,hm,hm',id,h=>by
  simp only[upd];by_cases hr:id∈wC r
  ·exact qYq hr
  ·have hi:id=i:=by
    simp only[wC,List.map_cons,List.mem_cons] at h hr;rcases h with h | h
    ·exact h
    ·exact absurd h hr
   have miss : ∀ p∈r,p.1≠id:=fun p hp e=>hr (by simp only[wC,List.mem_map];exact⟨p,hp,e⟩)
   rw[qEl miss,qEl miss,if_pos hi,if_pos hi]
theorem qBx {W:Wr}{hm:Nat→Option Ob}{id:Nat}(h:id ∉ wC W):upd hm W id=hm id:=
 qEl (fun p hp e=>h (by simp only[wC,List.mem_map];exact⟨p,hp,e⟩))
theorem zTo {W W':Wr}{hm:Nat→Option Ob}(h : ∀ id,id∈wC W→id ∉ wC W'):upd (upd hm W) W'=upd (upd hm W') W:=by
 funext id;by_cases h1:id∈wC W
 ·rw[qBx (h id h1),qYq (hm:=hm) (hm':=upd hm W') h1]
 ·by_cases h2:id∈wC W'
  ·rw[qYq (hm:=upd hm W) (hm':=hm) h2,qBx h1]
  ·rw[qBx h2,qBx h1,qBx h1,qBx h2]
theorem zM2 {fm:Nat→Option V}{d e:Option Nat}{v u:V}(h : ∀ t,d=some t→e≠some t):qU6 (qU6 fm d v) e u=qU6 (qU6 fm e u) d v:=by
 funext t;unfold qU6;by_cases h1:d=some t
 ·have:=h t h1;simp[h1,this]
 ·simp[h1]
section
variable {D:Nat→Option Nat} {v:Nat→V} {W:Nat→Wr} {sel sel':Nat→Bool}
theorem qXb {t:Nat} : ∀ {n:Nat},(∀ j,j<n→D j=some t→sel j=sel' j)→SF D v sel fm n t=SF D v sel' fm n t
 | 0,_=>rfl
 | n+1,h=>by
  have ih:=qXb (n:=n) (fun j hj=>h j oM);simp only[SF];by_cases hd:D n=some t
  ·have e:=h n oM hd;rw[e];split
   ·simp[qU6,hd]
   ·exact ih
  ·split<;>split<;>simp[qU6,hd,ih]
theorem zT6 {t i:Nat} : ∀ {n:Nat},i≤n→(∀ j,i≤j→j<n→D j=some t→sel j=false)→SF D v sel fm n t=SF D v sel fm i t
 | 0,h,_=>by rw[Nat.le_zero.1 h]
 | n+1,h,hs=>by
  rcases Nat.lt_or_ge n i with h1 | h1
  ·rw[show i=n+1 by omega]
  ·rw[←zT6 (n:=n) h1 (fun j h2 h3=>hs j h2 oM)];simp only[SF];split
   ·rename_i hsn;by_cases hd:D n=some t
    ·rw[hs n h1 oM hd] at hsn;cases hsn
    ·simp[qU6,hd]
   ·rfl
theorem qXd {id:Nat} : ∀ {n:Nat},(∀ j,j<n→id∈wC (W j)→sel j=sel' j)→SH W sel hm n id=SH W sel' hm n id
 | 0,_=>rfl
 | n+1,h=>by
  have ih:=qXd (n:=n) (fun j hj=>h j oM);simp only[SH];by_cases hd:id∈wC (W n)
  ·have e:=h n oM hd;rw[e];split
   ·exact qYq hd
   ·exact ih
  ·split<;>split<;>simp only[qBx hd,ih]
theorem zT8 {id i:Nat} : ∀ {n:Nat},i≤n→(∀ j,i≤j→j<n→id∈wC (W j)→sel j=false)→SH W sel hm n id=SH W sel hm i id
 | 0,h,_=>by rw[Nat.le_zero.1 h]
 | n+1,h,hs=>by
  rcases Nat.lt_or_ge n i with h1 | h1
  ·rw[show i=n+1 by omega]
  ·rw[←zT8 (n:=n) h1 (fun j h2 h3=>hs j h2 oM)];simp only[SH];split
   ·rename_i hsn;by_cases hd:id∈wC (W n)
    ·rw[hs n h1 oM hd] at hsn;cases hsn
    ·exact qBx hd
   ·rfl
def qAg (sel:Nat→Bool)(i:Nat):Nat→Bool:=fun j=>if j=i then true else sel j
theorem zT5 {i:Nat}(hi:sel i=false) : ∀ {n:Nat},(∀ j,i<j→j<n→sel j=true → ∀ t,D i=some t→D j≠some t)→SF D v (qAg sel i) fm n=if i<n then qU6 (SF D v sel fm n) (D i) (v i) else SF D v sel fm n
 | 0,_=>by simp[SF]
 | n+1,h=>by
  have ih:=zT5 (n:=n) hi (fun j h1 h2=>h j h1 oM);simp only[SF];rw[ih];by_cases hn:n=i
  ·subst hn;simp[qAg,hi]
  ·have e:qAg sel i n=sel n:=by simp[qAg,hn]
   rw[e];by_cases hlt:i<n
   ·have hlt':i<n+1:=oM;rw[if_pos hlt,if_pos hlt'];split
    ·rename_i hs;exact zM2 (h n hlt oM hs)
    ·rfl
   ·have hlt' : ¬ i<n+1:=oM;rw[if_neg hlt,if_neg hlt']
theorem zT7 {i:Nat}(hi:sel i=false) : ∀ {n:Nat},(∀ j,i<j→j<n→sel j=true → ∀ id,id∈wC (W i)→id ∉ wC (W j))→SH W (qAg sel i) hm n=if i<n then upd (SH W sel hm n) (W i) else SH W sel hm n
 | 0,_=>by simp[SH]
 | n+1,h=>by
  have ih:=zT7 (n:=n) hi (fun j h1 h2=>h j h1 oM);simp only[SH];rw[ih];by_cases hn:n=i
  ·subst hn;simp[qAg,hi]
  ·have e:qAg sel i n=sel n:=by simp[qAg,hn]
   rw[e];by_cases hlt:i<n
   ·have hlt':i<n+1:=oM;rw[if_pos hlt,if_pos hlt'];split
    ·rename_i hs;exact zTo (h n hlt oM hs)
    ·rfl
   ·have hlt' : ¬ i<n+1:=oM;rw[if_neg hlt,if_neg hlt']
end
def zU.slots (o:zU):List Nat:=
 (o.args.filterMap fun | .tmp t=>some t | _=>none)++(match o.guard with | some (t,_)=>[t] | none=>[])
theorem qQ7 {gl:Gl}{fm fm':Nat→Option V} : ∀ {xs:List qFi},(∀ t,qFi.tmp t∈xs→fm t=fm' t)→qA4 gl fm xs=qA4 gl fm' xs
 | [],_=>rfl
 | x::r,h=>by
  have ih:=qQ7 (gl:=gl) (xs:=r) (fun t ht=>h t (by simp[ht]));have:x.val gl fm=x.val gl fm':=by
   cases x with
   | tmp t=>exact h t sM
   | _=>rfl
  simp only[qA4,this,ih]
theorem zYu {tab:Tab}{gl:Gl}{o:zU}{fm fm':Nat→Option V}{nb:Nat}(h : ∀ t∈o.slots,fm t=fm' t):o.q tab gl fm nb=o.q tab gl fm' nb:=by
 have h1:qA4 gl fm o.args=qA4 gl fm' o.args:=qQ7 (fun t ht=>h t (by
  unfold zU.slots;rw[List.mem_append];exact .inl (List.mem_filterMap.2 ⟨_,ht,rfl⟩)))
 have h2:qFd fm o.guard=qFd fm' o.guard:=by
  cases hg:o.guard with
  | none=>rfl
  | some p=>
   obtain⟨t,want⟩:=p;have:=h t (by unfold zU.slots;rw[hg];simp);simp only[qFd,this]
 simp only[zU.q,zU.go,h1,h2]
end Go.Eng
end
