/- A part of an abstract machine, its walks, their tie. -/
import Derived.Test.YteglhhgmfnbalaaGreatDoorK1
set_option linter.all false
section
namespace Go.Eng
open List
variable {cx:Cx}{β:Nat->Option BI}{F:Nat->Prop}{fm:Nat->Option V}{hm:Nat->Option Ob}{a:Act}{w:World}
theorem qR.plain_one {v:V}{x:Value}(h:qR β F w v x)(hp:v.plain=true):∀u∈x.cells,u.oneCell'=true:=by
 have one:∀{x:Value},x.oneCell'=true->∀u∈x.cells,u.oneCell'=true:=by
  intro x hx u hu;rw[qUa hx]at hu;simp at hu;subst hu;exact hx
 cases h with
 |t h=>cases h with
  |agg cs vs hl h1 h=>exact h1
  |tup cs vs hl h=>simp[V.plain]at hp
  |_=>exact one rfl
 |agg cs vs hl h1 h=>exact h1
 |tup cs vs hl h=>simp[V.plain]at hp
 |_=>exact one rfl
theorem qR.one_cells {v:V}{x:Value}(h:qR β F w v x)(hx:x.oneCell'=true):v.cells=[v]:=by
 cases h with
 |t h=>cases h with
  |agg cs vs hl h1 h=>simp[Value.oneCell']at hx
  |_=>rfl
 |agg cs vs hl h1 h=>simp[Value.oneCell']at hx
 |_=>rfl
theorem qR.one_plain {v:V}{x:Value}(h:qR β F w v x)(hx:x.oneCell'=true):v.plain=true:=by
 cases h with
 |t h=>cases h with
  |tup cs vs hl h=>simp[Value.oneCell']at hx
  |_=>rfl
 |tup cs vs hl h=>simp[Value.oneCell']at hx
 |_=>rfl
theorem qBw {x:Value}{v:V}(h:V.ofConst x=some v):qR β F w v x:=by
 unfold V.ofConst at h;split at h
 .cases h;exact .t (.int _ _)
 .cases h;exact .t (.bool _)
 .cases h;exact .t (.str _)
 .cases h;exact .t .fnil
 .cases h;exact .t .pnil
 .split at h
  .rename_i hlc;obtain⟨rfl,rfl⟩:=hlc;cases h;exact .nil
  .cases h
 .split at h
  .rename_i vs hv;cases h;exact .tup [] vs hv (by intro i c u hc;simp at hc)
  .cases h
 .cases h
theorem qQv {α β:Type}{f:α->Option β}:∀{l:List α}{r:List β},l.mapM f=some r->r.length=l.length/\∀(i:Nat)(x:α)(y:β),l[i]?=some x->r[i]?=some y->f x=some y
 |[],r,h=>by simp at h;subst h;exact⟨rfl,by intro i x y hx;simp at hx⟩
 |a::l,r,h=>by
  simp only[mapM_cons,Option.pure_def,Option.bind_eq_bind,Option.bind_eq_some_iff]at h;obtain⟨b,hb,r',hr,h⟩:=h;cases h;obtain⟨h1,h2⟩:=qQv hr;refine⟨by simp[h1],λi x y hx hy=>?_⟩;cases i with
  |zero=>simp at hx hy;subst hx hy;exact hb
  |succ i=>simp at hx hy;exact h2 i x y hx hy
theorem qQq {i n z j:Nat}(hi:i<n)(hj:j<z):i*z+j<n*z:=by
 have:(i+1)*z<=n*z:=Nat.mul_le_mul_right z hi;have h2:(i+1)*z=i*z+z:=by rw[Nat.add_mul,Nat.one_mul]
 omega
theorem vB.one {v:V}{x:Value}(h:qR β F w v x)(hp:v.plain=true):vB β F w [v] v.cells.length x.cells:=by
 obtain⟨h1,h2⟩:=h.cells;intro i y hy;cases i with
 |succ i=>simp at hy
 |zero=>
  simp at hy;subst hy;refine⟨rfl,λj c hc=>?_⟩;have hj:j<x.cells.size:=by rw[h1];exact(List.getElem?_eq_some_iff.1 hc).1
  refine⟨x.cells[j],by simp[hj],h2 j c _ hc (by simp[hj]),h.plain_one hp _ sM⟩
theorem vB.cells {v:V}{x:Value}(h:qR β F w v x)(hp:v.plain=true):vB β F w v.cells 1 x.cells:=by
 obtain⟨h1,h2⟩:=h.cells;intro i y hy;have hi:i<x.cells.size:=by rw[h1];exact(List.getElem?_eq_some_iff.1 hy).1
 have hone:x.cells[i].oneCell'=true:=h.plain_one hp _ sM;have hr:qR β F w y x.cells[i]:=h2 i y _ hy (by simp[hi]);have hc:=hr.one_cells hone;rw[hc];refine⟨rfl,λj c hj=>?_⟩;cases j with
 |succ j=>simp at hj
 |zero=>simp at hj;subst hj;exact⟨x.cells[i],by simp[hi],hr,hone⟩
theorem jG7 (R:Rel cx β F fm hm a w){v:V}{x:Value}(h:qR β F w v x):Out cx β F fm hm a w v [] (pure x):=Out.same R rfl h
theorem qW2 {cs:List V}{us:List Value}{off n:Nat}{agg:Bool}{v:V}(h:qUb cs off n agg=some v)
  (hl:us.length=cs.length) (h1:∀u∈us,u.oneCell'=true) (hr:∀(i:Nat)(c:V)(u:Value),cs[i]?=some c->us[i]?=some u->qR β F w c u) :
  if agg then off+n<=us.length/\qR β F w v (.agg ((us.drop off).take n).toArray) else ∃u,us[off]?=some u/\qR β F w v u:=by
 unfold qUb at h;cases agg
 .simp only[Bool.false_eq_true,if_false]at h⊢;have hlt:off<us.length:=by rw[hl];exact(List.getElem?_eq_some_iff.1 h).1
  exact⟨us[off],by simp[hlt],hr off v _ h (by simp[hlt])⟩
 .simp only[if_true]at h⊢;split at h
  .rename_i hle;cases h;refine⟨oM,qR.mk (by simp[hl]) (λu hu=>h1 u (mem_of_mem_drop (mem_of_mem_take (by simpa using hu)))) (λi c u hc hu=>?_)⟩;simp only[getElem?_take,getElem?_drop]at hc;simp only[getElem?_toArray,getElem?_take,getElem?_drop]at hu;split at hc
   .rename_i hlt;rw[if_pos hlt]at hu;exact hr _ c u hc hu
   .cases hc
  .cases h
theorem Rel.obj (R:Rel cx β F fm hm a w){id b z:Nat}{es:List V}{wr full:Bool}{bi:BI}(h:hm id=some (.live z es wr full))(hb:β id=some bi)(hbk:bi.blk=some b) :
  ∃(c:Array Value)(e:TypeId)(fz:Nat×Nat),w.heap[b]?=some (.cells c e fz)/\(∀j,(j<c.size->¬ (fz.1<=j/\j<fz.2))/\fz.1<=fz.2)/\
   c.size=bi.room*bi.sz/\es.length<=bi.room/\bi.room<=maxLen/\vB β F w es bi.sz c/\(full=true->bi.room=es.length)/\bi.sz=z:=by
 obtain⟨bi',hb',hok⟩:=R.hp id _ h;rw[hb]at hb';cases hb';unfold qG9 at hok;simp only[hbk]at hok;obtain⟨hz,h0,c,e,fz,h1,h2,h3,h4,h5,h6,_⟩:=hok;exact⟨c,e,fz,h1,h2,h3,h4,h5,h6,h0,hz⟩
theorem vB.elem {es:List V}{sz:Nat}{c:Array Value}{room:Nat}(h:vB β F w es sz c)(hc:c.size=room*sz)(hl:es.length<=room){i:Nat}{x:V}(hx:es[i]?=some x) :
  x.cells.length=sz/\((c.toList.drop (i*sz)).take sz).length=sz/\(∀u∈(c.toList.drop (i*sz)).take sz,u.oneCell'=true)/\
   (∀(j:Nat)(y:V)(u:Value),x.cells[j]?=some y->((c.toList.drop (i*sz)).take sz)[j]?=some u->qR β F w y u):=by
 obtain⟨h1,h2⟩:=h i x hx;have hi:i<room:=Nat.lt_of_lt_of_le (List.getElem?_eq_some_iff.1 hx).1 hl;have hle:(i+1)*sz<=room*sz:=Nat.mul_le_mul_right sz hi;have e2:(i+1)*sz=i*sz+sz:=by rw[Nat.add_mul,Nat.one_mul]
 have hlen:((c.toList.drop (i*sz)).take sz).length=sz:=soM;have get:∀j u,((c.toList.drop (i*sz)).take sz)[j]?=some u->j<sz/\c[i*sz+j]?=some u:=by
  intro j u hu;simp only[getElem?_take,getElem?_drop]at hu;split at hu
  .rename_i hlt;exact⟨hlt,by simpa using hu⟩
  .cases hu
 refine⟨h1,hlen,λu hu=>?_,λj y u hy hu=>?_⟩
 .obtain⟨j,hj⟩:=getElem?_of_mem hu;obtain⟨hlt,hcu⟩:=get j u hj;have hjx:j<x.cells.length:=oM;obtain⟨u',hu',_,hone⟩:=h2 j x.cells[j] (by simp[hjx]);rw[hcu]at hu';cases hu';exact hone
 .obtain⟨hlt,hcu⟩:=get j u hu;obtain⟨u',hu',hr,_⟩:=h2 j y hy;rw[hcu]at hu';cases hu';exact hr
theorem qMz {P:Program}{t:TypeId}{i:TypeInfo}{d:TypeDesc}(hi:P.info? t=some i)(hd:P.underlying t=some d)(h1:vV d=false->i.size=1)
  {b:Nat} {c:Array Value} {e:TypeId} {fz:Nat×Nat} (hb:w.heap[b]?=some (.cells c e fz)) {o:Nat} (hle:o+i.size<=c.size) :
  (Instr.loadAt t (.pointer (some ⟨b,o,none⟩))).run P w=.ok (if vV d then .agg ((c.toList.drop o).take i.size).toArray else((c.toList.drop o).take i.size).headD undef) w:=by
 unfold Instr.loadAt;simp only[Instr.sureAddr,Sem.run_bind,Sem.run_pure,Result.andThen_ok];refine qXg hi hd _ _ soM (λj v hv=>?_) h1;simp only[getElem?_take,getElem?_drop]at hv;split at hv
 .rw[Addr.add_lit,cell_of_row w b _ c e fz hb];simpa using hv
 .cases hv
theorem qY5 {α:Type}(l:List α)(p q m n:Nat)(h:q+n<=m):((((l.drop p).take m).drop q).take n)=(l.drop (p+q)).take n:=by
 apply ext_getElem?;intro j;simp only[getElem?_take,getElem?_drop];by_cases hj:j<n
 .rw[if_pos hj,if_pos hj,if_pos oM];congr 1;omega
 .rw[if_neg hj,if_neg hj]
def zPc (P:Program)(β:Nat->Option BI)(F:Nat->Prop)(w:World)(v:V)(s:Sem Value):Prop:=∃x,s.run P w=.ok x w/\qR β F w v x
theorem zPc.of {P:Program}{v:V}{x:Value}{s:Sem Value}(h:s.run P w=.ok x w)(hr:qR β F w v x):zPc P β F w v s:=⟨x,h,hr⟩
theorem zPc.out {v:V}{s:Sem Value}(h:zPc cx.P β F w v s)(R:Rel cx β F fm hm a w):Out cx β F fm hm a w v [] s:=let ⟨_,h1,h2⟩:=h;Out.same R h1 h2
theorem zFh (R:Rel cx β F fm hm a w){t:TypeId}{ti:TypeInfo}{d:TypeDesc}(hi:cx.P.info? t=some ti)(hd:cx.P.underlying t=some d)(h1:vV d=false->ti.size=1)
  {id i f:Nat} {p:Value} (hp:qR β F w (.ref id i f) p) {z:Nat} {es:List V} {wr full:Bool} (ho:hm id=some (.live z es wr full)) {x v:V} (hx:es[i]?=some x)
  (hle:f+ti.size<=x.cells.length) (hv:qUb x.cells f ti.size (vV d)=some v):zPc cx.P β F w v (Instr.loadAt t p):=by
 cases hp with
 |ref _ _ _ b sz room hb=>
  obtain⟨c,e,fz,h2,h3,h4,h5,h6,h7,h8,_⟩:=R.obj ho hb rfl;simp only at h4 h5 h7;obtain⟨e1,e2,e3,e4⟩:=h7.elem h4 h5 hx;have hir:i<room:=Nat.lt_of_lt_of_le (List.getElem?_eq_some_iff.1 hx).1 h5;have hle2:(i+1)*sz<=room*sz:=Nat.mul_le_mul_right sz hir;have e5:(i+1)*sz=i*sz+sz:=by rw[Nat.add_mul,Nat.one_mul]
  have hrun:=qMz (P:=cx.P) (w:=w) hi hd h1 h2 (o:=i*sz+f) oM;have hpart:=qW2 hv (by rw[e2,e1]) e3 e4;have hdt:((c.toList.drop (i*sz)).take sz |>.drop f |>.take ti.size)=(c.toList.drop (i*sz+f)).take ti.size:=qY5 _ _ _ _ _ oM;cases hg:vV d
  .rw[hg]at hrun hpart;simp only[Bool.false_eq_true,if_false]at hrun hpart;obtain⟨u,hu,hr⟩:=hpart;have hs1:=h1 hg;refine zPc.of hrun ?_;have:((c.toList.drop (i*sz+f)).take ti.size).headD undef=u:=by
    have:((c.toList.drop (i*sz+f)).take ti.size)[0]?=some u:=by
     simp only[getElem?_take,getElem?_drop]at hu⊢;rw[if_pos oM];split at hu
     .simpa using hu
     .cases hu
    cases hq:(c.toList.drop (i*sz+f)).take ti.size with
    |nil=>rw[hq]at this;simp at this
    |cons z r=>rw[hq]at this;simp at this;simp[this]
   rw[this];exact hr
  .rw[hg]at hrun hpart;simp only[if_true]at hrun hpart;rw[hdt]at hpart;exact zPc.of hrun hpart.2
theorem zFz {y:V}(h:y.single=true):y.cells=[y]:=by
 unfold V.single at h;split at h
 .cases h
 .cases h
 .rename_i h1 h2;cases y with
  |agg cs=>exact absurd rfl (h1 cs)
  |t x=>cases x with
   |agg cs=>exact absurd rfl (h2 cs)
   |_=>rfl
  |_=>rfl
theorem zY6 {es:List V}(h:qWx es=true){i:Nat}{y:V}(hy:es[i]?=some y):y.cells=[y]:=by
 unfold qWx at h;rw[all_eq_true]at h;exact zFz (h y (mem_of_getElem? hy))
theorem vB.ones {es:List V}{sz:Nat}{c:Array Value}(h:vB β F w es sz c)(h1:Eng.qWx es=true){i:Nat}{y:V}(hy:es[i]?=some y) :
  sz=1/\∃u,c[i]?=some u/\qR β F w y u/\u.oneCell'=true:=by
 obtain⟨k1,k2⟩:=h i y hy;rw[zY6 h1 hy]at k1 k2;have hs:sz=1:=by simpa using k1.symm
 subst hs;obtain⟨u,hu,hr,ho⟩:=k2 0 y sM;exact⟨rfl,u,by simpa using hu,hr,ho⟩
theorem zFg (R:Rel cx β F fm hm a w){t:TypeId}{ti:TypeInfo}{d:TypeDesc}(hi:cx.P.info? t=some ti)(hd:cx.P.underlying t=some d)(hg:vV d=true)
  {id i:Nat} {p:Value} (hp:qR β F w (.ref id i 0) p) {z:Nat} {es:List V} {wr full:Bool} (ho:hm id=some (.live z es wr full)) {x:V} (hx:es[i]?=some x)
  (h1:qWx es=true) (hle:i+ti.size<=es.length):zPc cx.P β F w (V.mk ((es.drop i).take ti.size)) (Instr.loadAt t p):=by
 cases hp with
 |ref _ _ _ b sz room hb=>
  obtain⟨c,e,fz,h2,h3,h4,h5,h6,h7,h8,_⟩:=R.obj ho hb rfl;simp only at h4 h5 h7;obtain⟨hsz,_⟩:=h7.ones h1 hx;subst hsz;have hrun:=qMz (P:=cx.P) (w:=w) hi hd (by simp[hg]) h2 (o:=i*1+0) oM;rw[hg]at hrun;simp only[if_true]at hrun;have get:∀(j:Nat)(u:Value),((c.toList.drop (i*1+0)).take ti.size)[j]?=some u->j<ti.size/\c[i+j]?=some u:=by
   intro j u hu;simp only[getElem?_take,getElem?_drop,Nat.mul_one,Nat.add_zero]at hu;split at hu
   .rename_i hlt;exact⟨hlt,by simpa using hu⟩
   .cases hu
  refine zPc.of hrun (qR.mk soM (λu hu=>?_) (λj y u hy hu=>?_))
  .obtain⟨j,hj⟩:=getElem?_of_mem (by simpa using hu);obtain⟨hlt,hc⟩:=get j u (by simpa using hj);have hjl:i+j<es.length:=oM;obtain⟨_,u',hu',_,hone⟩:=h7.ones h1 (i:=i+j) (y:=es[i+j]) (by simp[hjl]);rw[hc]at hu';cases hu';exact hone
  .obtain⟨hlt,hc⟩:=get j u (by simpa using hu);have hy':es[i+j]?=some y:=by
    simp only[getElem?_take,getElem?_drop]at hy;rwa [if_pos hlt]at hy
   obtain⟨_,u',hu',hr,_⟩:=h7.ones h1 hy';rw[hc]at hu';cases hu';exact hr
theorem qW0 (R:Rel cx β F fm hm a w){t:TypeId}{ti:TypeInfo}{d:TypeDesc}(hi:cx.P.info? t=some ti)(hd:cx.P.underlying t=some d)(h1:vV d=false->ti.size=1)
  {cs:List T} {p:Value} (hp:qR β F w (.ro cs) p) (hle:ti.size<=cs.length) {v:V} (hv:if vV d then v=.t (.agg (cs.take ti.size)) else ∃x,cs[0]?=some x/\v=.t x) :
  zPc cx.P β F w v (Instr.loadAt t p):=by
 cases hp with
 |ro _ ad news ha hn ho hF hw h=>
  have hrun:(Instr.loadAt t (.pointer (some ad))).run cx.P w=.ok (if vV d then .agg (news.take ti.size).toArray else(news.take ti.size).headD undef) w:=by
   unfold Instr.loadAt;simp only[Instr.sureAddr,Sem.run_bind,Sem.run_pure,Result.andThen_ok];refine qXg hi hd _ _ soM (λj u hu=>?_) h1;simp only[getElem?_take]at hu;split at hu
   .exact hw j u hu
   .cases hu
  refine zPc.of hrun ?_;cases hg:vV d
  .rw[hg]at hv;simp only[Bool.false_eq_true,if_false]at hv⊢;obtain⟨x,hx,rfl⟩:=hv;have hs:=h1 hg;have hpos:0<news.length:=oM;obtain⟨u,hu⟩:∃u,news[0]?=some u:=⟨news[0],by simp[hpos]⟩;have h0:(news.take ti.size).headD undef=u:=by
    rw[hs];cases news with
    |nil=>simp at hpos
    |cons z r=>simpa using hu
   rw[h0];exact .t (h 0 x _ hx hu)
  .rw[hg]at hv;simp only[if_true]at hv⊢;subst hv;refine .t (.agg _ _ soM (λu hu=>ho u (mem_of_mem_take (by simpa using hu))) (λj c u hc hu=>?_));simp only[getElem?_take]at hc;simp only[getElem?_toArray,getElem?_take]at hu;split at hc
   .rename_i hlt;rw[if_pos hlt]at hu;exact h j c u hc hu
   .cases hc
end Go.Eng
end
section
namespace Go.Eng
open List
variable {cx:Cx}{β:Nat->Option BI}{F:Nat->Prop}{fm:Nat->Option V}{hm:Nat->Option Ob}{a:Act}{w:World}
def zMg (c:Array Value)(o:Nat):List Value->Array Value
 |[]=>c
 |v::r=>zMg (c.setIfInBounds o v) (o+1) r
theorem qRa (vs:List Value):∀(c:Array Value)(o:Nat),(zMg c o vs).size=c.size:=by
 induction vs with
 |nil=>intro c o;rfl
 |cons v r ih=>intro c o;rw[zMg,ih];simp
theorem qCv (vs:List Value):∀(c:Array Value)(o k:Nat),(k<o\/o+vs.length<=k)->(zMg c o vs)[k]?=c[k]?:=by
 induction vs with
 |nil=>intro c o k _;rfl
 |cons v r ih=>
  intro c o k h;simp only[length_cons]at h;rw[zMg,ih _ _ _ oM,Array.getElem?_setIfInBounds_ne oM]
theorem qPq (vs:List Value):∀(c:Array Value)(o:Nat),o+vs.length<=c.size->∀j,j<vs.length->(zMg c o vs)[o+j]?=vs[j]?:=by
 induction vs with
 |nil=>intro c o _ j hj;simp at hj
 |cons v r ih=>
  intro c o h j hj;simp only[length_cons]at h hj;rw[zMg];cases j with
  |zero=>
   rw[qCv _ _ _ _ oM];simp only[Nat.add_zero,getElem?_cons_zero];rw[Array.getElem?_setIfInBounds_self];rw[if_pos oM]
  |succ j=>
   have:=ih (c.setIfInBounds o v) (o+1) soM j oM;rw[show o+(j+1)=o+1+j by omega,this];simp
theorem zCq (b:Nat)(vs:List Value):∀(o:Nat)(w:World)(c:Array Value)(e:TypeId)(fz:Nat×Nat),w.heap[b]?=some (.cells c e fz)->
  (w.setCells b o vs).heap[b]?=some (.cells (zMg c o vs) e fz)/\(∀k,k≠b->(w.setCells b o vs).heap[k]?=w.heap[k]?)/\(w.setCells b o vs).heap.size=w.heap.size/\
   (w.setCells b o vs).os=w.os/\(w.setCells b o vs).tape=w.tape/\(w.setCells b o vs).output=w.output:=by
 induction vs with
 |nil=>intro o w c e fz h;exact⟨h,λ_ _=>rfl,rfl,rfl,rfl,rfl⟩
 |cons v r ih=>
  intro o w c e fz h;have h1:(w.setCell ⟨b,o,none⟩ v).heap[b]?=some (.cells (c.setIfInBounds o v) e fz):=by
   simp[World.setCell,Array.getElem?_modify,h]
  obtain⟨i1,i2,i3,i4,i5,i6⟩:=ih (o+1) (w.setCell ⟨b,o,none⟩ v) _ e fz h1;refine⟨i1,λk hk=>?_,?_,i4,i5,i6⟩
  .rw[World.setCells,i2 k hk];exact heap_setCell_other w _ k v hk
  .rw[World.setCells,i3];simp
theorem zRo {c:Array Value}{e:TypeId}{fz:Nat×Nat}{b j:Nat}(hb:w.heap[b]?=some (.cells c e fz))(hf:∀j,(j<c.size->¬ (fz.1<=j/\j<fz.2))/\fz.1<=fz.2)(hj:j<c.size) :
  w.frozen? ⟨b,j,none⟩=false:=by
 simp only[World.frozen?,hb];have:=(hf j).1 hj;simp only[Bool.and_eq_false_iff,decide_eq_false_iff_not];omega
theorem vW {P:Program}{b o:Nat}{c:Array Value}{e:TypeId}{fz:Nat×Nat}{vs:List Value}(hb:w.heap[b]?=some (.cells c e fz))(hf:∀j,(j<c.size->¬ (fz.1<=j/\j<fz.2))/\fz.1<=fz.2)
  (hle:o+vs.length<=c.size) (h1:∀v∈vs,v.oneCell'=true):(storeCells ⟨b,o,none⟩ vs).run P w=.ok () (w.setCells b o vs):=by
 refine run_storeCells_cells b o vs 0 w (λj hj=>?_) (λj hj=>?_) h1
 .rw[cell_of_row w b _ c e fz hb];simp;omega
 .exact zRo hb hf oM
theorem qXh {P:Program}{t:TypeId}{ti:TypeInfo}(hi:P.info? t=some ti){x:Value}(hx:x.cells.size=ti.size){b o:Nat}{c:Array Value}{e:TypeId}{fz:Nat×Nat}
  (hb:w.heap[b]?=some (.cells c e fz)) (hf:∀j,(j<c.size->¬ (fz.1<=j/\j<fz.2))/\fz.1<=fz.2) (hle:o+ti.size<=c.size) (h1:∀v∈x.cells,v.oneCell'=true) :
  (Instr.storeAt t (.pointer (some ⟨b,o,none⟩)) x).run P w=.ok () (w.setCells b o x.cells.toList):=by
 unfold Instr.storeAt;simp only[Instr.sureAddr,Sem.run_bind,Sem.run_pure,Result.andThen_ok,storeVar,yG hi,hx,ne_eq,not_true_eq_false,if_false];exact vW hb hf (by simpa [hx]using hle) (by simpa using h1)
def jKd (cx:Cx)(β:Nat->Option BI)(F:Nat->Prop)(fm:Nat->Option V)(hm:Nat->Option Ob)(a:Act)(w:World)(W:Wr)(s:Sem Unit):Prop:=
 ∃w',s.run cx.P w=.ok () w'/\Rel cx β F fm (upd hm W) a w'
theorem qA7 (R:Rel cx β F fm hm a w){id z:Nat}{es es':List V}{full full':Bool}(hid:hm id=some (.live z es true full)){b sz room:Nat}(hb:β id=some ⟨some b,sz,room⟩)
  {c:Array Value} {e:TypeId} {fz:Nat×Nat} (hblk:w.heap[b]?=some (.cells c e fz)) (hfz:∀j,(j<c.size->¬ (fz.1<=j/\j<fz.2))/\fz.1<=fz.2) (hc:c.size=room*sz)
  {o:Nat} {vs:List Value} (hl:es'.length<=room) (hfull:full'=true->room=es'.length) (hH:vB β F w es' sz (zMg c o vs)) :
  Rel cx β F fm (upd hm [(id,.live z es' true full')]) a (w.setCells b o vs):=by
 obtain⟨i1,i2,i3,i4,i5,i6⟩:=zCq b vs o w c e fz hblk;exact R.write hid hb rfl i4 i5 i6 i3 i2 i1 (by rw[qRa];exact hfz) (by rw[qRa];exact hc) hl hfull hH
theorem qCk {α:Type}(l:List α)(i:Nat)(xs:List α)(h:i+xs.length<=l.length)(j:Nat) :
  (zY l i xs)[j]?=if i<=j/\j<i+xs.length then xs[j-i]? else l[j]?:=by
 have h1:(l.take i).length=i:=soM;unfold zY;by_cases hj:j<i
 .rw[if_neg oM,append_assoc,getElem?_append_left oM,getElem?_take,if_pos hj]
 .by_cases hj2:j<i+xs.length
  .rw[if_pos ⟨oM,hj2⟩,append_assoc,getElem?_append_right oM,h1,getElem?_append_left oM]
  .rw[if_neg oM,append_assoc,getElem?_append_right oM,h1,getElem?_append_right oM,getElem?_drop];congr 1;omega
theorem qQp {α:Type}(l:List α)(i:Nat)(xs:List α)(h:i<=l.length)(j:Nat) :
  (zY l i xs)[j]?=if i<=j/\j<i+xs.length then xs[j-i]? else l[j]?:=by
 have h1:(l.take i).length=i:=soM;unfold zY;by_cases hj:j<i
 .rw[if_neg oM,append_assoc,getElem?_append_left oM,getElem?_take,if_pos hj]
 .by_cases hj2:j<i+xs.length
  .rw[if_pos ⟨oM,hj2⟩,append_assoc,getElem?_append_right oM,h1,getElem?_append_left oM]
  .rw[if_neg oM,append_assoc,getElem?_append_right oM,h1,getElem?_append_right oM,getElem?_drop];congr 1;omega
theorem qI2 {α:Type}(l:List α)(i:Nat)(xs:List α)(h:i<=l.length):(zY l i xs).length=Nat.max l.length (i+xs.length):=by
 unfold zY;simp only[length_append,length_take,length_drop];have:Nat.max l.length (i+xs.length)=max l.length (i+xs.length):=rfl;rw[this];omega
theorem qBu {α:Type}(l:List α)(i:Nat)(xs:List α)(h:i+xs.length<=l.length):(zY l i xs).length=l.length:=by
 unfold zY;simp;omega
theorem qMw (R:Rel cx β F fm hm a w){t:TypeId}{ti:TypeInfo}(hi:cx.P.info? t=some ti){id i f:Nat}{p x:Value}(hp:qR β F w (.ref id i f) p)
  {z:Nat} {es:List V} {full:Bool} (ho:hm id=some (.live z es true full)) {y v y':V} (hy:es[i]?=some y) (hv:qR β F w v x) (hpl:v.plain=true) (hn:v.cells.length=ti.size)
  (hle:f+ti.size<=y.cells.length) (hy':y'.cells=zY y.cells f v.cells):jKd cx β F fm hm a w [(id,.live z (es.set i y') true full)] (Instr.storeAt t p x):=by
 cases hp with
 |ref _ _ _ b sz room hb=>
  obtain⟨c,e,fz,h2,h3,h4,h5,h6,h7,h8,_⟩:=R.obj ho hb rfl;simp only at h4 h5 h7 h8;obtain⟨hxs,hxr⟩:=hv.cells;have hone:=hv.plain_one hpl;obtain⟨e1,e2,e3,e4⟩:=h7.elem h4 h5 hy;have hir:i<room:=Nat.lt_of_lt_of_le (List.getElem?_eq_some_iff.1 hy).1 h5;have hil:i<es.length:=(List.getElem?_eq_some_iff.1 hy).1;have hle2:(i+1)*sz<=room*sz:=Nat.mul_le_mul_right sz hir;have e5:(i+1)*sz=i*sz+sz:=by rw[Nat.add_mul,Nat.one_mul]
  have hlen:x.cells.toList.length=ti.size:=by simp[hxs,hn]
  refine⟨_,qXh hi (by rw[hxs,hn]) h2 h3 oM hone,qA7 R ho hb h2 h3 h4 (by simpa using h5) (λh=>by simpa using h8 h) ?_⟩;intro k zz hz;by_cases hki:k=i
  .subst hki;rw[getElem?_set_self hil]at hz;cases hz;rw[hy'];have hlr:f+v.cells.length<=y.cells.length:=oM;refine⟨by rw[qBu _ _ _ hlr];exact e1,λj q hq=>?_⟩;rw[qCk _ _ _ hlr]at hq;split at hq
   .rename_i hj;have hjx:j-f<x.cells.toList.length:=oM;have:=qPq x.cells.toList c (k*sz+f) oM (j-f) hjx;rw[show k*sz+f+(j-f)=k*sz+j by omega]at this;refine⟨x.cells.toList[j-f],by rw[this];simp,hxr (j-f) q _ hq sM,hone _ sM⟩
   .rename_i hj;have hjl:j<sz:=by rw[<-e1];exact(List.getElem?_eq_some_iff.1 hq).1
    obtain⟨_,h9⟩:=h7 k y hy;obtain⟨u,hu,hr,ho1⟩:=h9 j q hq;exact⟨u,by rw[qCv _ _ _ _ oM];exact hu,hr,ho1⟩
  .rw[getElem?_set_ne (Ne.symm hki)]at hz;obtain⟨k1,k2⟩:=h7 k zz hz;refine⟨k1,λj q hq=>?_⟩;obtain⟨u,hu,hr,ho1⟩:=k2 j q hq;refine⟨u,?_,hr,ho1⟩;have hjl:j<sz:=by rw[<-k1];exact(List.getElem?_eq_some_iff.1 hq).1
   rw[qCv _ _ _ _ ?_];exact hu;rcases Nat.lt_or_gt_of_ne hki with h|h
   .have h':(k+1)*sz<=i*sz:=Nat.mul_le_mul_right sz h;have:(k+1)*sz=k*sz+sz:=by rw[Nat.add_mul,Nat.one_mul]
    omega
   .have h':(i+1)*sz<=k*sz:=Nat.mul_le_mul_right sz h;omega
theorem zCc (R:Rel cx β F fm hm a w){t:TypeId}{ti:TypeInfo}(hi:cx.P.info? t=some ti){id i:Nat}{p x:Value}(hp:qR β F w (.ref id i 0) p)
  {z:Nat} {es:List V} {full:Bool} (ho:hm id=some (.live z es true full)) {y v:V} (hy:es[i]?=some y) (hv:qR β F w v x) (hpl:v.plain=true) (hn:v.cells.length=ti.size)
  (h1:qWx es=true) (hle:i+ti.size<=es.length):jKd cx β F fm hm a w [(id,.live z (zY es i v.cells) true full)] (Instr.storeAt t p x):=by
 cases hp with
 |ref _ _ _ b sz room hb=>
  obtain⟨c,e,fz,h2,h3,h4,h5,h6,h7,h8,_⟩:=R.obj ho hb rfl;simp only at h4 h5 h7 h8;obtain⟨hxs,hxr⟩:=hv.cells;have hone:=hv.plain_one hpl;obtain⟨hsz,_⟩:=h7.ones h1 hy;subst hsz;have hlr:i+v.cells.length<=es.length:=oM;have hlen:x.cells.toList.length=ti.size:=by simp[hxs,hn]
  refine⟨_,qXh hi (by rw[hxs,hn]) h2 h3 oM hone,qA7 R ho hb h2 h3 h4 (by rw[qBu _ _ _ hlr];exact h5) (λh=>by rw[qBu _ _ _ hlr];exact h8 h) ?_⟩;intro k zz hz;rw[qCk _ _ _ hlr]at hz;split at hz
  .rename_i hk;have hjx:k-i<x.cells.toList.length:=oM;have hset:=qPq x.cells.toList c (i*1+0) oM (k-i) hjx;have hu1:x.cells.toList[k-i].oneCell'=true:=hone _ sM;have hr1:qR β F w zz x.cells.toList[k-i]:=hxr (k-i) zz _ hz sM;have hzc:zz.cells=[zz]:=hr1.one_cells hu1;rw[hzc];refine⟨rfl,λj q hq=>?_⟩;cases j with
   |succ j=>simp at hq
   |zero=>
    simp at hq;subst hq;refine⟨x.cells.toList[k-i],?_,hr1,hu1⟩;rw[show k*1+0=i*1+0+(k-i) by omega,hset];simp
  .rename_i hk;obtain⟨k1,k2⟩:=h7 k zz hz;refine⟨k1,λj q hq=>?_⟩;obtain⟨u,hu,hr,ho1⟩:=k2 j q hq;have hjl:j<1:=by rw[<-k1];exact(List.getElem?_eq_some_iff.1 hq).1
   exact⟨u,by rw[qCv _ _ _ _ oM];exact hu,hr,ho1⟩
end Go.Eng
end
section
namespace Go.Eng
open List
variable {cx:Cx}{β:Nat->Option BI}{F:Nat->Prop}{fm:Nat->Option V}{hm:Nat->Option Ob}{a:Act}{w:World}
def Src (β:Nat->Option BI)(F:Nat->Prop)(w:World)(xs:List V)(z:Nat)(news:List Value):Prop:=
 news.length=xs.length*z/\(∀u∈news,u.oneCell'=true)/\∀(i:Nat)(y:V),xs[i]?=some y->y.cells.length=z/\∀(j:Nat)(q:V),y.cells[j]?=some q->∃u,news[i*z+j]?=some u/\qR β F w q u/\u.oneCell'=true
theorem Src.mono {β':Nat->Option BI}{F':Nat->Prop}{w':World}{xs:List V}{z:Nat}{news:List Value}(h:Src β F w xs z news)(hβ:∀i bi,β i=some bi->β' i=some bi)(hF:∀b,F b->F' b)
  (hw:∀b,F b->w'.heap[b]?=w.heap[b]?):Src β' F' w' xs z news:=
 ⟨h.1,h.2.1,λi y hy=>let ⟨a,b⟩:=h.2.2 i y hy;⟨a,λj q hq=>let ⟨u,c,d,e⟩:=b j q hq;⟨u,c,d.mono hβ hF hw,e⟩⟩⟩
theorem zDx {z:Nat}{es:List V}(h:zOk z es=true){i:Nat}{y:V}(hy:es[i]?=some y):y.cells.length=z:=by
 unfold zOk at h;rw[all_eq_true]at h;simpa using h y (mem_of_getElem? hy)
theorem jBv {z:Nat}{es:List T}(h:qZ3 z es=true){y:T}(hy:y∈es):y.cells.length=z:=by
 unfold qZ3 at h;rw[all_eq_true]at h;simpa using h y hy
theorem qNa (e:T):(V.t e).cells=e.cells.map .t:=by
 cases e<;>rfl
theorem qA0 {e:T}{j:Nat}{q:V}(h:(V.t e).cells[j]?=some q):∃c,e.cells[j]?=some c/\q=.t c:=by
 rw[qNa,getElem?_map,Option.map_eq_some_iff]at h;obtain⟨c,h1,h2⟩:=h;exact⟨c,h1,h2.symm⟩
theorem qRc (R:Rel cx β F fm hm a w){v:V}{x:Value}{xs:List V}{l:List Nat}{z:Nat}(h:(qDm v).run hm=some (xs,l))(hz:zOk z xs=true)(hv:qR β F w v x) :
  (x=.slice none 0 0/\xs=[])\/∃ad cap news,x=.slice (some ad) xs.length cap/\True/\Src β F w xs z news/\∀j u,news[j]?=some u->w.cell? (ad.add j)=some u:=by
 unfold qDm at h;split at h
 .simp only[Q.run,Option.some.injEq,Prod.mk.injEq]at h;obtain⟨rfl,rfl⟩:=h;cases hv;exact .inl ⟨rfl,rfl⟩
 .rename_i es;simp only[Q.run,Option.some.injEq,Prod.mk.injEq]at h;obtain⟨rfl,rfl⟩:=h;cases hv with
  |t hv=>
   cases hv with
   |nil=>exact .inl ⟨rfl,rfl⟩
   |sl _ ad cap sz news ha hc hn h1 hF hw hzz hr=>
    refine .inr ⟨ad,cap,news,sM,trivial,⟨?_,h1,λi y hy=>?_⟩,hw⟩
    .rw[length_map,hn];cases es with
     |nil=>simp
     |cons e r=>
      have:=zDx hz (i:=0) (y:= .t e) sM;rw[qNa,length_map,hzz e sM]at this;rw[this]
    .rw[getElem?_map,Option.map_eq_some_iff]at hy;obtain⟨e,he,rfl⟩:=hy;have hk:=zDx hz (i:=i) (y:= .t e) (by simp[he]);refine⟨hk,λj q hq=>?_⟩;obtain⟨c,hc',rfl⟩:=qA0 hq;have hsz:sz=z:=by rw[qNa,length_map,hzz e (mem_of_getElem? he)]at hk;exact hk
     subst hsz;have hj:j<sz:=by rw[<-hzz e (mem_of_getElem? he)];exact(List.getElem?_eq_some_iff.1 hc').1
     have hi:i<es.length:=(List.getElem?_eq_some_iff.1 he).1;have hlt:i*sz+j<news.length:=by rw[hn];exact qQq hi hj
     exact⟨news[i*sz+j],by simp[hlt],.t (hr i e j c _ he hc' (by simp[hlt])),h1 _ sM⟩
 .rename_i id off len;simp only[Q.run]at h;cases ho:hm id with
  |none=>rw[ho]at h;cases h
  |some o=>
   rw[ho]at h;cases o with
   |dead=>simp[Q.run]at h
   |live z0 es wr full=>
    by_cases hle:off+len<=es.length
    .simp only[Q.assert,hle,if_true,Q.run,Option.some.injEq,Prod.mk.injEq]at h;obtain⟨rfl,rfl⟩:=h
     .cases hv with
      |slv _ sz room hb=>exact .inl ⟨rfl,sM⟩
      |sl _ _ _ scap b sz room ad hb hlc hr had hs=>
       obtain⟨c,e,fz,h2,h3,h4,h5,h6,h7,h8,_⟩:=R.obj ho hb rfl;simp only at h4 h5 h7;have hxl:((es.drop off).take len).length=len:=soM;refine .inr ⟨ad,scap,(c.toList.drop (off*sz)).take (len*sz),by rw[hxl],trivial,⟨?_,?_,?_⟩,?_⟩
       .have hlen:((c.toList.drop (off*sz)).take (len*sz)).length=len*sz:=by
         have:(off+len)*sz<=room*sz:=Nat.mul_le_mul_right sz oM;have e2:(off+len)*sz=off*sz+len*sz:=by rw[Nat.add_mul]
         simp;omega
        rw[hlen,hxl];cases hq:(es.drop off).take len with
        |nil=>rw[hq]at hxl;simp at hxl;subst hxl;simp
        |cons y r=>
         have h0:((es.drop off).take len)[0]?=some y:=by rw[hq];rfl
         have k1:=zDx hz h0;have h0':es[off]?=some y:=by
          simp only[getElem?_take,getElem?_drop]at h0;split at h0
          .simpa using h0
          .cases h0
         rw[<-k1,(h7 off y h0').1]
       .intro u hu;obtain⟨j,hj⟩:=getElem?_of_mem hu;simp only[getElem?_take,getElem?_drop]at hj;split at hj
        .rename_i hjlt;have hszp:0<sz:=by
          rcases Nat.eq_zero_or_pos sz with h0|h0
          .subst h0;simp at hjlt
          .exact h0
         have hdiv:j/sz<len:=Nat.div_lt_of_lt_mul (by rw[Nat.mul_comm];exact hjlt);have hmod:j%sz<sz:=Nat.mod_lt _ hszp;have hjeq:j/sz*sz+j%sz=j:=by rw[Nat.mul_comm];exact Nat.div_add_mod j sz
         have hel:off+j/sz<es.length:=oM;obtain⟨k1,k2⟩:=h7 (off+j/sz) es[off+j/sz] (by simp[hel]);obtain⟨u',hu',_,hone⟩:=k2 (j%sz) (es[off+j/sz].cells[j%sz]'(oM)) sM;have:(off+j/sz)*sz+j%sz=off*sz+j:=by rw[Nat.add_mul];omega
         rw[this]at hu';have hj':c[off*sz+j]?=some u:=by simpa using hj
         rw[hj']at hu';cases hu';exact hone
        .cases hj
       .intro i y hy;have hk:=zDx hz hy;have hy':es[off+i]?=some y/\i<len:=by
         simp only[getElem?_take,getElem?_drop]at hy;split at hy
         .rename_i hlt;exact⟨hy,hlt⟩
         .cases hy
        obtain⟨k1,k2⟩:=h7 (off+i) y hy'.1;have hsz:sz=z:=oM;subst hsz;refine⟨hk,λj q hq=>?_⟩;obtain⟨u,hu,hr',ho'⟩:=k2 j q hq;have hj:j<sz:=by rw[<-k1];exact(List.getElem?_eq_some_iff.1 hq).1
        refine⟨u,?_,hr',ho'⟩;simp only[getElem?_take,getElem?_drop];rw[if_pos (qQq hy'.2 hj)];have:off*sz+(i*sz+j)=(off+i)*sz+j:=by rw[Nat.add_mul];omega
        rw[this];simpa using hu
       .intro j u hu;simp only[getElem?_take,getElem?_drop]at hu;split at hu
        .rename_i hjlt;have hlt:0<scap:=by
          rcases Nat.eq_zero_or_pos len with h0|h0
          .subst h0;simp at hjlt
          .omega
         rw[had hlt,Addr.add_lit,cell_of_row w b _ c e fz h2];simpa using hu
        .cases hu
    .simp[Q.assert,hle,Q.run]at h
 .simp[Q.run]at h
section
variable {P:Program}
theorem qF5 (t t' ty e e':TypeId)(i:TypeInfo)(ht:P.underlying t=some (.slice e))(ht':P.underlying t'=some (.slice e'))(hi:P.info? e=some i)
  (base:Option Addr) (sLen sCap:Nat) (x:Option Addr) (n cp:Nat) (news:List Value) (hn:x=none->news=[]) (hl:news.length=n*i.size)
  (hnews:∀ad,x=some ad->∀j u,news[j]?=some u->w.cell? (ad.add j)=some u) (hroom:sLen+n<=sCap) (w':World)
  (hst:∀ad,base=some ad->(storeCells (ad.add (sLen*i.size)) news).run P w=.ok () w') (hb:base=none->w'=w) :
  (Builtin.append_ #[t,t'] ty #[.slice base sLen sCap,.slice x n cp]).run P w=.ok (.slice base (sLen+n) sCap) w':=by
 have hf:(Builtin.firstCells i.size n (.slice x n cp)).run P w=.ok news.toArray w:=by
  cases x with
  |none=>simp[Builtin.firstCells,hn rfl]
  |some ad=>exact run_firstCells_some w i.size n ad n cp news hl (hnews ad rfl)
 cases base with
 |none=>simp[Builtin.append_,run_underlying ht,run_underlying ht',sizeOf,typeInfo,hi,Builtin.lenOf,hroom,hf,hb rfl]
 |some ad=>simp[Builtin.append_,run_underlying ht,run_underlying ht',sizeOf,typeInfo,hi,Builtin.lenOf,hroom,hf,hst ad rfl]
theorem zFn (t t' ty e e':TypeId)(i:TypeInfo)(z:Value)(ht:P.underlying t=some (.slice e))(ht':P.underlying t'=some (.slice e'))(hi:P.info? e=some i)(hz:i.zero=some z)
  (base:Option Addr) (sLen sCap:Nat) (olds:List Value) (hbn:base=none->olds=[]) (hlo:olds.length=sLen*i.size) (holds:∀ad,base=some ad->∀j v,olds[j]?=some v->w.cell? (ad.add j)=some v)
  (x:Option Addr) (n cp:Nat) (news:List Value) (hn:x=none->news=[]) (hl:news.length=n*i.size)
  (hnews:∀ad,x=some ad->∀j u,news[j]?=some u->w.cell? (ad.add j)=some u)
  (hg:sCap<sLen+n) (h63:sLen+n<=maxLen) (hfit:(sLen+n)*i.bytes<=140737488355328) :
  (Builtin.append_ #[t,t'] ty #[.slice base sLen sCap,.slice x n cp]).run P w =
   .ok (.slice (some ⟨w.heap.size,0,none⟩) (sLen+n) (grownCap w (sLen+n) sCap e))
    (w.drew.alloc (.cells (olds.toArray++news.toArray++Builtin.zeroCells z.cells (grownCap w (sLen+n) sCap e-(sLen+n))) e)):=by
 have hnn:¬ (sLen+n<=sCap):=oM;have h63':¬ (9223372036854775807<((sLen:Int)+(n:Int))):=by unfold maxLen at h63;omega
 have h48:=growslice_fits hg hfit;have h48':¬ (281474976710656<Builtin.nextslicecap (sLen+n) sCap*i.bytes):=oM;have hf:(Builtin.firstCells i.size n (.slice x n cp)).run P w.drew=.ok news.toArray w.drew:=by
  cases x with
  |none=>simp[Builtin.firstCells,hn rfl]
  |some ad=>exact run_firstCells_some w.drew i.size n ad n cp news hl (by simpa using hnews ad rfl)
 have hfo:(Builtin.firstCells i.size sLen (.slice base sLen sCap)).run P w.drew=.ok olds.toArray w.drew:=by
  cases base with
  |none=>simp[Builtin.firstCells,hbn rfl]
  |some ad=>exact run_firstCells_some w.drew i.size sLen ad sLen sCap olds hlo (by simpa using holds ad rfl)
 simp[Builtin.append_,run_underlying ht,run_underlying ht',sizeOf,typeInfo,zeroValue,hi,hz,Builtin.lenOf,hnn,h63',h48',Question.forced,hf,hfo,newRow,grownCap];congr 2;apply Array.ext';simp[append_assoc]
end
theorem Src.get {xs:List V}{z:Nat}{news:List Value}(h:Src β F w xs z news){i:Nat}{y:V}(hy:xs[i]?=some y){j:Nat}{q:V}(hq:y.cells[j]?=some q) :
  ∃u,news[i*z+j]?=some u/\qR β F w q u/\u.oneCell'=true:=(h.2.2 i y hy).2 j q hq
theorem qLi {es xs:List V}{z:Nat}{olds news:List Value}(h1:Src β F w es z olds)(h2:Src β F w xs z news)(rest:List Value):vB β F w (es++xs) z (olds++news++rest).toArray:=by
 intro i y hy;rw[getElem?_append]at hy;split at hy
 .rename_i hlt;refine⟨(h1.2.2 i y hy).1,λj q hq=>?_⟩;obtain⟨u,hu,hr,ho⟩:=h1.get hy hq;refine⟨u,?_,hr,ho⟩;have:i*z+j<olds.length:=(List.getElem?_eq_some_iff.1 hu).1;rw[getElem?_toArray,append_assoc,getElem?_append_left this];exact hu
 .rename_i hlt;refine⟨(h2.2.2 _ y hy).1,λj q hq=>?_⟩;obtain⟨u,hu,hr,ho⟩:=h2.get hy hq;refine⟨u,?_,hr,ho⟩;have hn:(i-es.length)*z+j<news.length:=(List.getElem?_eq_some_iff.1 hu).1;have he:i*z+j=olds.length+((i-es.length)*z+j):=by
   rw[h1.1,<-Nat.add_assoc,<-Nat.add_mul];congr 2;omega
  rw[getElem?_toArray,append_assoc,he,getElem?_append_right oM,getElem?_append_left oM];rw[<-hu];congr 1;omega
theorem vB.src {es:List V}{sz:Nat}{c:Array Value}{room:Nat}(h:vB β F w es sz c)(hc:c.size=room*sz)(hl:es.length<=room):Src β F w es sz (c.toList.take (es.length*sz)):=by
 have hle:es.length*sz<=room*sz:=Nat.mul_le_mul_right sz hl;refine⟨soM,λu hu=>?_,λi y hy=>⟨(h i y hy).1,λj q hq=>?_⟩⟩
 .obtain⟨j,hj⟩:=getElem?_of_mem hu;simp only[getElem?_take]at hj;split at hj
  .rename_i hjlt;have hszp:0<sz:=by
    rcases Nat.eq_zero_or_pos sz with h0|h0
    .subst h0;simp at hjlt
    .exact h0
   have hdiv:j/sz<es.length:=Nat.div_lt_of_lt_mul (by rw[Nat.mul_comm];exact hjlt);have hmod:j%sz<sz:=Nat.mod_lt _ hszp;have hjeq:j/sz*sz+j%sz=j:=by rw[Nat.mul_comm];exact Nat.div_add_mod j sz
   obtain⟨k1,k2⟩:=h (j/sz) es[j/sz] (by simp[hdiv]);obtain⟨u',hu',_,hone⟩:=k2 (j%sz) (es[j/sz].cells[j%sz]'(oM)) sM;rw[hjeq]at hu';have hj':c[j]?=some u:=by simpa using hj
   rw[hj']at hu';cases hu';exact hone
  .cases hj
 .obtain⟨u,hu,hr,ho⟩:=(h i y hy).2 j q hq;refine⟨u,?_,hr,ho⟩;have hi:i<es.length:=(List.getElem?_eq_some_iff.1 hy).1;have hj:j<sz:=by rw[<-(h i y hy).1];exact(List.getElem?_eq_some_iff.1 hq).1
  rw[getElem?_take,if_pos (qQq hi hj)];simpa using hu
theorem zU3 {id nb:Nat}{o p q:Ob}:upd (upd hm [(id,o),(nb,p)]) [(nb,q)]=upd hm [(id,o),(nb,q)]:=by
 funext j;simp only[upd];by_cases h:j=nb<;>simp[h]
end Go.Eng
end
section
namespace Go.Eng
open List
variable {cx:Cx}{β:Nat->Option BI}{F:Nat->Prop}{fm:Nat->Option V}{hm:Nat->Option Ob}{a:Act}{w:World}
theorem qD7 (w:World)(need old:Nat)(e:TypeId)(h:need<=maxLen):need<=grownCap w need old e/\grownCap w need old e<=maxLen:=
 ⟨grownCap_ge w need old e,grownCap_le_maxLen w need old e h⟩
theorem zCb (R:Rel cx β F fm hm a w){nb:Nat}(hnb:hm nb=none){t t' ty e e':TypeId}{i:TypeInfo}{z:Value}(ht:cx.P.underlying t=some (.slice e))(ht':cx.P.underlying t'=some (.slice e'))
  (hi:cx.P.info? e=some i) (hz:i.zero=some z) (hzs:z.cells.size=i.size)
  {es xs:List V} {olds news:List Value} (hs1:Src β F w es i.size olds) (hs2:Src β F w xs i.size news)
  {base:Option Addr} {sCap:Nat} (hbn:base=none->olds=[]) (holds:∀ad,base=some ad->∀j v,olds[j]?=some v->w.cell? (ad.add j)=some v)
  {x:Option Addr} {cp:Nat} (hn:x=none->news=[]) (hnews:∀ad,x=some ad->∀j u,news[j]?=some u->w.cell? (ad.add j)=some u)
  (hg:sCap<es.length+xs.length) (h63:es.length+xs.length<=maxLen) (hfit:(es.length+xs.length)*i.bytes<=140737488355328) :
  Out cx β F fm hm a w (.sl nb 0 (es.length+xs.length)) [(nb,.live i.size (es++xs) true false)] (Builtin.append_ #[t,t'] ty #[.slice base es.length sCap,.slice x xs.length cp]):=by
 have hrun:=zFn (w:=w) t t' ty e e' i z ht ht' hi hz base es.length sCap olds hbn hs1.1 holds x xs.length cp news hn hs2.1 hnews hg h63 hfit;obtain⟨hge,hmx⟩:=qD7 w (es.length+xs.length) sCap e h63;have hsz:(olds.toArray++news.toArray++Builtin.zeroCells z.cells (grownCap w (es.length+xs.length) sCap e-(es.length+xs.length))).size=grownCap w (es.length+xs.length) sCap e*i.size:=by
  simp only[Array.size_append,size_toArray,size_zeroCells,hzs,hs1.1,hs2.1,<-Nat.add_mul];congr 1;omega
 have hH:=qLi hs1 hs2 (Builtin.zeroCells z.cells (grownCap w (es.length+xs.length) sCap e-(es.length+xs.length))).toList;have hal:=R.drew.alloc (w':=w.drew.alloc (.cells (olds.toArray++news.toArray++Builtin.zeroCells z.cells (grownCap w (es.length+xs.length) sCap e-(es.length+xs.length))) e)) (nb:=nb) hnb
  (fz:=(0,0)) (wr:=true) (es:=es++xs) (full:=false) (sz:=i.size) (room:=grownCap w (es.length+xs.length) sCap e) rfl rfl rfl rfl rfl (λj=>⟨λ_=>sM,sM⟩) hsz
  (by simpa using hge) hmx sM (by
   have:(olds.toArray++news.toArray++Builtin.zeroCells z.cells (grownCap w (es.length+xs.length) sCap e-(es.length+xs.length))) =
     (olds++news++(Builtin.zeroCells z.cells (grownCap w (es.length+xs.length) sCap e-(es.length+xs.length))).toList).toArray:=by
    apply Array.ext';simp
   rw[this];exact hH.mono (λ_ _ h=>h) (λ_ h=>h) (λ_ _=>rfl))
 refine⟨_,_,_,hrun,hal.1,?_,hal.2⟩;have:=qR.sl (β:=qYp β nb ⟨some w.heap.size,i.size,grownCap w (es.length+xs.length) sCap e⟩) (F:=F) (w:=w.drew.alloc (.cells (olds.toArray++news.toArray++Builtin.zeroCells z.cells (grownCap w (es.length+xs.length) sCap e-(es.length+xs.length))) e))
  nb 0 (es.length+xs.length) (grownCap w (es.length+xs.length) sCap e) w.heap.size i.size (grownCap w (es.length+xs.length) sCap e) ⟨w.heap.size,0,none⟩ zG oM oM (λ_=>sM) rfl
 simpa using this
theorem qXo {z:Nat}:Src β F w [] z []:=⟨sM,sM,by intro i y hy;simp at hy⟩
theorem qYy (R:Rel cx β F fm hm a w){nb:Nat}(hnb:hm nb=none){t t' ty e e':TypeId}{i:TypeInfo}{z:Value}(ht:cx.P.underlying t=some (.slice e))(ht':cx.P.underlying t'=some (.slice e'))
  (hi:cx.P.info? e=some i) (hz:i.zero=some z) (hzs:z.cells.size=i.size)
  {v:V} {x:Value} {xs:List V} {l:List Nat} (hx:(qDm v).run hm=some (xs,l)) (hzo:zOk i.size xs=true) (hv:qR β F w v x) (hsz:qDy xs.length i.bytes) :
  Out cx β F fm hm a w (.sl nb 0 xs.length) [(nb,.live i.size xs true false)] (Builtin.append_ #[t,t'] ty #[.slice none 0 0,x]):=by
 rcases qRc R hx hzo hv with⟨rfl,rfl⟩|⟨ad,cap,news,rfl,has,hs,hw⟩
 .have hvt:=R.virt hnb (full:=false) i.size;refine⟨_,_,_,qF5 t t' ty e e' i ht ht' hi none 0 0 none 0 0 [] (λ_=>rfl) sM sM (Nat.le_refl _) w sM (λ_=>rfl),hvt.1,?_,hvt.2⟩;exact .slv nb i.size 0 zG
 .by_cases h0:xs.length=0
  .have:xs=[]:=eq_nil_of_length_eq_zero h0;subst this;have hn:news=[]:=eq_nil_of_length_eq_zero (by simpa using hs.1);subst hn;have hvt:=R.virt hnb (full:=false) i.size;refine⟨_,_,_,qF5 t t' ty e e' i ht ht' hi none 0 0 (some ad) 0 cap [] sM sM sM (Nat.le_refl _) w sM (λ_=>rfl),hvt.1,?_,hvt.2⟩;exact .slv nb i.size 0 zG
  .have:=zCb (es:=[]) R hnb (t:=t) (t':=t') (ty:=ty) ht ht' hi hz hzs qXo hs (base:=none) (sCap:=0) (λ_=>rfl) sM (x:=some ad) (cp:=cap) sM (by intro ad' h;cases h;exact hw)
    soM (by simpa using hsz.1) (by simpa using hsz.2)
   simpa using this
theorem qYz (R:Rel cx β F fm hm a w){nb:Nat}(hnb:hm nb=none){t t' ty e e':TypeId}{i:TypeInfo}{z:Value}(ht:cx.P.underlying t=some (.slice e))(ht':cx.P.underlying t'=some (.slice e'))
  (hi:cx.P.info? e=some i) (hz:i.zero=some z) (hzs:z.cells.size=i.size)
  {v:V} {x:Value} {xs:List V} {l:List Nat} (hx:(qDm v).run hm=some (xs,l)) (hzo:zOk i.size xs=true) (hv:qR β F w v x)
  {id len:Nat} {p:Value} (hp:qR β F w (.sl id 0 len) p) {es:List V} {full:Bool} (hid:hm id=some (.live i.size es true full)) (hel:es.length=len)
  (hsz:qDy (len+xs.length) i.bytes) (h100:100<=id) :
  Out cx β F fm hm a w (.sl nb 0 (len+xs.length)) [(id,.dead),(nb,.live i.size (es++xs) true false)] (Builtin.append_ #[t,t'] ty #[p,x]):=by
 have hne:id≠nb:=λh=>by subst h;rw[hid]at hnb;cases hnb
 have hk:=R.kill hid;have hkn:upd hm [(id,.dead)] nb=none:=by simp[upd,Ne.symm hne,hnb]
 have hsrc:=qRc R hx hzo hv;have post:∀{s:Sem Value}{m:Nat},Out cx β F fm (upd hm [(id,.dead)]) a w (.sl nb 0 m) [(nb,.live i.size (es++xs) true false)] s->
   Out cx β F fm hm a w (.sl nb 0 m) [(id,.dead),(nb,.live i.size (es++xs) true false)] s:=λ⟨x,w',β',h1,h2,h3,h4⟩=>⟨x,w',β',h1,h2,h3,h4⟩
 obtain⟨xp,cap,news,hxeq,hxn,hs,hw⟩:∃xp cap news,x=.slice xp xs.length cap/\(xp=none->news=[])/\Src β F w xs i.size news/\(∀ad,xp=some ad->∀j u,news[j]?=some u->w.cell? (ad.add j)=some u):=by
  rcases hsrc with⟨rfl,rfl⟩|⟨ad,cap,news,rfl,has,hs,hw⟩
  .exact⟨none,0,[],rfl,λ_=>rfl,qXo,sM⟩
  .exact⟨some ad,cap,news,rfl,sM,hs,by intro ad' h;cases h;exact hw⟩
 subst hxeq;cases hp with
 |slv _ sz room hb=>
  obtain⟨bi',hb',hok⟩:=R.hp id _ hid;rw[hb]at hb';cases hb';simp only[qG9]at hok;obtain⟨_,_,hnil,_⟩:=hok;subst hnil;by_cases h0:xs.length=0
  .have:xs=[]:=eq_nil_of_length_eq_zero h0;subst this;have hn:news=[]:=eq_nil_of_length_eq_zero (by simpa using hs.1);subst hn;have hvt:=hk.virt hkn (full:=false) i.size;refine post ⟨_,_,_,qF5 t t' ty e e' i ht ht' hi none 0 0 xp 0 cap [] hxn sM sM (Nat.le_refl _) w sM (λ_=>rfl),hvt.1,?_,hvt.2⟩;exact .slv nb i.size 0 zG
  .have:=zCb (es:=[]) hk hkn (t:=t) (t':=t') (ty:=ty) ht ht' hi hz hzs qXo hs (base:=none) (sCap:=0) (λ_=>rfl) sM (x:=xp) (cp:=cap) hxn hw
    soM (by simpa using hsz.1) (by simpa using hsz.2)
   exact post (by simpa using this)
 |sl _ _ _ scap b sz room bad hb hlc hr had hspot=>
  subst hel;obtain⟨c,ce,fz,h2,h3,h4,h5,h6,h7,h8,h9⟩:=R.obj hid hb rfl;simp only at h4 h5 h6 h7 h8 h9;subst h9;have hold:=h7.src h4 h5;by_cases hroom:es.length+xs.length<=scap
  .have hroom':es.length+xs.length<=room:=oM;have hre:=R.rename hid hb hnb h100;have hle:es.length*i.size+xs.length*i.size<=c.size:=by
    rw[h4,<-Nat.add_mul];exact Nat.mul_le_mul_right _ hroom'
   have hst:(storeCells (bad.add (es.length*i.size)) news).run cx.P w=.ok () (w.setCells b (es.length*i.size) news):=by
    by_cases hrp:0<scap
    .have hbad:=had hrp;simp only[Nat.zero_mul]at hbad;subst hbad;rw[Addr.add_lit,Nat.zero_add];exact vW h2 h3 (by rw[hs.1];exact hle) hs.2.1
    .have hx0:xs.length=0:=oM;have hn:news=[]:=eq_nil_of_length_eq_zero (by rw[hs.1,hx0];simp);subst hn;rfl
   have hrel:=qA7 hre.1 (id:=nb) (z:=i.size) (es:=es) (es':=es++xs) (full:=full) (full':=false) (by simp[upd]) zG h2 h3 h4 (o:=es.length*i.size) (vs:=news) (by simpa using hroom') sM (by
    intro k y hy;rw[getElem?_append]at hy;split at hy
    .rename_i hlt;obtain⟨k1,k2⟩:=h7 k y hy;refine⟨k1,λj q hq=>?_⟩;obtain⟨u,hu,hru,hou⟩:=k2 j q hq;have hj:j<i.size:=by rw[<-k1];exact(List.getElem?_eq_some_iff.1 hq).1
     exact⟨u,by rw[qCv _ _ _ _ (.inl (qQq hlt hj))];exact hu,hru.mono hre.2 (λ_ h=>h) (λ_ _=>rfl),hou⟩
    .rename_i hlt;obtain⟨k1,k2⟩:=hs.2.2 _ y hy;refine⟨k1,λj q hq=>?_⟩;obtain⟨u,hu,hru,hou⟩:=k2 j q hq;have hult:(k-es.length)*i.size+j<news.length:=(List.getElem?_eq_some_iff.1 hu).1;have:=qPq news c (es.length*i.size) (by rw[hs.1];exact hle) _ hult;have he:es.length*i.size+((k-es.length)*i.size+j)=k*i.size+j:=by
      rw[<-Nat.add_assoc,<-Nat.add_mul];congr 2;omega
     rw[he]at this;exact⟨u,by rw[this];exact hu,hru.mono hre.2 (λ_ h=>h) (λ_ _=>rfl),hou⟩)
   rw[zU3]at hrel;refine⟨_,_,_,qF5 t t' ty e e' i ht ht' hi (some bad) es.length scap xp xs.length cap news hxn hs.1 hw hroom _ (by intro ad h;cases h;exact hst) sM,hrel,?_,hre.2⟩;exact .sl nb 0 (es.length+xs.length) scap b i.size room bad zG hroom hr had hspot
  ·
   have:=zCb hk hkn (t:=t) (t':=t') (ty:=ty) ht ht' hi hz hzs hold hs (base:=some bad) (sCap:=scap) sM (by
     intro ad h j u hu;cases h;simp only[getElem?_take]at hu;split at hu
     .rename_i hlt;have hrp:0<scap:=by
       rcases Nat.eq_zero_or_pos es.length with h0|h0
       .rw[h0]at hlt;simp at hlt
       .omega
      rw[had hrp,Addr.add_lit,cell_of_row w b _ c ce fz h2];simpa using hu
     .cases hu) (x:=xp) (cp:=cap) hxn hw oM hsz.1 hsz.2
   exact post this
end Go.Eng
end
section
namespace Go.Eng
open List
variable {cx:Cx}{β:Nat->Option BI}{F:Nat->Prop}{fm:Nat->Option V}{hm:Nat->Option Ob}{a:Act}{w:World}
def zPb (agg:Bool):Value->Option V
 |.agg cs=>if agg then(cs.toList.mapM V.ofConst).map V.mk else none
 |v=>if agg then none else V.ofConst v
def qF0 (cs:Array Value):Bool:=cs.all Value.oneCell'
theorem qQa {agg:Bool}{z:Value}{v:V}(h:zPb agg z=some v)(h1:qF0 z.cells=true):qR β F w v z/\v.plain=true:=by
 have h1':∀u∈z.cells,u.oneCell'=true:=by
  unfold qF0 at h1;rw[Array.all_eq_true_iff_forall_mem]at h1;exact h1
 unfold zPb at h;split at h
 .rename_i cs;split at h
  .simp only[Option.map_eq_some_iff]at h;obtain⟨vs,hvs,rfl⟩:=h;obtain⟨hl,hg⟩:=qQv hvs;refine⟨qR.mk (by simpa using hl.symm) h1' (λi c u hc hu=>qBw (hg i u c (by simpa using hu) hc)),?_⟩;unfold V.mk;split<;>rfl
  .cases h
 .rename_i hne;split at h
  .cases h
  .have hr:qR β F w v z:=qBw h;refine⟨hr,hr.one_plain ?_⟩;have hz:z.cells = #[z]:=by
    cases z with
    |agg cs=>exact absurd rfl (hne cs)
    |_=>rfl
   exact h1' z (by rw[hz];simp)
theorem zYn {z:Array Value}{n i j:Nat}(hi:i<n)(hj:j<z.size):(madeCells z (n*z.size))[i*z.size+j]?=some z[j]:=by
 have hlt:=qQq hi hj;have hmod:(i*z.size+j)%z.size=j:=by rw[Nat.mul_comm,Nat.mul_add_mod];exact Nat.mod_eq_of_lt hj
 simp[madeCells,hlt,hmod,hj]
theorem qLj {v:V}{z:Value}(hr:qR β F w v z)(hp:v.plain=true){n l:Nat}(hl:l<=n):vB β F w (List.replicate l v) v.cells.length (madeCells z.cells (n*v.cells.length)):=by
 obtain⟨h1,h2⟩:=hr.cells;intro i y hy;rw[getElem?_replicate]at hy;split at hy
 .rename_i hi;cases hy;refine⟨rfl,λj q hq=>?_⟩;have hj:j<z.cells.size:=by rw[h1];exact(List.getElem?_eq_some_iff.1 hq).1
  rw[<-h1];exact⟨z.cells[j],zYn oM hj,h2 j q _ hq (by simp[hj]),hr.plain_one hp _ sM⟩
 .cases hy
theorem zZc (R:Rel cx β F fm hm a w){nb:Nat}(hnb:hm nb=none){t e:TypeId}{i:TypeInfo}{z:Value}{agg:Bool}{zv:V}(ht:cx.P.underlying t=some (.slice e))
  (hi:cx.P.info? e=some i) (hz:i.zero=some z) (hzv:zPb agg z=some zv) (h1:qF0 z.cells=true) (hsize:zv.cells.length=i.size)
  {lv cv:V} {lx cxv:Value} {l c:Int} (hl:qR β F w lv lx) (hc:qR β F w cv cxv) (hl':vY lv=some l) (hc':vY cv=some c) (h0:0<=l) (hlc:l<=c) (hsz:qDy c.toNat i.bytes) :
  Out cx β F fm hm a w (.sl nb 0 l.toNat) [(nb,.live i.size (List.replicate l.toNat zv) true false)] (Instr.makeSlice t lx cxv):=by
 obtain⟨kl,rfl⟩:=hl.intArg_inv hl';obtain⟨kc,rfl⟩:=hc.intArg_inv hc';obtain⟨hr,hp⟩:=qQa (β:=β) (F:=F) (w:=w) hzv h1;obtain⟨s1,s2⟩:=hsz;have hcn:(c.toNat:Int)=c:=Int.toNat_of_nonneg oM;have hrun:=run_make (P:=cx.P) w t e i z ht hi hz kl kc l c h0 hlc (by
  have:((c.toNat*i.bytes:Nat):Int)<=140737488355328:=oM;rw[Int.natCast_mul,hcn,Int.mul_comm]at this;omega) (by unfold maxLen at s1;omega)
 have hzsz:z.cells.size=i.size:=by rw[hr.cells.1,hsize]
 have hal:=R.alloc (w':=w.alloc (.cells (madeCells z.cells (c.toNat*i.size)) e)) (nb:=nb) hnb (fz:=(0,0)) (wr:=true) (es:=List.replicate l.toNat zv) (full:=false) (sz:=i.size) (room:=c.toNat)
  rfl rfl rfl rfl rfl (λj=>⟨λ_=>sM,sM⟩) (size_madeCells _ _) soM s1 sM (by rw[<-hsize];exact qLj hr hp oM)
 refine⟨_,_,_,hrun,hal.1,?_,hal.2⟩;have:=qR.sl (β:=qYp β nb ⟨some w.heap.size,i.size,c.toNat⟩) (F:=F) (w:=w.alloc (.cells (madeCells z.cells (c.toNat*i.size)) e)) nb 0 l.toNat c.toNat w.heap.size i.size c.toNat ⟨w.heap.size,0,none⟩ zG oM oM (λ_=>sM) rfl;simpa using this
theorem zHk (b:UInt8):(V.t (qA b)).cells=[.t (qA b)]:=rfl
theorem jG8 (R:Rel cx β F fm hm a w){nb:Nat}(hnb:hm nb=none){src dst e:TypeId}(hs:cx.P.underlying src=some .string)(hd:cx.P.underlying dst=some (.slice e))(he:cx.P.underlying e=some (.int .u8))
  {s:ByteArray} (hsz:qDy s.size 1) :
  Out cx β F fm hm a w (.sl nb 0 s.size) [(nb,.live 1 (s.data.toList.map λb=>.t (qA b)) true false)] (convert src dst (.string s)):=by
 have hrun:=run_bytes_of_string (P:=cx.P) w src dst e s hs hd he;obtain⟨hge,hmx⟩:=qD7 w s.size 0 e hsz.1;have hsize:(bytesRow s (grownCap w s.size 0 e)).size=grownCap w s.size 0 e*1:=by
  simp[bytesRow];have:s.data.size=s.size:=rfl;omega
 have hlen:(s.data.toList.map λb=>V.t (qA b)).length=s.size:=sM;have hal:=R.drew.alloc (w':=w.drew.alloc (.cells (bytesRow s (grownCap w s.size 0 e)) e ((bytesRow s (grownCap w s.size 0 e)).size,(bytesRow s (grownCap w s.size 0 e)).size+1))) (nb:=nb) hnb
  (wr:=true) (es:=s.data.toList.map λb=>.t (qA b)) (full:=false) (sz:=1) (room:=grownCap w s.size 0 e)
  rfl rfl rfl rfl rfl (λj=>⟨λhj=>oM,sM⟩) hsize (by rw[hlen];exact hge) hmx sM (by
   intro i y hy;rw[getElem?_map,Option.map_eq_some_iff]at hy;obtain⟨b,hb,rfl⟩:=hy;rw[zHk];refine⟨rfl,λj q hq=>?_⟩;cases j with
   |succ j=>simp at hq
   |zero=>
    simp at hq;subst hq;have hi:i<s.data.size:=by simpa using(List.getElem?_eq_some_iff.1 hb).1
    have hb':s.data[i]=b:=by
     have:=(List.getElem?_eq_some_iff.1 hb).2;simpa using this
    refine⟨.int .u8 b.toNat,?_,.t (.int _ _),rfl⟩;simp only[bytesRow,Nat.mul_one,Nat.add_zero];rw[Array.getElem?_append_left (by simpa using hi)];rw[Array.getElem?_map,Array.getElem?_eq_getElem hi,hb'];rfl)
 refine⟨_,_,_,hrun,hal.1,?_,hal.2⟩;have:=qR.sl (β:=qYp β nb ⟨some w.heap.size,1,grownCap w s.size 0 e⟩) (F:=F)
  (w:=w.drew.alloc (.cells (bytesRow s (grownCap w s.size 0 e)) e ((bytesRow s (grownCap w s.size 0 e)).size,(bytesRow s (grownCap w s.size 0 e)).size+1)))
  nb 0 s.size (grownCap w s.size 0 e) w.heap.size 1 (grownCap w s.size 0 e) ⟨w.heap.size,0,none⟩ zG oM oM (λ_=>sM) rfl
 simpa using this
theorem qV3:∀{es:List V}{bs:List UInt8},qHz es=some bs->∃ns:List Int,es=ns.map (λn=>V.t (.int .u8 n))/\bs=ns.map (λn=>UInt8.ofNat n.toNat)
 |[],bs,h=>by simp[qHz]at h;subst h;exact⟨[],rfl,rfl⟩
 |v::r,bs,h=>by
  unfold qHz at h;split at h
  .rename_i heq;cases heq
  .rename_i n r' heq;cases heq;simp only[Option.map_eq_some_iff]at h;obtain⟨bs',h1,rfl⟩:=h;obtain⟨ns,h2,h3⟩:=qV3 h1;exact⟨n::ns,by simp[h2],by simp[h3]⟩
  .cases h
theorem qLf:∀(l:List Int)(r:ByteArray),l.foldl (λr n=>r.push (UInt8.ofNat n.toNat)) r=⟨r.data++(l.map λn=>UInt8.ofNat n.toNat).toArray⟩
 |[],r=>sM
 |n::l,r=>by
  simp only[map_cons,foldl_cons];rw[qLf l];simp[ByteArray.push]
theorem qT7 (l:List Int):l.foldl (λr n=>r.push (UInt8.ofNat n.toNat)) ByteArray.empty=⟨(l.map λn=>UInt8.ofNat n.toNat).toArray⟩:=by
 rw[qLf];congr 1;apply Array.ext';rw[Array.toList_append];rfl
theorem jG6 (R:Rel cx β F fm hm a w){src dst e:TypeId}(hs:cx.P.underlying src=some (.slice e))(he:cx.P.underlying e=some (.int .u8))(hd:cx.P.underlying dst=some .string)
  {v:V} {x:Value} {es:List V} {l:List Nat} (hx:(qDm v).run hm=some (es,l)) (hv:qR β F w v x) {bs:List UInt8} (hb:qHz es=some bs) :
  Out cx β F fm hm a w (.t (.str ⟨bs.toArray⟩)) [] (convert src dst x):=by
 obtain⟨ns,rfl,rfl⟩:=qV3 hb;have hz:zOk 1 (ns.map λn=>V.t (.int .u8 n))=true:=by
  unfold zOk;rw[all_eq_true];intro y hy;simp at hy;obtain⟨n,_,rfl⟩:=hy;rfl
 have hc:∀x,(convert src dst x).run cx.P w=(Conv.bytesToString x).run cx.P w\/∀a n c,x≠ .slice a n c:=by
  intro x;cases x<;>first|(right;intro a n c h;cases h;done)|left
  simp[convert,run_underlying hs,run_underlying hd,run_underlying he]
 rcases qRc R hx hz hv with⟨rfl,hnil⟩|⟨ad,cap,news,rfl,has,hsrc,hw⟩
 .have:ns=[]:=by simpa using hnil
  subst this;refine Out.same R ((hc _).resolve_right (λh=>h _ _ _ rfl) |>.trans (by simp[Conv.bytesToString];rfl)) (.t (.str _))
 .have hn:news=ns.map (Value.int .u8):=by
   apply ext_getElem?;intro j;by_cases hj:j<ns.length
   .obtain⟨u,hu,hr,_⟩:=hsrc.get (i:=j) (y:= .t (.int .u8 ns[j])) (by simp[hj]) (j:=0) (q:= .t (.int .u8 ns[j])) rfl;rw[hr.int_inv]at hu;simp only[Nat.mul_one,Nat.add_zero]at hu;rw[hu];simp[hj]
   .have:news.length=ns.length:=by simpa using hsrc.1
    rw[getElem?_eq_none oM,getElem?_eq_none soM]
  subst hn;have hl:=run_loadCells_list (P:=cx.P) w ad _ hw;have hrun:=run_bytesToString (P:=cx.P) w ad (ns.map λn=>V.t (.int .u8 n)).length cap ns (by
   rw[length_map];rw[length_map]at hl;exact hl)
  refine Out.same R ((hc _).resolve_right (λh=>h _ _ _ rfl) |>.trans hrun) ?_;rw[qT7];exact .t (.str _)
theorem qYt (off:Nat)(vs:List Value):∀(k:Nat)(c:Array Value),((vs.zipIdx k).foldl (λcs (x:Value×Nat)=>cs.setIfInBounds (off+x.2) x.1) c)=zMg c (off+k) vs:=by
 induction vs with
 |nil=>intro k c;rfl
 |cons v r ih=>
  intro k c;rw[zipIdx_cons,foldl_cons,ih];rfl
theorem qLg (off:Nat)(vs c:Array Value):(vs.zipIdx.foldl (λcs (x,j)=>cs.setIfInBounds (off+j) x) c)=zMg c off vs.toList:=by
 have:=qYt off vs.toList 0 c;rw[Nat.add_zero]at this;rw[<-this,<-Array.foldl_toList,Array.toList_zipIdx]
def qTq (β:Nat->Option BI)(F:Nat->Prop)(w:World)(cs:List V)(c:Array Value):Prop:=
 c.size=cs.length/\(∀u∈c,u.oneCell'=true)/\∀(i:Nat)(y:V)(u:Value),cs[i]?=some y->c[i]?=some u->qR β F w y u
theorem qTq.set {cs:List V}{c:Array Value}(h:qTq β F w cs c){v:V}{x:Value}(hv:qR β F w v x)(hp:v.plain=true){off:Nat}(hle:off+v.cells.length<=cs.length) :
  qTq β F w (zY cs off v.cells) (zMg c off x.cells.toList):=by
 obtain⟨h1,h2,h3⟩:=h;obtain⟨k1,k2⟩:=hv.cells;have hone:=hv.plain_one hp;have hxl:x.cells.toList.length=v.cells.length:=by simp[k1]
 have get:∀(i:Nat)(u:Value),(zMg c off x.cells.toList)[i]?=some u->(off<=i/\i<off+v.cells.length/\x.cells[i-off]?=some u)\/((i<off\/off+v.cells.length<=i)/\c[i]?=some u):=by
  intro i u hu;by_cases hi:off<=i/\i<off+v.cells.length
  .left;have:=qPq x.cells.toList c off oM (i-off) oM;rw[show off+(i-off)=i by omega,hu]at this;exact⟨hi.1,hi.2,by simpa using this.symm⟩
  .right;rw[qCv _ _ _ _ oM]at hu;exact⟨oM,hu⟩
 refine⟨by rw[qRa,qBu _ _ _ hle,h1],λu hu=>?_,λi y u hy hu=>?_⟩
 .obtain⟨i,hi⟩:=Array.getElem?_of_mem hu;rcases get i u hi with⟨_,_,hx⟩|⟨_,hx⟩
  .exact hone u (Array.mem_of_getElem? hx)
  .exact h2 u (Array.mem_of_getElem? hx)
 .rw[qCk _ _ _ hle]at hy;rcases get i u hu with⟨g1,g2,hx⟩|⟨g1,hx⟩
  .rw[if_pos ⟨g1,g2⟩]at hy;exact k2 _ y u hy hx
  .rw[if_neg oM]at hy;exact h3 i y u hy hx
theorem qPb (place:Nat->Option (Nat×Nat)):∀{ps:List (Nat×Value)}{pl:List (Nat×Nat)}{vs cs cs':List V}{c:Array Value},
  ps.map (λp=>place p.1)=pl.map some->xU (λ(p:Nat×Value) v=>qR β F w v p.2) ps vs->qTq β F w cs c->qYs cs pl vs=some cs'->
   ∃c',Instr.fill place c ps=some c'/\qTq β F w cs' c'
 |[],pl,vs,cs,cs',c,hpl,hall,hc,hf=>by
  cases hall;have:pl=[]:=by simpa using hpl.symm
  subst this;simp[qYs]at hf;subst hf;exact⟨c,rfl,hc⟩
 |(i,x)::ps,pl,vs,cs,cs',c,hpl,hall,hc,hf=>by
  cases hall with
  |cons hv hr=>
   rename_i v vs';cases pl with
   |nil=>simp at hpl
   |cons q pl'=>
    obtain⟨off,n⟩:=q;simp only[map_cons,List.cons.injEq]at hpl;simp only[qYs]at hf;split at hf
    .rename_i hcond;obtain⟨g1,g2,g3⟩:=hcond;have hv':qR β F w v x:=hv;have hxs:=hv'.cells.1;have hset:=hc.set hv' g3 (off:=off) oM;obtain⟨c',h1,h2⟩:=qPb place hpl.2 hr hset hf;refine⟨c',?_,h2⟩;unfold Instr.fill;rw[hpl.1];simp only;rw[if_neg (by
      have:=hc.1;simp only[Bool.or_eq_true,decide_eq_true_eq,ne_eq];omega),qLg]
     exact h1
    .cases hf
theorem qWk {z len:Nat}:∀{ps:List (Nat×Value)}{ix:List Nat}{vs es es':List V}{c:Array Value},
  ps.map (·.1)=ix->xU (λ(p:Nat×Value) v=>qR β F w v p.2) ps vs->es.length=len->c.size=len*z->vB β F w es z c->qYr z es ix vs=some es'->
   ∃c',Instr.fill (λi=>some (i*z,z)) c ps=some c'/\c'.size=len*z/\es'.length=len/\vB β F w es' z c'
 |[],ix,vs,es,es',c,hpl,hall,hl,hs,hH,hf=>by
  cases hall;subst hpl;simp[qYr]at hf;subst hf;exact⟨c,rfl,hs,hl,hH⟩
 |(i,x)::ps,ix,vs,es,es',c,hpl,hall,hl,hs,hH,hf=>by
  cases hall with
  |cons hv hr=>
   rename_i v vs';subst hpl;simp only[map_cons,qYr]at hf;split at hf
   .rename_i hcond;obtain⟨g1,g2,g3⟩:=hcond;have hv':qR β F w v x:=hv;obtain⟨k1,k2⟩:=hv'.cells;have hone:=hv'.plain_one g3;have hle:(i+1)*z<=len*z:=Nat.mul_le_mul_right z oM;have e5:(i+1)*z=i*z+z:=by rw[Nat.add_mul,Nat.one_mul]
    have hxl:x.cells.toList.length=z:=by simp[k1,g1]
    have hH':vB β F w (es.set i v) z (zMg c (i*z) x.cells.toList):=by
     intro k y hy;by_cases hk:k=i
     .subst hk;rw[getElem?_set_self g2]at hy;cases hy;refine⟨g1,λj q hq=>?_⟩;have hj:j<z:=by rw[<-g1];exact(List.getElem?_eq_some_iff.1 hq).1
      have:=qPq x.cells.toList c (k*z) oM j oM;have hjx:j<x.cells.size:=by rw[k1];omega
      exact⟨x.cells[j],by rw[this];simp[hjx],k2 j q _ hq (by simp[hjx]),hone _ sM⟩
     .rw[getElem?_set_ne (Ne.symm hk)]at hy;obtain⟨m1,m2⟩:=hH k y hy;refine⟨m1,λj q hq=>?_⟩;obtain⟨u,hu,hru,hou⟩:=m2 j q hq;have hj:j<z:=by rw[<-m1];exact(List.getElem?_eq_some_iff.1 hq).1
      refine⟨u,?_,hru,hou⟩;rw[qCv _ _ _ _ ?_];exact hu;rcases Nat.lt_or_gt_of_ne hk with h|h
      .have h':(k+1)*z<=i*z:=Nat.mul_le_mul_right z h;have:(k+1)*z=k*z+z:=by rw[Nat.add_mul,Nat.one_mul]
       omega
      .have h':(i+1)*z<=k*z:=Nat.mul_le_mul_right z h;omega
    obtain⟨c',h1,h2,h3,h4⟩:=qWk (ix:=ps.map (·.1)) rfl hr (by simpa using hl) (by rw[qRa];exact hs) hH' hf;refine⟨c',?_,h2,h3,h4⟩;unfold Instr.fill;simp only;rw[if_neg (by
     simp only[Bool.or_eq_true,decide_eq_true_eq,ne_eq];omega),qLg]
    exact h1
   .cases hf
end Go.Eng
end
