/- A part of an abstract machine, its walks, their tie. -/
import Derived.Test.YteglhhgmfnbalaaGreatDoorK4
import Derived.BigCall
set_option linter.all false
section
namespace Go.Eng
open List
mutual
def T.flat:T->Bool
 |.sl es=>es.isEmpty
 |.agg cs=>qT6 cs
 |.tup cs=>qT6 cs
 |_=>true
def qT6:List T->Bool
 |[]=>true
 |c::r=>c.flat&&qT6 r
end
mutual
def V.flat:V->Bool
 |.t x=>x.flat
 |.ro _=>false
 |.agg cs=>qPc cs
 |.tup cs=>qPc cs
 |.fn _ cs=>qPc cs
 |_=>true
def qPc:List V->Bool
 |[]=>true
 |c::r=>c.flat&&qPc r
end
def Ob.flat:Ob->Bool
 |.live _ es _ _=>qPc es
 |.dead=>true
def zH1 (obs:List Ob):Bool:=obs.all Ob.flat
theorem qQk:∀{cs:List T},qT6 cs=true->∀(i:Nat)(c:T),cs[i]?=some c->c.flat=true
 |[],_,i,c,hc=>by simp at hc
 |x::r,h,i,c,hc=>by
  simp only[qT6,Bool.and_eq_true]at h;cases i with
  |zero=>simp at hc;subst hc;exact h.1
  |succ i=>exact qQk h.2 i c (by simpa using hc)
theorem qHd:∀{cs:List V},qPc cs=true->∀(i:Nat)(c:V),cs[i]?=some c->c.flat=true
 |[],_,i,c,hc=>by simp at hc
 |x::r,h,i,c,hc=>by
  simp only[qPc,Bool.and_eq_true]at h;cases i with
  |zero=>simp at hc;subst hc;exact h.1
  |succ i=>exact qHd h.2 i c (by simpa using hc)
theorem zH2 {v:V}(h:v.flat=true)(i:Nat)(c:V)(hc:v.cells[i]?=some c):c.flat=true:=by
 have one:v.cells=[v]->c.flat=true:=by
  intro e;rw[e]at hc;cases i with
  |zero=>simp at hc;subst hc;exact h
  |succ i=>simp at hc
 cases v with
 |agg cs=>exact qHd (cs:=cs) (by simpa [V.flat]using h) i c hc
 |t x=>
  cases x with
  |agg cs=>
   simp only[V.cells,getElem?_map,Option.map_eq_some_iff]at hc;obtain⟨c',hc',rfl⟩:=hc;exact qQk (by simpa [V.flat,T.flat]using h) i c' hc'
  |_=>exact one rfl
 |_=>exact one rfl
variable {β:Nat->Option BI}{F:Nat->Prop}{w:World}
theorem Rep.flat {F2:Nat->Prop}{x:T}{v:Value}(h:Rep F w x v):x.flat=true->Rep F2 w x v:=by
 induction h with
 |int k n=>intro _;exact .int k n
 |bool b=>intro _;exact .bool b
 |str s=>intro _;exact .str s
 |fnil=>intro _;exact .fnil
 |pnil=>intro _;exact .pnil
 |agg cs vs hl h1 _ ih=>intro hf;exact .agg cs vs hl h1 (λi c u hc hu=>ih i c u hc hu (qQk (by simpa [T.flat]using hf) i c hc))
 |tup cs vs hl _ ih=>intro hf;exact .tup cs vs hl (λi c u hc hu=>ih i c u hc hu (qQk (by simpa [T.flat]using hf) i c hc))
 |nil=>intro _;exact .nil
 |sl es a cap sz news ha hc hn h1 hF hw hz _ ih=>
  intro hf;have:es=[]:=by simpa [T.flat]using hf
  subst this;exact .sl [] a cap sz news ha hc hn h1 sM hw hz (by intro i e j c u he;simp at he)
theorem qR.flat {F2:Nat->Prop}{x:V}{v:Value}(h:qR β F w x v):x.flat=true->qR β F2 w x v:=by
 induction h with
 |t h=>intro hf;exact .t (h.flat hf)
 |nil=>intro _;exact .nil
 |ref id i f b sz room hb=>intro _;exact .ref id i f b sz room hb
 |bd g id i f b sz room hb=>intro _;exact .bd g id i f b sz room hb
 |bq b=>intro _;exact .bq b
 |ro cs a news ha hn h1 hF hw h=>intro hf;simp[V.flat]at hf
 |sl id off len cap b sz room a hb hlc hr ha hs=>intro _;exact .sl id off len cap b sz room a hb hlc hr ha hs
 |slv id sz room hb=>intro _;exact .slv id sz room hb
 |agg cs vs hl h1 _ ih=>intro hf;exact .agg cs vs hl h1 (λi c u hc hu=>ih i c u hc hu (qHd (by simpa [V.flat]using hf) i c hc))
 |tup cs vs hl _ ih=>intro hf;exact .tup cs vs hl (λi c u hc hu=>ih i c u hc hu (qHd (by simpa [V.flat]using hf) i c hc))
 |fn f cs vs hl _ ih=>intro hf;exact .fn f cs vs hl (λi c u hc hu=>ih i c u hc hu (qHd (by simpa [V.flat]using hf) i c hc))
theorem qG9.flat {F2:Nat->Prop}{bi:BI}{z:Nat}{es:List V}{full:Bool}(h:qG9 β F w bi (.live z es true full))(hf:qPc es=true)(h2:∀b,bi.blk=some b->¬ F2 b) :
  qG9 β F2 w bi (.live z es true full):=by
 unfold qG9 at *;obtain⟨g1,g2,g3⟩:=h;refine⟨g1,g2,?_⟩;cases hb:bi.blk with
 |none=>simp only[hb]at g3⊢;exact g3
 |some b=>
  simp only[hb]at g3⊢;obtain⟨c,e,fz,k1,k2,k3,k4,k5,k6,k7⟩:=g3;refine⟨c,e,fz,k1,k2,k3,k4,k5,λi x hx=>?_,by simpa using h2 b hb⟩;obtain⟨m1,m2⟩:=k6 i x hx;refine⟨m1,λj y hy=>?_⟩;obtain⟨u,hu,hr,ho⟩:=m2 j y hy;exact⟨u,hu,hr.flat (zH2 (qHd hf i x hx) j y hy),ho⟩
def qDk (g:V->Q (V×List Nat)):List V->Q (List V×List Nat)
 |[]=>.ret ([],[])
 |c::r=>(g c).bind λp=>(qDk g r).bind λq=>.ret (p.1::q.1,p.2++q.2)
def zN:Nat->V->Q (V×List Nat)
 |_,.t x=>.ret (.t x,[])
 |_,.nil=>.ret (.t (.sl []),[])
 |_,.ro cs=>.ret (.ro cs,[])
 |_,.ref id i f=>.ret (.ref id i f,[])
 |_,.bd g id i f=>.ret (.bd g id i f,[])
 |n+1,.sl id off len=>.get id fun
  |.live _ es wr _=>Q.assert (off+len<=es.length)
   (match qFl es with
   |some ts=>.ret (.t (.sl ((ts.drop off).take len)),if wr then [id] else [])
   |none=>(qDk (zN n) es).bind λp=>match qFl p.1 with
    |some ts=>.ret (.t (.sl ((ts.drop off).take len)),if wr then id::p.2 else p.2)
    |none=>.fail)
  |.dead=>.fail
 |n+1,.agg cs=>(qDk (zN n) cs).bind λp=>.ret (V.mk p.1,p.2)
 |n+1,.fn f cs=>(qDk (zN n) cs).bind λp=>.ret (.fn f p.1,p.2)
 |_,_=>.fail
def qE3 (es:List V):Q (List V×List Nat):=
 match qFl es with
 |some _=>.ret (es,[])
 |none=>qDk (zN 3) es
mutual
def V.refs:V->List Nat
 |.ref id _ _=>[id]
 |.bd _ id _ _=>[id]
 |.sl id _ _=>[id]
 |.agg cs=>qA4 cs
 |.tup cs=>qA4 cs
 |.fn _ cs=>qA4 cs
 |_=>[]
def qA4:List V->List Nat
 |[]=>[]
 |c::r=>c.refs++qA4 r
end
def qBs:Nat->List Nat->List Nat->List Ob->List Nat->Q (List Nat×List Ob×List Nat)
 |_,[],ids,obs,fz=>.ret (ids,obs,fz)
 |0,_::_,_,_,_=>.fail
 |n+1,id::todo,ids,obs,fz=>if ids.contains id then qBs n todo ids obs fz else
  .get id fun
   |.live z es true full=>(qE3 es).bind λp=>qBs n (todo++(match qFl es with|some _=>[]|none=>qA4 p.1)) (ids++[id]) (obs++[.live z p.1 true full]) (fz++p.2)
   |_=>.fail
def qYn:List Nat->Q Wr
 |[]=>.ret []
 |id::r=>.get id fun
  |.live z es true full=>Q.assert (100<=id) ((qYn r).bind λq=>.ret ((id,.live z es false full)::q))
  |_=>.fail
structure CP where
 aS:List V
 ids:List Nat
 obs:List Ob
 fz:List Nat
 fw:Wr
def qV4 (keep:Bool)(vs:List V):Q CP:=
 (qDk (zN 4) vs).bind λp=>(qBs 12 (qA4 p.1) [] [] []).bind λq=>
  Q.assert ((keep=true\/q.2.2=[])/\(q.1.all λi => !(p.2++q.2.2).contains i)=true) ((qYn (p.2++q.2.2)).bind λfw=>.ret ⟨p.1,q.1,q.2.1,p.2++q.2.2,fw⟩)
def qV8:V->Q (V×List Nat)
 |.sl id off len=>.ret (.sl id off len,[])
 |v=>zN 4 v
def qQd (vs:List V):Q CP:=
 (qDk qV8 vs).bind λp=>(qBs 12 (qA4 p.1) [] [] []).bind λq=>
  Q.assert ((q.1.all λi => !(p.2++q.2.2).contains i)=true) ((qYn (p.2++q.2.2)).bind λfw=>.ret ⟨p.1,q.1,q.2.1,p.2++q.2.2,fw⟩)
def qT1 (β:Nat->Option BI)(F:Nat->Prop)(fz:List Nat):Nat->Prop:=λb=>F b\/∃id∈fz,∃bi,β id=some bi/\bi.blk=some b
theorem qT1.of {fz:List Nat}{b:Nat}(h:F b):qT1 β F fz b:= .inl h
theorem qT1.sub {fz fz':List Nat}(h:∀i∈fz,i∈fz'):∀b,qT1 β F fz b->qT1 β F fz' b:=by
 intro b hb;rcases hb with h1|⟨i,hi,bi,h1,h2⟩
 .exact .inl h1
 .exact .inr ⟨i,h i hi,bi,h1,h2⟩
variable {cx:Cx}{fm:Nat->Option V}{hm:Nat->Option Ob}{a:Act}
theorem qHy {es:List V}{ts:List T}(h:qFl es=some ts):ts.length=es.length:=by rw[qE2 h];simp
theorem zFl (R:Rel cx β F fm hm a w){F':Nat->Prop}(hF:∀b,F b->F' b){id off len z:Nat}{es:List V}{wr full:Bool}(ho:hm id=some (.live z es wr full)){x:Value}(hx:qR β F w (.sl id off len) x)
  (hle:off+len<=es.length) (hb:∀bi b,β id=some bi->bi.blk=some b->F' b) {ts:List T} (hl:ts.length=es.length)
  (hz:∀t∈ts,t.cells.length=z) (hr:∀(i:Nat)(e:V)(t:T),es[i]?=some e->ts[i]?=some t->∀(j:Nat)(q:V)(c:T)(u:Value),e.cells[j]?=some q->t.cells[j]?=some c->qR β F w q u->u.oneCell'=true->Rep F' w c u) :
  Rep F' w (.sl ((ts.drop off).take len)) x:=by
 cases hx with
 |slv _ sz room hb'=>
  obtain⟨bi',hb'',hok⟩:=R.hp id _ ho;rw[hb']at hb'';cases hb'';simp only[take_zero];exact .nil
 |sl _ _ _ scap b sz room ad hb' hlc hrm had hsp=>
  obtain⟨c,ce,fz,h2,h3,h4,h5,h6,h7,h8,h9⟩:=R.obj ho hb' rfl;simp only at h4 h5 h7 h9;subst h9;have hl2:((ts.drop off).take len).length=len:=soM;have e1:(off+len)*sz<=room*sz:=Nat.mul_le_mul_right _ oM;have e2:(off+len)*sz=off*sz+len*sz:=by rw[Nat.add_mul]
  have hsrc:=h7.src h4 h5;have key:=Rep.sl (F:=F') (w:=w) ((ts.drop off).take len) ad scap sz ((c.toList.drop (off*sz)).take (len*sz)) (λ_=>hsp) (by rw[hl2];omega) (by rw[hl2];simp;omega)
   (λu hu=>by
    obtain⟨j,hj⟩:=getElem?_of_mem hu;simp only[getElem?_take,getElem?_drop]at hj;split at hj
    .rename_i hlt;have:(c.toList.take (es.length*sz))[off*sz+j]?=some u:=by
      rw[getElem?_take,if_pos]
      .exact hj
      .have:(off+len)*sz<=es.length*sz:=Nat.mul_le_mul_right _ hle;omega
     exact hsrc.2.1 u (mem_of_getElem? this)
    .cases hj)
   (λhne=>by
    have hlt2:0<scap:=by
     rcases Nat.eq_zero_or_pos len with h0|h0
     .exact absurd (eq_nil_of_length_eq_zero (by rw[hl2,h0])) hne
     .omega
    rw[had hlt2];exact hb _ b hb' rfl)
   (λj u hj=>by
    simp only[getElem?_take,getElem?_drop]at hj;split at hj
    .rename_i hlt;have hlt2:0<scap:=by
      rcases Nat.eq_zero_or_pos len with h0|h0
      .subst h0;simp at hlt
      .omega
     rw[had hlt2,Addr.add_lit,cell_of_row w b _ c ce fz h2];simpa using hj
    .cases hj)
   (λt ht=>hz t (mem_of_mem_drop (mem_of_mem_take ht)))
   (λi t j q u ht hq hu=>by
    have ht':ts[off+i]?=some t/\i<len:=by
     simp only[getElem?_take,getElem?_drop]at ht;split at ht
     .rename_i h;exact⟨ht,h⟩
     .cases ht
    have hei:off+i<es.length:=oM;obtain⟨m1,m2⟩:=h7 (off+i) es[off+i] (by simp[hei]);have hjz:j<sz:=by rw[<-hz t (mem_of_getElem? ht'.1)];exact(List.getElem?_eq_some_iff.1 hq).1
    obtain⟨u',hu',hru,hone'⟩:=m2 j (es[off+i].cells[j]'(oM)) sM;have:u'=u:=by
     simp only[getElem?_take,getElem?_drop]at hu;split at hu
     .have e3:(off+i)*sz+j=off*sz+(i*sz+j):=by rw[Nat.add_mul];omega
      rw[e3]at hu';rw[Array.getElem?_toList,hu']at hu;exact Option.some.inj hu
     .cases hu
    subst this;exact hr (off+i) es[off+i] t (by simp[hei]) ht'.1 j _ q u' sM hq hru hone')
  rw[hl2]at key;exact key
end Go.Eng
end
section
namespace Go.Eng
open List
variable {β:Nat->Option BI}{F:Nat->Prop}{w:World}{cx:Cx}{fm:Nat->Option V}{hm:Nat->Option Ob}{a:Act}
theorem vF {g:V->Q (V×List Nat)}:∀{cs cs':List V}{fz l:List Nat},(qDk g cs).run hm=some ((cs',fz),l)->
  cs'.length=cs.length/\∀(i:Nat)(c c':V),cs[i]?=some c->cs'[i]?=some c'->∃fzi li,(g c).run hm=some ((c',fzi),li)/\∀j∈fzi,j∈fz
 |[],cs',fz,l,h=>by
  obtain⟨h1,_⟩:=qE h;cases h1;exact⟨rfl,by intro i c c' hc;simp at hc⟩
 |c::r,cs',fz,l,h=>by
  simp only[qDk]at h;obtain⟨p,l1,l2,hp,h,_⟩:=qS h;obtain⟨q,l3,l4,hq,h,_⟩:=qS h;obtain⟨h1,_⟩:=qE h;cases h1;obtain⟨g1,g2⟩:=vF hq;refine⟨by simp[g1],λi x x' hx hx'=>?_⟩;cases i with
  |zero=>
   simp at hx hx';subst hx hx';exact⟨p.2,l1,hp,λj hj=>by simp[hj]⟩
  |succ i=>
   simp at hx hx';obtain⟨fzi,li,m1,m2⟩:=g2 i x x' hx hx';exact⟨fzi,li,m1,λj hj=>by simp[m2 j hj]⟩
theorem Rel.row (R:Rel cx β F fm hm a w){id z:Nat}{es:List V}{wr full:Bool}(ho:hm id=some (.live z es wr full)):es=[]\/∃c,vB β F w es z c:=by
 obtain⟨bi,hb,hok⟩:=R.hp id _ ho;unfold qG9 at hok;obtain⟨g1,g2,g3⟩:=hok;cases hbk:bi.blk with
 |none=>simp only[hbk]at g3;exact .inl g3.1
 |some b=>
  simp only[hbk]at g3;obtain⟨c,e,fz,k1,k2,k3,k4,k5,k6,k7⟩:=g3;rw[g1]at k6;exact .inr ⟨c,k6⟩
theorem Rel.ro (R:Rel cx β F fm hm a w){id z:Nat}{es:List V}{full:Bool}(ho:hm id=some (.live z es false full)){bi:BI}{b:Nat}(hb:β id=some bi)(hbk:bi.blk=some b):F b:=by
 obtain⟨bi',hb',hok⟩:=R.hp id _ ho;rw[hb]at hb';cases hb';unfold qG9 at hok;obtain⟨g1,g2,g3⟩:=hok;simp only[hbk]at g3;obtain⟨c,e,fz,k1,k2,k3,k4,k5,k6,k7⟩:=g3;simpa using k7
theorem wG (R:Rel cx β F fm hm a w):∀{n:Nat}{v v':V}{fz l fz':List Nat}{x:Value},(zN n v).run hm=some ((v',fz),l)->qR β F w v x->(∀i∈fz,i∈fz')->qR β (qT1 β F fz') w v' x
 |n,v,v',fz,l,fz',x,h,hx,hsub=>by
  have base:∀{u:V},qR β F w u x->qR β (qT1 β F fz') w u x:=λh=>h.mono (λ_ _ h=>h) (λ_ h=>.inl h) (λ_ _=>rfl)
  cases v with
  |t y=>cases n<;>(obtain⟨h1,_⟩:=qE h;cases h1;exact base hx)
  |nil=>cases n<;>(obtain⟨h1,_⟩:=qE h;cases h1;cases hx;exact .t .nil)
  |ro cs=>cases n<;>(obtain⟨h1,_⟩:=qE h;cases h1;exact base hx)
  |ref id i f=>cases n<;>(obtain⟨h1,_⟩:=qE h;cases h1;exact base hx)
  |bd g id i f=>cases n<;>(obtain⟨h1,_⟩:=qE h;cases h1;exact base hx)
  |bq=>cases n<;>cases h
  |tup cs=>cases n<;>cases h
  |agg cs=>
   cases n with
   |zero=>cases h
   |succ n=>
    simp only[zN]at h;obtain⟨p,l1,l2,hp,h,_⟩:=qS h;obtain⟨h1,_⟩:=qE h;cases h1;obtain⟨g1,g2⟩:=vF hp;obtain⟨us,rfl,k1,k2,k3⟩:=hx.agg_inv;refine qR.mk (by rw[k1,g1]) k2 (λi c' u hc' hu=>?_);have hi:i<cs.length:=by rw[<-g1];exact(List.getElem?_eq_some_iff.1 hc').1
    obtain⟨fzi,li,m1,m2⟩:=g2 i cs[i] c' (by simp[hi]) hc';exact wG R m1 (k3 i cs[i] u (by simp[hi]) hu) (λj hj=>hsub j (m2 j hj))
  |fn f cs=>
   cases n with
   |zero=>cases h
   |succ n=>
    simp only[zN]at h;obtain⟨p,l1,l2,hp,h,_⟩:=qS h;obtain⟨h1,_⟩:=qE h;cases h1;obtain⟨g1,g2⟩:=vF hp;cases hx with
    |fn _ _ us k1 k3=>
     refine .fn f _ us (by rw[k1,g1]) (λi c' u hc' hu=>?_);have hi:i<cs.length:=by rw[<-g1];exact(List.getElem?_eq_some_iff.1 hc').1
     obtain⟨fzi,li,m1,m2⟩:=g2 i cs[i] c' (by simp[hi]) hc';exact wG R m1 (k3 i cs[i] u (by simp[hi]) hu) (λj hj=>hsub j (m2 j hj))
  |sl id off len=>
   cases n with
   |zero=>cases h
   |succ n=>
    simp only[zN]at h;obtain⟨o,l',ho,h2,_⟩:=yV h;cases o with
    |dead=>cases h2
    |live z es wr full=>
     obtain⟨hle,h3⟩:=qM h2;have hbl:∀{fz0:List Nat},(∀i∈(if wr then id::fz0 else fz0),i∈fz')->∀bi b,β id=some bi->bi.blk=some b->qT1 β F fz' b:=by
      intro fz0 hs bi b hb hbk;cases wr with
      |true=>exact .inr ⟨id,hs id sM,bi,hb,hbk⟩
      |false=>exact .inl (R.ro ho hb hbk)
     split at h3
     .rename_i ts hts;obtain⟨h1,_⟩:=qE h3;cases h1;have hes:=qE2 hts;refine .t (zFl R (λ_ h=>.inl h) ho hx hle (hbl (fz0:=[]) hsub) (qHy hts) (λt ht=>?_) (λi e t he ht j q c u hq hc hru _=>?_))
      .obtain⟨i,hi⟩:=getElem?_of_mem ht;rcases R.row ho with h0|⟨c,hc⟩
       .rw[h0]at hts;simp[qFl]at hts;subst hts;simp at hi
       .have:=(hc i (.t t) (by rw[hes,getElem?_map,hi];rfl)).1;rw[qNa,length_map]at this;exact this
      .rw[hes,getElem?_map,ht]at he;cases he;obtain⟨c',hc',rfl⟩:=qA0 hq;rw[hc]at hc';cases hc';cases hru with
       |t hru=>exact hru.mono (λ_ h=>.inl h) (λ_ _=>rfl)
     .obtain⟨p,l1,l2,hp,h3,_⟩:=qS h3;split at h3
      .rename_i ts hts;obtain⟨h1,_⟩:=qE h3;cases h1;obtain⟨g1,g2⟩:=vF hp;have hpe:=qE2 hts;have hfz:∀j∈p.2,j∈fz':=λj hj=>hsub j (by cases wr<;>simp[hj])
       have key:∀(i:Nat)(e:V)(t:T),es[i]?=some e->ts[i]?=some t->(∀u,e.cells[0]?=some e->qR β F w e u->u.oneCell'=true->e.cells=[e]->t.cells=[t])/\
         ((∃cs,e=.agg cs)\/(∃cs,e=.t (.agg cs))->t.cells.length=e.cells.length)/\∀(j:Nat)(q:V)(c:T)(u:Value),e.cells[j]?=some q->t.cells[j]?=some c->qR β F w q u->u.oneCell'=true->Rep (qT1 β F fz') w c u:=by
        intro i e t he ht;obtain⟨fzi,li,m1,m2⟩:=g2 i e (.t t) he (by rw[hpe,getElem?_map,ht];rfl);have one:∀u,qR β F w e u->u.oneCell'=true->Rep (qT1 β F fz') w t u/\t.cells=[t]:=by
         intro u hru ho1;have hr2:=wG R m1 hru (λj hj=>hfz j (m2 j hj));have hc1:=hr2.one_cells ho1;cases hr2 with
         |t hr2=>
          refine⟨hr2,?_⟩;rw[qNa]at hc1;cases t with
          |agg cs=>
           cases hr2 with
           |agg _ vs hl h1 h=>simp[Value.oneCell']at ho1
          |_=>rfl
        have single:e.cells=[e]->∀(j:Nat)(q:V)(c:T)(u:Value),e.cells[j]?=some q->t.cells[j]?=some c->qR β F w q u->u.oneCell'=true->Rep (qT1 β F fz') w c u:=by
         intro hec j q c u hq hc hru ho1;rw[hec]at hq;cases j with
         |succ j=>simp at hq
         |zero=>
          simp at hq;subst hq;obtain⟨k1,k2⟩:=one u hru ho1;rw[k2]at hc;simp at hc;subst hc;exact k1
        refine⟨λu _ hru ho1 _=>(one u hru ho1).2,?_,?_⟩
        .rintro (⟨cs,rfl⟩|⟨cs,rfl⟩)
         .cases n with
          |zero=>cases m1
          |succ n=>
           simp only[zN]at m1;obtain⟨p',_,_,hp',m1,_⟩:=qS m1;obtain⟨h1,_⟩:=qE m1;obtain⟨k1,k2⟩:=vF hp';have h2:V.mk p'.1=.t t:=(Prod.mk.inj h1).1.symm;unfold V.mk at h2;split at h2
           .rename_i ts' hts';cases h2;show ts'.length=cs.length;rw[qHy hts',k1]
           .cases h2
         .have h2:(V.t (.agg cs))=.t t:=by cases n<;>(obtain⟨h1,_⟩:=qE m1;cases h1;rfl)
          cases h2;rw[qNa,length_map]
        .cases e with
         |agg cs=>
          intro j q c u hq hc hru ho1;cases n with
          |zero=>cases m1
          |succ n=>
           simp only[zN]at m1;obtain⟨p',_,_,hp',m1,_⟩:=qS m1;obtain⟨h1,_⟩:=qE m1;obtain⟨k1,k2⟩:=vF hp';have h2:V.mk p'.1=.t t:=(Prod.mk.inj h1).1.symm;have h2b:p'.2=fzi:=(Prod.mk.inj h1).2.symm;unfold V.mk at h2;split at h2
           .rename_i ts' hts';cases h2;have hc':ts'[j]?=some c:=hc;obtain⟨fzj,lj,q1,q2⟩:=k2 j q (.t c) hq (by rw[qE2 hts',getElem?_map,hc'];rfl);have hr2:=wG R q1 hru (λj hj=>hfz j (m2 j (by rw[<-h2b];exact q2 j hj)));cases hr2 with
            |t hr2=>exact hr2
           .cases h2
         |t y=>
          intro j q c u hq hc hru ho1;have h2:(V.t y)=.t t:=by cases n<;>(obtain⟨h1,_⟩:=qE m1;cases h1;rfl)
          cases h2;obtain⟨c',hc',rfl⟩:=qA0 hq;rw[hc]at hc';cases hc';cases hru with
          |t hru=>exact hru.mono (λ_ h=>.inl h) (λ_ _=>rfl)
         |_=>exact single rfl
       refine .t (zFl R (λ_ h=>.inl h) ho hx hle (hbl (fz0:=p.2) hsub) (by rw[qHy hts,g1]) (λt ht=>?_) (λi e t he ht=>(key i e t he ht).2.2));obtain⟨i,hi⟩:=getElem?_of_mem ht;have hil:i<es.length:=by rw[<-g1,<-qHy hts];exact(List.getElem?_eq_some_iff.1 hi).1
       rcases R.row ho with h0|⟨c,hc⟩
       .subst h0;simp at hil
       .obtain⟨e,he⟩:∃e,es[i]?=some e:=⟨es[i],by simp[hil]⟩;obtain⟨k1,k2⟩:=hc i e he;obtain⟨q1,q2,_⟩:=key i e t he hi;have sing:e.cells=[e]->t.cells.length=z:=by
         intro hec;obtain⟨u,hu,hru,ho1⟩:=k2 0 e (by rw[hec];rfl);rw[q1 u (by rw[hec];rfl) hru ho1 hec,<-k1,hec];rfl
        cases e with
        |agg cs=>rw[q2 (.inl ⟨cs,rfl⟩),k1]
        |t y=>
         cases y with
         |agg cs=>rw[q2 (.inr ⟨cs,rfl⟩),k1]
         |_=>exact sing rfl
        |_=>exact sing rfl
      .cases h3
 termination_by n=>n
end Go.Eng
end
section
namespace Go.Eng
open List
variable {β:Nat->Option BI}{F:Nat->Prop}{w:World}{cx:Cx}{fm:Nat->Option V}{hm:Nat->Option Ob}{a:Act}
mutual
def V.noSl:V->Bool
 |.sl _ _ _=>false
 |.agg cs=>zFa cs
 |.tup cs=>zFa cs
 |.fn _ cs=>zFa cs
 |_=>true
def zFa:List V->Bool
 |[]=>true
 |c::r=>c.noSl&&zFa r
end
theorem zLq:∀{cs:List V},(∀c∈cs,c.noSl=true)->zFa cs=true
 |[],_=>rfl
 |x::r,h=>by
  simp only[zFa,Bool.and_eq_true];exact⟨h x sM,zLq (λc hc=>h c (by simp[hc]))⟩
theorem qFe:∀{cs:List V}{c:V}{r:Nat},c∈cs->r∈c.refs->r∈qA4 cs
 |x::cs,c,r,hc,hr=>by
  simp only[qA4,mem_append];simp only[mem_cons]at hc;rcases hc with rfl|hc
  .exact .inl hr
  .exact .inr (qFe hc hr)
theorem zTd (ts:List T):qA4 (ts.map .t)=[]:=by
 induction ts with
 |nil=>rfl
 |cons x r ih=>simp[qA4,V.refs,ih]
theorem jG2 {cs:List V}(h:zFa cs=true):(V.mk cs).noSl=true:=by
 unfold V.mk;split
 .rfl
 .exact h
theorem qV9:∀{n:Nat}{v v':V}{fz l:List Nat},(zN n v).run hm=some ((v',fz),l)->v'.noSl=true
 |n,v,v',fz,l,h=>by
  have list:∀{m:Nat}{cs cs':List V}{fz l:List Nat},m<n->(qDk (zN m) cs).run hm=some ((cs',fz),l)->zFa cs'=true:=by
   intro m cs cs' fz l hlt h;obtain⟨g1,g2⟩:=vF h;refine zLq (λc hc=>?_);obtain⟨i,hi⟩:=getElem?_of_mem hc;have hil:i<cs.length:=by rw[<-g1];exact(List.getElem?_eq_some_iff.1 hi).1
   obtain⟨fzi,li,m1,m2⟩:=g2 i cs[i] c (by simp[hil]) hi;exact qV9 m1
  cases v with
  |t y=>cases n<;>(obtain⟨h1,_⟩:=qE h;cases h1;rfl)
  |nil=>cases n<;>(obtain⟨h1,_⟩:=qE h;cases h1;rfl)
  |ro cs=>cases n<;>(obtain⟨h1,_⟩:=qE h;cases h1;rfl)
  |ref id i f=>cases n<;>(obtain⟨h1,_⟩:=qE h;cases h1;rfl)
  |bd g id i f=>cases n<;>(obtain⟨h1,_⟩:=qE h;cases h1;rfl)
  |bq=>cases n<;>cases h
  |tup cs=>cases n<;>cases h
  |agg cs=>
   cases n with
   |zero=>cases h
   |succ n=>
    simp only[zN]at h;obtain⟨p,l1,l2,hp,h,_⟩:=qS h;obtain⟨h1,_⟩:=qE h;cases h1;exact jG2 (list (Nat.lt_succ_self n) hp)
  |fn f cs=>
   cases n with
   |zero=>cases h
   |succ n=>
    simp only[zN]at h;obtain⟨p,l1,l2,hp,h,_⟩:=qS h;obtain⟨h1,_⟩:=qE h;cases h1;exact list (Nat.lt_succ_self n) hp
  |sl id off len=>
   cases n with
   |zero=>cases h
   |succ n=>
    simp only[zN]at h;obtain⟨o,l',ho,h2,_⟩:=yV h;cases o with
    |dead=>cases h2
    |live z es wr full=>
     obtain⟨hle,h3⟩:=qM h2;split at h3
     .obtain⟨h1,_⟩:=qE h3;cases h1;rfl
     .obtain⟨p,l1,l2,hp,h3,_⟩:=qS h3;split at h3
      .obtain⟨h1,_⟩:=qE h3;cases h1;rfl
      .cases h3
 termination_by n=>n
def qDv (ids:List Nat)(β:Nat->Option BI):Nat->Option BI:=λk=>(ids[k]?).bind β
theorem qFz {ids:List Nat}{r:Nat}(h:r∈ids):qDv ids β (ids.idxOf r)=β r:=by
 unfold qDv;have hlt:ids.idxOf r<ids.length:=idxOf_lt_length_of_mem h;have:ids[ids.idxOf r]?=some r:=by
  rw[getElem?_eq_getElem hlt,getElem_idxOf]
 rw[this];rfl
theorem zAr {ids:List Nat}{v:V}{x:Value}(h:qR β F w v x):(∀r∈v.refs,r∈ids)->qR (qDv ids β) F w (v.ren (λr=>ids.idxOf r)) x:=by
 induction h with
 |t h=>intro _;exact .t h
 |nil=>intro _;exact .nil
 |ref id i f b sz room hb=>intro hr;exact .ref _ i f b sz room (by rw[qFz (hr id (by simp[V.refs]))];exact hb)
 |bd g id i f b sz room hb=>intro hr;exact .bd g _ i f b sz room (by rw[qFz (hr id (by simp[V.refs]))];exact hb)
 |bq b=>intro _;exact .bq b
 |ro cs a news ha hn h1 hF hw h=>intro _;exact .ro cs a news ha hn h1 hF hw h
 |sl id off len cap b sz room a hb hlc hrm ha hs=>intro hr;exact .sl _ off len cap b sz room a (by rw[qFz (hr id (by simp[V.refs]))];exact hb) hlc hrm ha hs
 |slv id sz room hb=>intro hr;exact .slv _ sz room (by rw[qFz (hr id (by simp[V.refs]))];exact hb)
 |agg cs vs hl h1 _ ih=>
  intro hr;simp only[V.ren,zJ];refine .agg _ vs (by simpa using hl) h1 (λi c u hc hu=>?_);rw[getElem?_map,Option.map_eq_some_iff]at hc;obtain⟨c',hc',rfl⟩:=hc;exact ih i c' u hc' hu (λr h=>hr r (by simp only[V.refs];exact qFe (mem_of_getElem? hc') h))
 |tup cs vs hl _ ih=>
  intro hr;simp only[V.ren,zJ];refine .tup _ vs (by simpa using hl) (λi c u hc hu=>?_);rw[getElem?_map,Option.map_eq_some_iff]at hc;obtain⟨c',hc',rfl⟩:=hc;exact ih i c' u hc' hu (λr h=>hr r (by simp only[V.refs];exact qFe (mem_of_getElem? hc') h))
 |fn f cs vs hl _ ih=>
  intro hr;simp only[V.ren,zJ];refine .fn f _ vs (by simpa using hl) (λi c u hc hu=>?_);rw[getElem?_map,Option.map_eq_some_iff]at hc;obtain⟨c',hc',rfl⟩:=hc;exact ih i c' u hc' hu (λr h=>hr r (by simp only[V.refs];exact qFe (mem_of_getElem? hc') h))
theorem zTh {ids:List Nat}{v:V}{x:Value}(h:qR β F w v x)(_:v.noSl=true)(hr:∀r∈v.refs,r∈ids):qR (qDv ids β) F w (v.ren (λr=>ids.idxOf r)) x:=zAr h hr
def jTe (hm:Nat->Option Ob)(fz:List Nat)(id:Nat)(o:Ob):Prop:=
 ∃z es es' full fzk lk,hm id=some (.live z es true full)/\o=.live z es' true full/\(qE3 es).run hm=some ((es',fzk),lk)/\∀j∈fzk,j∈fz
def Ob.refs:Ob->List Nat
 |.live _ es _ _=>qA4 es
 |.dead=>[]
theorem qSd:∀{n:Nat}{todo ids:List Nat}{obs:List Ob}{fz ids':List Nat}{obs':List Ob}{fz' l:List Nat},(qBs n todo ids obs fz).run hm=some ((ids',obs',fz'),l)->
  ids.Nodup->ids.length=obs.length->(∀(k id:Nat)(o:Ob),ids[k]?=some id->obs[k]?=some o->jTe hm fz id o)->(∀o∈obs,∀r∈o.refs,r∈ids\/r∈todo)->
  ids'.Nodup/\ids'.length=obs'.length/\(∀(k id:Nat)(o:Ob),ids'[k]?=some id->obs'[k]?=some o->jTe hm fz' id o)/\(∀o∈obs',∀r∈o.refs,r∈ids')/\(∀r∈todo,r∈ids')/\(∀r∈ids,r∈ids')/\∀j∈fz,j∈fz'
 |n,[],ids,obs,fz,ids',obs',fz',l,h,h1,h2,h3,h4=>by
  have h':(Q.ret (ids,obs,fz):Q _).run hm=some ((ids',obs',fz'),l):=by cases n<;>exact h
  obtain⟨e,_⟩:=qE h';cases e;exact⟨h1,h2,h3,λo ho r hr=>by simpa using h4 o ho r hr,sM,λ_ h=>h,λ_ h=>h⟩
 |0,_::_,ids,obs,fz,ids',obs',fz',l,h,_,_,_,_=>by cases h
 |n+1,id::todo,ids,obs,fz,ids',obs',fz',l,h,h1,h2,h3,h4=>by
  simp only[qBs]at h;split at h
  .rename_i hc;have hmem:id∈ids:=by simpa using hc
   obtain⟨k1,k2,k3,k4,k5,k6,k7⟩:=qSd h h1 h2 h3 (λo ho r hr=>by
    rcases h4 o ho r hr with h|h
    .exact .inl h
    .simp only[mem_cons]at h;rcases h with rfl|h
     .exact .inl hmem
     .exact .inr h)
   exact⟨k1,k2,k3,k4,λr hr=>by
    simp only[mem_cons]at hr;rcases hr with rfl|hr
    .exact k6 _ hmem
    .exact k5 r hr,k6,k7⟩
  .rename_i hc;have hnm:id ∉ ids:=by simpa using hc
   obtain⟨o,l',ho,hs2,_⟩:=yV h;cases o with
   |dead=>cases hs2
   |live z es wr full=>
    cases wr with
    |false=>cases hs2
    |true=>
     obtain⟨p,l1,l2,hp,hs3,_⟩:=qS hs2;have hobs:∀(k j:Nat)(o:Ob),(ids++[id])[k]?=some j->(obs++[Ob.live z p.1 true full])[k]?=some o->jTe hm (fz++p.2) j o:=by
      intro k j o hk hko;by_cases hlt:k<ids.length
      .rw[getElem?_append_left hlt]at hk;rw[getElem?_append_left oM]at hko;obtain⟨z1,e1,e2,f1,fk,lk,g1,g2,g3,g4⟩:=h3 k j o hk hko;exact⟨z1,e1,e2,f1,fk,lk,g1,g2,g3,λj hj=>by simp[g4 j hj]⟩
      .rw[getElem?_append_right oM]at hk hko;have hk0:k-ids.length=0:=by
        rcases Nat.eq_zero_or_pos (k-ids.length)with h|h
        .exact h
        .rw[getElem?_eq_none soM]at hk;cases hk
       rw[hk0]at hk;rw[show k-obs.length=0 by omega]at hko;simp at hk hko;subst hk hko;exact⟨z,es,p.1,full,p.2,l1,ho,rfl,hp,λj hj=>by simp[hj]⟩
     have href:∀r∈qA4 p.1,r∈ids++[id]\/r∈todo++(match qFl es with|some _=>[]|none=>qA4 p.1):=by
      intro r hr;cases ha:qFl es with
      |none=>exact .inr (by simp only[mem_append];exact .inr hr)
      |some ts=>
       unfold qE3 at hp;rw[ha]at hp;obtain⟨e,_⟩:=qE hp;rw[e,qE2 ha,zTd]at hr;simp at hr
     obtain⟨k1,k2,k3,k4,k5,k6,k7⟩:=qSd hs3 (by
       rw[nodup_append];exact⟨h1,sM,λx hx y hy=>by simp at hy;subst hy;exact λe=>hnm (e▸hx)⟩) (by simp[h2]) hobs (λo ho' r hr=>by
      simp only[mem_append,mem_singleton]at ho';rcases ho' with ho'|rfl
      .rcases h4 o ho' r hr with h|h
       .exact .inl (by simp[h])
       .simp only[mem_cons]at h;rcases h with rfl|h
        .exact .inl sM
        .exact .inr (by simp[h])
      .exact href r hr)
     exact⟨k1,k2,k3,k4,λr hr=>by
      simp only[mem_cons]at hr;rcases hr with rfl|hr
      .exact k6 _ sM
      .exact k5 r (by simp[hr]),λr hr=>k6 r (by simp[hr]),λj hj=>k7 j (by simp[hj])⟩
theorem zLc:∀{fz:List Nat}{fw:Wr}{l:List Nat},(qYn fz).run hm=some (fw,l)->(∀id∈fz,100<=id/\∃z es full,hm id=some (.live z es true full)/\(id,Ob.live z es false full)∈fw)/\
  ∀p∈fw,p.1∈fz/\∃z es full,hm p.1=some (.live z es true full)/\p.2=.live z es false full
 |[],fw,l,h=>by
  obtain⟨e,_⟩:=qE h;cases e;exact⟨sM,sM⟩
 |id::r,fw,l,h=>by
  simp only[qYn]at h;obtain⟨o,l',ho,hs2,_⟩:=yV h;cases o with
  |dead=>cases hs2
  |live z es wr full=>
   cases wr with
   |false=>cases hs2
   |true=>
    obtain⟨h100,hs3⟩:=qM hs2;obtain⟨q,l1,l2,hq,hs4,_⟩:=qS hs3;obtain⟨e,_⟩:=qE hs4;cases e;obtain⟨g1,g2⟩:=zLc hq;refine⟨λi hi=>?_,λp hp=>?_⟩
    .simp only[mem_cons]at hi;rcases hi with rfl|hi
     .exact⟨h100,z,es,full,ho,sM⟩
     .obtain⟨m1,z',es',full',m2,m3⟩:=g1 i hi;exact⟨m1,z',es',full',m2,by simp[m3]⟩
    .simp only[mem_cons]at hp;rcases hp with rfl|hp
     .exact⟨sM,z,es,full,ho,rfl⟩
     .obtain⟨m1,m2⟩:=g2 p hp;exact⟨by simp[m1],m2⟩
theorem Rel.freezeAll:∀{fz:List Nat}{hm hm0:Nat->Option Ob}{F:Nat->Prop}{fw:Wr}{l:List Nat},(qYn fz).run hm0=some (fw,l)->Rel cx β F fm hm a w->
  (∀id∈fz,hm id=hm0 id\/∃z es full,hm0 id=some (.live z es true full)/\hm id=some (.live z es false full))->∃F',Rel cx β F' fm (upd hm fw) a w/\∀b,F' b↔qT1 β F fz b
 |[],hm,hm0,F,fw,l,h,R,_=>by
  obtain⟨e,_⟩:=qE h;cases e;exact⟨F,R,λb=>⟨.inl,λh=>by rcases h with h|⟨i,hi,_⟩;exact h;simp at hi⟩⟩
 |id::r,hm,hm0,F,fw,l,h,R,hsame=>by
  simp only[qYn]at h;obtain⟨o,l',ho,hs2,_⟩:=yV h;cases o with
  |dead=>cases hs2
  |live z es wr full=>
   cases wr with
   |false=>cases hs2
   |true=>
    obtain⟨h100,hs3⟩:=qM hs2;obtain⟨q,l1,l2,hq,hs4,_⟩:=qS hs3;obtain⟨e,_⟩:=qE hs4;cases e;obtain⟨bi,hb,hfro,hR1⟩:∃bi,β id=some bi/\(∀b,(F b\/bi.blk=some b)↔qT1 β F [id] b)/\Rel cx β (λb=>F b\/bi.blk=some b) fm (upd hm [(id,.live z es false full)]) a w:=by
     have conv:∀{bi:BI},β id=some bi->∀b,(F b\/bi.blk=some b)↔qT1 β F [id] b:=by
      intro bi hb b;constructor
      .intro h;rcases h with h|h
       .exact .inl h
       .exact .inr ⟨id,sM,bi,hb,h⟩
      .intro h;rcases h with h|⟨i,hi,bi',h1,h2⟩
       .exact .inl h
       .simp at hi;subst hi;rw[hb]at h1;cases h1;exact .inr h2
     rcases hsame id sM with h|⟨z',es',full',h1,h2⟩
     .rw[ho]at h;obtain⟨bi,hb,_⟩:=R.hp id _ h;exact⟨bi,hb,conv hb,R.freeze h h100 hb⟩
     .rw[ho]at h1;cases h1;obtain⟨bi,hb,_⟩:=R.hp id _ h2;refine⟨bi,hb,conv hb,?_⟩;have hupd:upd hm [(id,.live z es false full)]=hm:=by
       funext j;by_cases hj:j=id
       .subst hj;simp[upd,h2]
       .simp[upd,hj]
      rw[hupd];have hFeq:(λb=>F b\/bi.blk=some b)=F:=by
       funext b;apply propext;constructor
       .intro h;rcases h with h|h
        .exact h
        .exact R.ro h2 hb h
       .exact .inl
      rw[hFeq];exact R
    obtain⟨F',hR2,hF'⟩:=Rel.freezeAll (hm:=upd hm [(id,.live z es false full)]) hq hR1 (λi hi=>by
     by_cases hii:i=id
     .subst hii;exact .inr ⟨z,es,full,ho,zO⟩
     .rw[qQ hii];exact hsame i (by simp[hi]))
    refine⟨F',hR2,λb=>?_⟩;rw[hF'];constructor
    .intro h;rcases h with h|⟨i,hi,bi',h1,h2⟩
     .rcases(hfro b).1 h with h|⟨i,hi,bi',h1,h2⟩
      .exact .inl h
      .simp at hi;subst hi;exact .inr ⟨i,sM,bi',h1,h2⟩
     .exact .inr ⟨i,by simp[hi],bi',h1,h2⟩
    .intro h;rcases h with h|⟨i,hi,bi',h1,h2⟩
     .exact .inl ((hfro b).2 (.inl h))
     .simp only[mem_cons]at hi;rcases hi with rfl|hi
      .exact .inl ((hfro b).2 (.inr ⟨i,sM,bi',h1,h2⟩))
      .exact .inr ⟨i,hi,bi',h1,h2⟩
end Go.Eng
end
section
namespace Go.Eng
open List
variable {β:Nat->Option BI}{F:Nat->Prop}{w:World}{cx:Cx}{fm:Nat->Option V}{hm:Nat->Option Ob}{a:Act}
def gam (ids:List Nat)(nb k:Nat):Nat:=
 match ids[k]? with
 |some id=>id
 |none=>nb+(k-ids.length)
def qLl (ids:List Nat)(nb:Nat):Nat->List Ob->Wr
 |_,[]=>[]
 |k,o::r=>(gam ids nb k,o.ren (gam ids nb))::qLl ids nb (k+1) r
theorem qSg (ids:List Nat)(nb:Nat):∀(outs:List Ob)(k:Nat)(p:Nat×Ob),p∈qLl ids nb k outs->∃j,j<outs.length/\p.1=gam ids nb (k+j)
 |[],_,p,h=>by simp[qLl]at h
 |o::r,k,p,h=>by
  simp only[qLl,mem_cons]at h;rcases h with rfl|h
  .exact⟨0,sM,rfl⟩
  .obtain⟨j,h1,h2⟩:=qSg ids nb r (k+1) p h;exact⟨j+1,soM,by rw[h2];congr 1;omega⟩
theorem qEc:∀{W:Wr}{hm:Nat->Option Ob}{id:Nat},(∀p∈W,p.1≠id)->upd hm W id=hm id
 |[],_,_,_=>rfl
 |(i,o)::r,hm,id,h=>by
  rw[upd,qEc (λp hp=>h p (by simp[hp]))];rw[if_neg (λe=>h (i,o) sM e.symm)]
theorem zMp {ids:List Nat}{nb:Nat}:∀{outs:List Ob}{hm:Nat->Option Ob}{k:Nat},(∀i j,i<k+outs.length->j<k+outs.length->gam ids nb i=gam ids nb j->i=j)->
  ∀{j:Nat}{o:Ob},outs[j]?=some o->upd hm (qLl ids nb k outs) (gam ids nb (k+j))=some (o.ren (gam ids nb))
 |[],_,_,_,j,o,h=>by simp at h
 |p::r,hm,k,hinj,j,o,h=>by
  simp only[qLl,upd];cases j with
  |zero=>
   simp at h;subst h;rw[qEc (λq hq=>by
    obtain⟨i,h1,h2⟩:=qSg ids nb r (k+1) q hq;intro e;rw[h2]at e;have:=hinj _ _ soM sM e;omega)]
   simp
  |succ j=>
   simp at h;have:=zMp (hm:=λi=>if i=gam ids nb k then some (p.ren (gam ids nb)) else hm i) (k:=k+1) (λa b ha hb=>hinj a b (by simp at ha⊢;omega) (by simp at hb⊢;omega)) h;rw[show k+(j+1)=k+1+j by omega];exact this
theorem qAi {l:List Nat}(h:l.Nodup){i j:Nat}(hi:i<l.length)(hj:j<l.length)(e:l[i]=l[j]):i=j:=by
 unfold List.Nodup at h;rw[pairwise_iff_getElem]at h;rcases Nat.lt_trichotomy i j with h1|h1|h1
 .exact absurd e (h i j hi hj h1)
 .exact h1
 .exact absurd e.symm (h j i hj hi h1)
theorem Rel.called {FA:Nat->Prop}{hmA:Nat->Option Ob}(R:Rel cx β FA fm hmA a w){ids:List Nat}(hnd:ids.Nodup)(hlive:∀(k id:Nat),ids[k]?=some id->∃z es full,hmA id=some (.live z es true full))
  {βp:Nat->Option BI} {F':Nat->Prop} {w':World} {outs:List Ob} {nb:Nat} (fits:zVp βp F' w' outs) (old:∀(k id:Nat),ids[k]?=some id->βp k=β id)
  (new:∀(k:Nat)(bi:BI)(b:Nat),ids.length<=k->βp k=some bi->bi.blk=some b->w.heap.size<=b) (hF:∀b,b<w.heap.size->(F' b↔FA b)) (hFw:∀b,F' b->b<w'.heap.size)
  (hos:w'.os=w.os) (htp:w'.tape=w.tape) (hout:w'.output=w.output) (hsz:w.heap.size<=w'.heap.size)
  (frame:∀b,b<w.heap.size->(∀(k id:Nat)(bi:BI),ids[k]?=some id->β id=some bi->bi.blk≠some b)->w'.heap[b]?=w.heap[b]?)
  (hlen:ids.length<=outs.length) (fresh:∀j,j<outs.length-ids.length->hmA (nb+j)=none) :
  ∃βn,Rel cx βn F' fm (upd hmA (qLl ids nb 0 outs)) a w'/\(∀k bi,βp k=some bi->βn (gam ids nb k)=some bi)/\(∀i bi,β i=some bi->βn i=some bi):=by
 have gold:∀k id,ids[k]?=some id->gam ids nb k=id:=λk id h=>by simp[gam,h]
 have gnew:∀k,ids.length<=k->gam ids nb k=nb+(k-ids.length):=λk h=>by simp[gam,getElem?_eq_none h]
 have glt:∀k,k<ids.length->∃id,ids[k]?=some id:=λk h=>⟨ids[k],by simp[h]⟩
 have ginj:∀i j,i<0+outs.length->j<0+outs.length->gam ids nb i=gam ids nb j->i=j:=by
  intro i j hi hj h;rcases Nat.lt_or_ge i ids.length with h1|h1<;>rcases Nat.lt_or_ge j ids.length with h2|h2
  .obtain⟨x,hx⟩:=glt i h1;obtain⟨y,hy⟩:=glt j h2;rw[gold i x hx,gold j y hy]at h;subst h;have e1:ids[i]=x:=by simpa [h1]using hx
   have e2:ids[j]=x:=by simpa [h2]using hy
   exact qAi hnd h1 h2 (e1.trans e2.symm)
  .obtain⟨x,hx⟩:=glt i h1;obtain⟨z,es,full,hl⟩:=hlive i x hx;rw[gold i x hx,gnew j h2]at h;rw[h,fresh _ oM]at hl;cases hl
  .obtain⟨y,hy⟩:=glt j h2;obtain⟨z,es,full,hl⟩:=hlive j y hy;rw[gold j y hy,gnew i h1]at h;rw[<-h,fresh _ oM]at hl;cases hl
  .rw[gnew i h1,gnew j h2]at h;omega
 let inr:Nat->Prop:=λid=>nb<=id/\id<nb+(outs.length-ids.length)
 have hdec:∀id,Decidable (inr id):=λid=>by unfold inr;infer_instance
 let βn:Nat->Option BI:=λid=>if nb<=id/\id<nb+(outs.length-ids.length) then βp (ids.length+(id-nb)) else β id
 have bnew:∀id,inr id->βn id=βp (ids.length+(id-nb)):=λid h=>if_pos h
 have bold:∀id,¬ inr id->βn id=β id:=λid h=>if_neg h
 have inrNone:∀id,inr id->hmA id=none:=by
  intro id h;have:=fresh (id-nb) (by have:=h.1;have:=h.2;omega);rwa [show nb+(id-nb)=id by have:=h.1;omega]at this
 have bext:∀i bi,β i=some bi->βn i=some bi:=by
  intro i bi h;rw[bold i (λhi=>by rw[R.dom i (inrNone i hi)]at h;cases h)];exact h
 have bgam:∀k bi,βp k=some bi->βn (gam ids nb k)=some bi:=by
  intro k bi h;have hk:k<outs.length:=by
   rcases Nat.lt_or_ge k outs.length with h1|h1
   .exact h1
   .rw[fits.dom k h1]at h;cases h
  rcases Nat.lt_or_ge k ids.length with h1|h1
  .obtain⟨id,hid⟩:=glt k h1;rw[gold k id hid];exact bext id bi (by rw[<-old k id hid];exact h)
  .rw[gnew k h1,bnew _ ⟨oM,oM⟩,show ids.length+(nb+(k-ids.length)-nb)=k by omega];exact h
 have key:∀id,(∃k o,outs[k]?=some o/\gam ids nb k=id/\upd hmA (qLl ids nb 0 outs) id=some (o.ren (gam ids nb)))\/((∀k,k<outs.length->gam ids nb k≠id)/\upd hmA (qLl ids nb 0 outs) id=hmA id):=by
  intro id;by_cases h:∃k,k<outs.length/\gam ids nb k=id
  .obtain⟨k,hk,hg⟩:=h;left;have:=zMp (hm:=hmA) (ids:=ids) (nb:=nb) (outs:=outs) (k:=0) ginj (j:=k) (o:=outs[k]) (by simp[hk]);rw[Nat.zero_add,hg]at this;exact⟨k,outs[k],by simp[hk],hg,this⟩
  .right;have hne:∀k,k<outs.length->gam ids nb k≠id:=λk hk e=>h ⟨k,hk,e⟩
   refine⟨hne,qEc (λp hp=>?_)⟩;obtain⟨j,h1,h2⟩:=qSg ids nb outs 0 p hp;rw[h2,Nat.zero_add];exact hne j h1
 have hFA:∀b,FA b->F' b:=λb hb=>(hF b (R.Fw b hb)).2 hb
 have hFblk:∀b,FA b->w'.heap[b]?=w.heap[b]?:=by
  intro b hb;refine frame b (R.Fw b hb) (λk id bi hk hbi hbk=>?_);obtain⟨z,es,full,hl⟩:=hlive k id hk;exact R.notF hl hbi hbk hb
 have where_:∀id o bi b,upd hmA (qLl ids nb 0 outs) id=some o->o≠ .dead->βn id=some bi->bi.blk=some b->
   (inr id/\w.heap.size<=b/\βp (ids.length+(id-nb))=some bi)\/(¬ inr id/\β id=some bi/\b<w.heap.size/\∃o',hmA id=some o'/\o'≠ .dead):=by
  intro id o bi b ho hd hb hbk;by_cases hi:inr id
  .rw[bnew id hi]at hb;exact .inl ⟨hi,new _ bi b oM hb hbk,hb⟩
  .rw[bold id hi]at hb;refine .inr ⟨hi,hb,R.blt id bi b hb hbk,?_⟩;rcases key id with⟨k,o2,hk,hg,hu⟩|⟨hne,hu⟩
   .have hkl:k<outs.length:=(List.getElem?_eq_some_iff.1 hk).1;rcases Nat.lt_or_ge k ids.length with h1|h1
    .obtain⟨x,hx⟩:=glt k h1;rw[gold k x hx]at hg;subst hg;obtain⟨z,es,full,hl⟩:=hlive k x hx;exact⟨_,hl,sM⟩
    .rw[gnew k h1]at hg;exact absurd ⟨oM,oM⟩ hi
   .rw[hu]at ho;exact⟨o,ho,hd⟩
 refine⟨βn,⟨R.tsz,R.dfr,λt v hv=>?_,λid o ho=>?_,λid hn=>?_,λi j bi bj b oi oj h1 h2 h3 h4 h5 h6 h7 h8=>?_,hos.trans R.os,htp.trans R.tape,hout.trans R.output,Nat.le_trans R.size hsz,λb hb hib=>?_,λid z es full bi b h1 h2 h3=>?_,λb hib hFb=>?_,R.inw,hFw,λb hb=>?_,λid bi b h1 h2=>?_,λg cs hg=>(R.gl g cs hg).mono bext hFA hFblk,λk bi h=>bext _ _ (R.ext0 k bi h),λg cs hg=>(R.gs g cs hg).mono (hFblk g (yC9 (R.gl g cs hg)))⟩,bgam,bext⟩
 .obtain⟨x,h1,h2⟩:=R.fr t v hv;exact⟨x,h1,h2.mono bext hFA hFblk⟩
 .rcases key id with⟨k,o2,hk,hg,hu⟩|⟨hne,hu⟩
  .rw[hu]at ho;cases ho;obtain⟨bi,h1,h2,_⟩:=fits.ok k o2 hk;refine⟨bi,by rw[<-hg];exact bgam k bi h1,?_⟩;exact qG9.ren (β:=βn) (ρ:=gam ids nb) (h2.mono (β':=λk=>βn (gam ids nb k)) bgam (λ_ h=>h) (λ_ _=>rfl) (λ_ _ _=>⟨rfl,λh=>h⟩))
  .rw[hu]at ho;obtain⟨bi,h1,h2⟩:=R.hp id o ho;refine⟨bi,bext id bi h1,h2.mono bext hFA hFblk (λb hbk hd=>⟨frame b (R.blt id bi b h1 hbk) (λk id' bi' hk hbi' hbk'=>?_),λh=>(hF b (R.blt id bi b h1 hbk)).1 h⟩)⟩;obtain⟨z,es,full,hl⟩:=hlive k id' hk;have:=R.inj id' id bi' bi b _ o hbi' h1 hbk' hbk hl ho sM hd;have hkl:k<ids.length:=(List.getElem?_eq_some_iff.1 hk).1;exact hne k oM (by rw[gold k id' hk];exact this)
 .rcases key id with⟨k,o2,hk,hg,hu⟩|⟨hne,hu⟩
  .rw[hu]at hn;cases hn
  .rw[hu]at hn;rw[bold id (λhi=>by
    have:=hne (ids.length+(id-nb)) (by have:=hi.1;have:=hi.2;omega);rw[gnew _ oM]at this;have h1:=hi.1;omega)]
   exact R.dom id hn
 .rcases where_ i oi bi b h5 h7 h1 h3 with⟨a1,a2,a3⟩|⟨a1,a2,a3,o1,a4,a5⟩<;>rcases where_ j oj bj b h6 h8 h2 h4 with⟨b1,b2,b3⟩|⟨b1,b2,b3,o2,b4,b5⟩
  .have:=fits.inj _ _ bi bj b a3 b3 h3 h4;have e1:=a1.1;have e2:=b1.1;omega
  .omega
  .omega
  .exact R.inj i j bi bj b o1 o2 a2 b2 h3 h4 a4 b4 a5 b5
 .rw[frame b (Nat.lt_of_lt_of_le hb R.size) (λk id bi hk hbi hbk=>?_)]
  .exact R.ext b hb hib
  .obtain⟨z,es,full,hl⟩:=hlive k id hk;rcases R.old id z es full bi b hl hbi hbk with h|h
   .omega
   .exact hib h.2
 .rcases where_ id _ bi b h1 sM h2 h3 with⟨a1,a2,a3⟩|⟨a1,a2,a3,o1,a4,a5⟩
  .exact .inl (Nat.le_trans R.size a2)
  .rcases key id with⟨k,o2,hk,hg,hu⟩|⟨hne,hu⟩
   .have hkl:k<outs.length:=(List.getElem?_eq_some_iff.1 hk).1;rcases Nat.lt_or_ge k ids.length with h4|h4
    .obtain⟨x,hx⟩:=glt k h4;rw[gold k x hx]at hg;subst hg;obtain⟨z',es',full',hl⟩:=hlive k x hx;exact R.old x z' es' full' bi b hl a2 h3
    .rw[gnew k h4]at hg;exact absurd ⟨oM,oM⟩ a1
   .rw[hu]at h1;exact R.old id z es full bi b h1 a2 h3
 .have:=R.inw b hib;exact R.inF b hib ((hF b (by have:=R.size;omega)).1 hFb)
 .exact(hF b (by have:=R.size;omega)).trans (R.F0 b hb)
 .by_cases hi:inr id
  .rw[bnew id hi]at h1;exact(fits.blt _ bi b h1 h2).1
  .rw[bold id hi]at h1;have:=R.blt id bi b h1 h2;omega
end Go.Eng
end
section
namespace Go.Eng
open List
variable {β:Nat->Option BI}{F:Nat->Prop}{w:World}{cx:Cx}{fm:Nat->Option V}{hm:Nat->Option Ob}{a:Act}
abbrev FnS:=List V->List Ob->Option (V×List Ob)
abbrev Tab:=List (FuncId×FnS)
def Tab.look:Tab->FuncId->Option FnS
 |[],_=>none
 |(g,s)::r,f=>if g=f then some s else Tab.look r f
def qRx (P:Program)(f:FuncId)(vals:Array Value)(w:World)(R:Ending->World->Prop):Prop:=
 (∃g,(callFunc f vals).run P w=.ok (.enter g vals) w/\Calls P g vals w R)\/(∃x w',(callFunc f vals).run P w=.ok (.value x) w'/\R (.returned x) w')
theorem qRx.mono {P:Program}{f:FuncId}{vals:Array Value}{w:World}{R R':Ending->World->Prop}(h:qRx P f vals w R)(hr:∀e w',R e w'->R' e w'):qRx P f vals w R':=by
 rcases h with⟨g,h1,h2⟩|⟨x,w',h1,h2⟩
 .exact .inl ⟨g,h1,h2.mono hr⟩
 .exact .inr ⟨x,w',h1,hr _ _ h2⟩
def jKe (P:Program)(G:Nat->Option (List T))(f:FuncId)(aS:List V)(ins:List Ob)(r:V)(outs:List Ob):Prop:=
 ∀(w:World)(β:Nat->Option BI)(F:Nat->Prop)(vals:Array Value),zPk G F w->zVp β F w ins->xU (qR β F w) aS vals.toList->
  qRx P f vals w (λe w'=>∃x β' F',e=.returned x/\qLw w β F ins r outs x β' F' w')
theorem zJz.e {P:Program}{G:Nat->Option (List T)}{f:FuncId}{aS:List V}{ins:List Ob}{r:V}{outs:List Ob}(hc:∀args w,(callFunc f args).run P w=.ok (.enter f args) w)(h:zJz P G f aS ins r outs):jKe P G f aS ins r outs:=
 λw β F vals h1 h2 h3=>.inl ⟨f,hc vals w,h w β F vals h1 h2 h3⟩
def FOk (P:Program)(G:Nat->Option (List T))(f:FuncId)(s:FnS):Prop:=∀aS ins r outs,s aS ins=some (r,outs)->jKe P G f aS ins r outs
theorem FOk.of {P:Program}{G:Nat->Option (List T)}{f:FuncId}{s:FnS}(hc:∀args w,(callFunc f args).run P w=.ok (.enter f args) w)(h:∀aS ins r outs,s aS ins=some (r,outs)->zJz P G f aS ins r outs):FOk P G f s:=
 λaS ins r outs hs=>(h aS ins r outs hs).e hc
def xQ (P:Program)(G:Nat->Option (List T))(tab:Tab):Prop:=∀f s,tab.look f=some s->FOk P G f s
theorem xQ.nil {P:Program}{G:Nat->Option (List T)}:xQ P G []:=λ_ _ h=>by cases h
theorem xQ.cons {P:Program}{G:Nat->Option (List T)}{f:FuncId}{s:FnS}{tab:Tab}(h:FOk P G f s)(ht:xQ P G tab):xQ P G ((f,s)::tab):=by
 intro g s' hg;unfold Tab.look at hg;split at hg
 .cases hg;subst_vars;exact h
 .exact ht g s' hg
def zBz {α:Type}:Nat->Nat->Q α->Q α
 |_,0,k=>k
 |nb,n+1,k=>.free nb (zBz (nb+1) n k)
theorem qWm {α:Type}:∀{n nb:Nat}{q:Q α}{x:α}{l:List Nat},(zBz nb n q).run hm=some (x,l)->(∀j,j<n->hm (nb+j)=none)/\∃l',q.run hm=some (x,l')
 |0,nb,q,x,l,h=>⟨by intro j hj;omega,l,h⟩
 |n+1,nb,q,x,l,h=>by
  obtain⟨h0,l',h1,_⟩:=xT h;obtain⟨h2,h3⟩:=qWm h1;refine⟨λj hj=>?_,h3⟩;cases j with
  |zero=>exact h0
  |succ j=>rw[show nb+(j+1)=nb+1+j by omega];exact h2 j oM
def qYq (tab:Tab)(f:FuncId)(keep:Bool)(vs:List V)(nb:Nat):Q (V×Wr):=
 (qV4 keep vs).bind λcp=>
  (Q.of ((tab.look f).bind λs=>s (qFn (λr=>cp.ids.idxOf r) cp.aS) (cp.obs.map (Ob.ren λr=>cp.ids.idxOf r)))).bind λp=>
   Q.assert (cp.ids.length<=p.2.length/\(keep=true\/p.1.flat=true/\zH1 p.2=true))
    (zBz nb (p.2.length-cp.ids.length) (.ret (p.1.ren (gam cp.ids nb),(if keep then cp.fw else [])++qLl cp.ids nb 0 p.2)))
def zAb (tab:Tab)(f:FuncId)(vs:List V)(nb:Nat):Q (V×Wr):=
 (qQd vs).bind λcp=>
  (Q.of ((tab.look f).bind λs=>s (qFn (λr=>cp.ids.idxOf r) cp.aS) (cp.obs.map (Ob.ren λr=>cp.ids.idxOf r)))).bind λp=>
   Q.assert (cp.ids.length<=p.2.length) (zBz nb (p.2.length-cp.ids.length) (.ret (p.1.ren (gam cp.ids nb),cp.fw++qLl cp.ids nb 0 p.2)))
theorem qSs:∀{W W':Wr}{hm:Nat->Option Ob},upd hm (W++W')=upd (upd hm W) W'
 |[],_,_=>rfl
 |(i,o)::r,W',hm=>by simp only[cons_append,upd];exact qSs
theorem qVc (cs:List V):(V.mk cs).cells=cs:=by
 unfold V.mk;split
 .rename_i ts h;rw[qE2 h];rfl
 .rfl
theorem zEc (R:Rel cx β F fm hm a w){n:Nat}{x x':V}{fz l fz':List Nat}(h:(zN n x).run hm=some ((x',fz),l))(hsub:∀i∈fz,i∈fz')(hz:x.cells≠[])
  (hx:∀(j:Nat)(y:V),x.cells[j]?=some y->∃u,qR β F w y u/\u.oneCell'=true):x'.cells.length=x.cells.length/\
  ∀(j:Nat)(y y':V)(u:Value),x.cells[j]?=some y->x'.cells[j]?=some y'->qR β F w y u->u.oneCell'=true->qR β (qT1 β F fz') w y' u/\y'.noSl=true/\∀r∈y'.refs,r∈x'.refs:=by
 have one:x.cells=[x]->x'.cells.length=x.cells.length/\
  ∀(j:Nat)(y y':V)(u:Value),x.cells[j]?=some y->x'.cells[j]?=some y'->qR β F w y u->u.oneCell'=true->qR β (qT1 β F fz') w y' u/\y'.noSl=true/\∀r∈y'.refs,r∈x'.refs:=by
  intro hc;obtain⟨u,hu,ho⟩:=hx 0 x (by rw[hc];rfl);have h1:=wG R h hu hsub;have h2:=h1.one_cells ho;rw[hc,h2];refine⟨rfl,λj y y' u' hy hy' hr _=>?_⟩;cases j with
  |succ j=>simp at hy
  |zero=>
   simp at hy hy';subst hy hy';exact⟨wG R h hr hsub,qV9 h,λ_ h=>h⟩
 cases x with
 |t y=>
  cases n<;>(
   obtain⟨h1,_⟩:=qE h;cases h1;refine⟨rfl,λj y1 y' u hy hy' hr _=>?_⟩;rw[hy]at hy';cases hy';refine⟨hr.mono (λ_ _ h=>h) (λ_ h=>.inl h) (λ_ _=>rfl),?_⟩;obtain⟨c,hc,rfl⟩:=qA0 hy;exact⟨rfl,by simp[V.refs]⟩)
 |agg cs=>
  cases n with
  |zero=>cases h
  |succ n=>
   simp only[zN]at h;obtain⟨p,l1,l2,hp,h,_⟩:=qS h;obtain⟨h1,_⟩:=qE h;cases h1;obtain⟨g1,g2⟩:=vF hp;rw[qVc];refine⟨g1,λj y y' u hy hy' hr _=>?_⟩;obtain⟨fzi,li,m1,m2⟩:=g2 j y y' hy hy';refine⟨wG R m1 hr (λi hi=>hsub i (m2 i hi)),qV9 m1,λr hr=>?_⟩;unfold V.mk;split
   .rename_i ts hts;have:=mem_of_getElem? hy';rw[qE2 hts]at this;simp only[mem_map]at this;obtain⟨t,_,rfl⟩:=this;simp[V.refs]at hr
   .exact qFe (mem_of_getElem? hy') hr
 |nil=>exact one rfl
 |ref id i f=>exact one rfl
 |bd g id i f=>exact one rfl
 |bq=>exact one rfl
 |ro cs=>exact one rfl
 |sl id off len=>exact one rfl
 |tup cs=>exact one rfl
 |fn f cs=>exact one rfl
theorem zSr (R:Rel cx β F fm hm a w){F1:Nat->Prop}{fz':List Nat}(hF1:∀b,F1 b↔qT1 β F fz' b){z:Nat}{es es':List V}{full:Bool}{bi:BI}{fz l:List Nat}(h:(qE3 es).run hm=some ((es',fz),l))(hsub:∀i∈fz,i∈fz')
  (hok:qG9 β F w bi (.live z es true full)) (hnF:∀b,bi.blk=some b->¬ F1 b) {ids:List Nat} (hrefs:∀r∈qA4 es',r∈ids) :
  qG9 (qDv ids β) F1 w bi ((Ob.live z es' true full).ren (λr=>ids.idxOf r)):=by
 have hF:F1=qT1 β F fz':=by funext b;exact propext (hF1 b)
 subst hF;unfold qG9 at hok;obtain⟨g1,g2,g3⟩:=hok;have hlen:es'.length=es.length:=by
  unfold qE3 at h;split at h
  .obtain⟨e,_⟩:=qE h;cases e;rfl
  .exact(vF h).1
 simp only[Ob.ren,zJ,qG9,length_map,hlen];refine⟨g1,g2,?_⟩;cases hb:bi.blk with
 |none=>
  simp only[hb]at g3⊢;refine⟨?_,g3.2⟩;rw[g3.1]at hlen;simp at hlen;rw[hlen];rfl
 |some b=>
  simp only[hb]at g3⊢;obtain⟨c,e,fzz,k1,k2,k3,k4,k5,k6,k7⟩:=g3;refine⟨c,e,fzz,k1,k2,k3,k4,k5,λi y hy=>?_,by simpa using hnF b hb⟩;rw[getElem?_map,Option.map_eq_some_iff]at hy;obtain⟨x',hx',rfl⟩:=hy;have hi:i<es.length:=by rw[<-hlen];exact(List.getElem?_eq_some_iff.1 hx').1
  obtain⟨m1,m2⟩:=k6 i es[i] (by simp[hi]);have key:x'.cells.length=es[i].cells.length/\∀(j:Nat)(y y':V)(u:Value),es[i].cells[j]?=some y->x'.cells[j]?=some y'->qR β F w y u->u.oneCell'=true->qR β (qT1 β F fz') w y' u/\y'.noSl=true/\∀r∈y'.refs,r∈qA4 es':=by
   unfold qE3 at h;split at h
   .rename_i ts hts;obtain⟨e,_⟩:=qE h;cases e;have:x'=es[i]:=by rw[getElem?_eq_getElem hi]at hx';exact(Option.some.inj hx').symm
    subst this;refine⟨rfl,λj y y' u hy hy' hr _=>?_⟩;rw[hy]at hy';cases hy';refine⟨hr.mono (λ_ _ h=>h) (λ_ h=>.inl h) (λ_ _=>rfl),?_⟩;have hm1:es[i]∈es:=sM;have heq:=qE2 hts;have hm2:es[i]∈ts.map V.t:=by rw[<-heq];exact hm1
    simp only[mem_map]at hm2;obtain⟨t,_,ht⟩:=hm2;rw[<-ht]at hy;obtain⟨c,_,rfl⟩:=qA0 hy;exact⟨rfl,by simp[V.refs]⟩
   .obtain⟨h1,h2⟩:=vF h;obtain⟨fzi,li,n1,n2⟩:=h2 i es[i] x' (by simp[hi]) hx';by_cases hz:es[i].cells=[]
    ·
     cases hx0:es[i] with
     |t y=>
      rw[hx0]at n1;obtain⟨e,_⟩:=qE (x:=(V.t y,([]:List Nat))) n1;cases e;rw[hx0]at hz;rw[hz];simp
     |agg cs=>
      rw[hx0]at n1 hz;simp only[zN]at n1;obtain⟨p,l1,l2,hp,n1,_⟩:=qS n1;obtain⟨e,_⟩:=qE n1;cases e;rw[qVc,(vF hp).1];have:cs=[]:=hz;subst this;simp[V.cells]
     |_=>rw[hx0]at hz;simp[V.cells]at hz
    .obtain⟨q1,q2⟩:=zEc R n1 (fz':=fz') (λi hi=>hsub i (n2 i hi)) hz (λj y hy=>let ⟨u,_,b,d⟩:=m2 j y hy;⟨u,b,d⟩);refine⟨q1,λj y y' u hy hy' hr ho=>?_⟩;obtain⟨s1,s2,s3⟩:=q2 j y y' u hy hy' hr ho;exact⟨s1,s2,λr hr=>qFe (mem_of_getElem? hx') (s3 r hr)⟩
  rw[qJv,zJ,length_map,key.1];refine⟨m1,λj y hy=>?_⟩;rw[getElem?_map,Option.map_eq_some_iff]at hy;obtain⟨y',hy',rfl⟩:=hy;have hj:j<es[i].cells.length:=by rw[<-key.1];exact(List.getElem?_eq_some_iff.1 hy').1
  obtain⟨u,hu,hr,ho⟩:=m2 j (es[i].cells[j]'hj) (by simp[hj]);obtain⟨s1,s2,s3⟩:=key.2 j (es[i].cells[j]'hj) y' u (by simp[hj]) hy' hr ho;exact⟨u,hu,zTh s1 s2 (λr hr=>hrefs r (s3 r hr)),ho⟩
end Go.Eng
end
