/- A part of an abstract machine, its walks, their tie. -/
import Derived.Test.YtkffggdjdmimgaaGreatDoorA4
import Derived.BigCall
set_option linter.all false
section
namespace Go.Eng
open List
mutual
def T.flat:T→Bool
 | .sl es=>es.isEmpty
 | .agg cs=>qVm cs
 | .tup cs=>qVm cs
 | _=>true
def qVm:List T→Bool
 | []=>true
 | c::r=>c.flat&&qVm r
end
mutual
def V.flat:V→Bool
 | .t x=>x.flat
 | .ro _=>false
 | .agg cs=>qQi cs
 | .tup cs=>qQi cs
 | .fn _ cs=>qQi cs
 | _=>true
def qQi:List V→Bool
 | []=>true
 | c::r=>c.flat&&qQi r
end
def Ob.flat:Ob→Bool
 | .live _ es _ _=>qQi es
 | .dead=>true
def zJ3 (obs:List Ob):Bool:=obs.all Ob.flat
theorem qRs : ∀ {cs:List T},qVm cs=true → ∀ (i:Nat) (c:T),cs[i]?=some c→c.flat=true
 | [],_,i,c,hc=>by simp at hc
 | x::r,h,i,c,hc=>by
  simp only[qVm,Bool.and_eq_true] at h;cases i with
  | zero=>simp at hc;subst hc;exact h.1
  | succ i=>exact qRs h.2 i c (by simpa using hc)
theorem qH3 : ∀ {cs:List V},qQi cs=true → ∀ (i:Nat) (c:V),cs[i]?=some c→c.flat=true
 | [],_,i,c,hc=>by simp at hc
 | x::r,h,i,c,hc=>by
  simp only[qQi,Bool.and_eq_true] at h;cases i with
  | zero=>simp at hc;subst hc;exact h.1
  | succ i=>exact qH3 h.2 i c (by simpa using hc)
theorem zJ4 {v:V}(h:v.flat=true)(i:Nat)(c:V)(hc:v.cells[i]?=some c):c.flat=true:=by
 have one:v.cells=[v]→c.flat=true:=by
  intro e;rw[e] at hc;cases i with
  | zero=>simp at hc;subst hc;exact h
  | succ i=>simp at hc
 cases v with
 | agg cs=>exact qH3 (cs:=cs) (by simpa [V.flat] using h) i c hc
 | t x=>
  cases x with
  | agg cs=>
   simp only[V.cells,getElem?_map,Option.map_eq_some_iff] at hc;obtain⟨c',hc',rfl⟩:=hc;exact qRs (by simpa [V.flat,T.flat] using h) i c' hc'
  | _=>exact one rfl
 | _=>exact one rfl
variable {β:Nat→Option BI} {F:Nat→Prop} {w:World}
theorem Rep.flat {F2:Nat→Prop}{x:T}{v:Value}(h:Rep F w x v):x.flat=true→Rep F2 w x v:=by
 induction h with
 | int k n=>intro _;exact .int k n
 | bool b=>intro _;exact .bool b
 | str s=>intro _;exact .str s
 | fnil=>intro _;exact .fnil
 | pnil=>intro _;exact .pnil
 | agg cs vs hl h1 _ ih=>intro hf;exact .agg cs vs hl h1 (fun i c u hc hu=>ih i c u hc hu (qRs (by simpa [T.flat] using hf) i c hc))
 | tup cs vs hl _ ih=>intro hf;exact .tup cs vs hl (fun i c u hc hu=>ih i c u hc hu (qRs (by simpa [T.flat] using hf) i c hc))
 | nil=>intro _;exact .nil
 | sl es a cap sz news ha hc hn h1 hF hw hz _ ih=>
  intro hf;have:es=[]:=by simpa [T.flat] using hf
  subst this;exact .sl [] a cap sz news ha hc hn h1 sM hw hz (by intro i e j c u he;simp at he)
theorem qW.flat {F2:Nat→Prop}{x:V}{v:Value}(h:qW β F w x v):x.flat=true→qW β F2 w x v:=by
 induction h with
 | t h=>intro hf;exact .t (h.flat hf)
 | nil=>intro _;exact .nil
 | ref id i f b sz room hb=>intro _;exact .ref id i f b sz room hb
 | bd g id i f b sz room hb=>intro _;exact .bd g id i f b sz room hb
 | bq b=>intro _;exact .bq b
 | ro cs a news ha hn h1 hF hw h=>intro hf;simp[V.flat] at hf
 | sl id off len cap b sz room a hb hlc hr ha hs=>intro _;exact .sl id off len cap b sz room a hb hlc hr ha hs
 | slv id sz room hb=>intro _;exact .slv id sz room hb
 | agg cs vs hl h1 _ ih=>intro hf;exact .agg cs vs hl h1 (fun i c u hc hu=>ih i c u hc hu (qH3 (by simpa [V.flat] using hf) i c hc))
 | tup cs vs hl _ ih=>intro hf;exact .tup cs vs hl (fun i c u hc hu=>ih i c u hc hu (qH3 (by simpa [V.flat] using hf) i c hc))
 | fn f cs vs hl _ ih=>intro hf;exact .fn f cs vs hl (fun i c u hc hu=>ih i c u hc hu (qH3 (by simpa [V.flat] using hf) i c hc))
theorem qHv.flat {F2:Nat→Prop}{bi:BI}{z:Nat}{es:List V}{full:Bool}(h:qHv β F w bi (.live z es true full))(hf:qQi es=true)(h2 : ∀ b,bi.blk=some b → ¬ F2 b) :
  qHv β F2 w bi (.live z es true full):=by
 unfold qHv at *;obtain⟨g1,g2,g3⟩:=h;refine⟨g1,g2,?_⟩;cases hb:bi.blk with
 | none=>simp only[hb] at g3 ⊢;exact g3
 | some b=>
  simp only[hb] at g3 ⊢;obtain⟨c,e,fz,k1,k2,k3,k4,k5,k6,k7⟩:=g3;refine⟨c,e,fz,k1,k2,k3,k4,k5,fun i x hx=>?_,by simpa using h2 b hb⟩;obtain⟨m1,m2⟩:=k6 i x hx;refine⟨m1,fun j y hy=>?_⟩;obtain⟨u,hu,hr,ho⟩:=m2 j y hy;exact⟨u,hu,hr.flat (zJ4 (qH3 hf i x hx) j y hy),ho⟩
def qFn (g:V→Q (V×List Nat)):List V→Q (List V×List Nat)
 | []=> .ret ([],[])
 | c::r=>(g c).bind fun p=>(qFn g r).bind fun q=> .ret (p.1::q.1,p.2++q.2)
def zO:Nat→V→Q (V×List Nat)
 | _,.t x=> .ret (.t x,[])
 | _,.nil=> .ret (.t (.sl []),[])
 | _,.ro cs=> .ret (.ro cs,[])
 | _,.ref id i f=> .ret (.ref id i f,[])
 | _,.bd g id i f=> .ret (.bd g id i f,[])
 | n+1,.sl id off len=> .get id fun
  | .live _ es wr _=>Q.assert (off+len≤es.length)
   (match qF4 es with
   | some ts=> .ret (.t (.sl ((ts.drop off).take len)),if wr then [id] else [])
   | none=>(qFn (zO n) es).bind fun p=>match qF4 p.1 with
    | some ts=> .ret (.t (.sl ((ts.drop off).take len)),if wr then id::p.2 else p.2)
    | none=> .fail)
  | .dead=> .fail
 | n+1,.agg cs=>(qFn (zO n) cs).bind fun p=> .ret (V.mk p.1,p.2)
 | n+1,.fn f cs=>(qFn (zO n) cs).bind fun p=> .ret (.fn f p.1,p.2)
 | _,_=> .fail
def qFm (es:List V):Q (List V×List Nat):=
 match qF4 es with
 | some _=> .ret (es,[])
 | none=>qFn (zO 3) es
mutual
def V.refs:V→List Nat
 | .ref id _ _=>[id]
 | .bd _ id _ _=>[id]
 | .agg cs=>qCe cs
 | .tup cs=>qCe cs
 | .fn _ cs=>qCe cs
 | _=>[]
def qCe:List V→List Nat
 | []=>[]
 | c::r=>c.refs++qCe r
end
def qDe:Nat→List Nat→List Nat→List Ob→List Nat→Q (List Nat×List Ob×List Nat)
 | _,[],ids,obs,fz=> .ret (ids,obs,fz)
 | 0,_::_,_,_,_=> .fail
 | n+1,id::todo,ids,obs,fz=>if ids.contains id then qDe n todo ids obs fz else
  .get id fun
   | .live z es true full=>(qFm es).bind fun p=>qDe n (todo++(match qF4 es with | some _=>[] | none=>qCe p.1)) (ids++[id]) (obs++[.live z p.1 true full]) (fz++p.2)
   | _=> .fail
def zB4:List Nat→Q Wr
 | []=> .ret []
 | id::r=> .get id fun
  | .live z es true full=>Q.assert (100≤id) ((zB4 r).bind fun q=> .ret ((id,.live z es false full)::q))
  | _=> .fail
structure CP where
 aS:List V
 ids:List Nat
 obs:List Ob
 fz:List Nat
 fw:Wr
def qXo (keep:Bool)(vs:List V):Q CP:=
 (qFn (zO 4) vs).bind fun p=>(qDe 12 (qCe p.1) [] [] []).bind fun q=>
  Q.assert ((keep=true∨q.2.2=[])∧(q.1.all fun i => !(p.2++q.2.2).contains i)=true) ((zB4 (p.2++q.2.2)).bind fun fw=> .ret ⟨p.1,q.1,q.2.1,p.2++q.2.2,fw⟩)
def qWk (β:Nat→Option BI)(F:Nat→Prop)(fz:List Nat):Nat→Prop:=fun b=>F b ∨ ∃ id∈fz,∃ bi,β id=some bi∧bi.blk=some b
theorem qWk.of {fz:List Nat}{b:Nat}(h:F b):qWk β F fz b:= .inl h
theorem qWk.sub {fz fz':List Nat}(h : ∀ i∈fz,i∈fz') : ∀ b,qWk β F fz b→qWk β F fz' b:=by
 intro b hb;rcases hb with h1 | ⟨i,hi,bi,h1,h2⟩
 ·exact .inl h1
 ·exact .inr ⟨i,h i hi,bi,h1,h2⟩
variable {cx:Cx} {fm:Nat→Option V} {hm:Nat→Option Ob} {a:Act}
theorem qI1 {es:List V}{ts:List T}(h:qF4 es=some ts):ts.length=es.length:=by rw[qFk h];simp
theorem zHm (R:Rel cx β F fm hm a w){F':Nat→Prop}(hF : ∀ b,F b→F' b){id off len z:Nat}{es:List V}{wr full:Bool}(ho:hm id=some (.live z es wr full)){x:Value}(hx:qW β F w (.sl id off len) x)
  (hle:off+len≤es.length) (hb : ∀ bi b,β id=some bi→bi.blk=some b→F' b) {ts:List T} (hl:ts.length=es.length)
  (hz : ∀ t∈ts,t.cells.length=z) (hr : ∀ (i:Nat) (e:V) (t:T),es[i]?=some e→ts[i]?=some t → ∀ (j:Nat) (q:V) (c:T) (u:Value),e.cells[j]?=some q→t.cells[j]?=some c→qW β F w q u→u.oneCell'=true→Rep F' w c u) :
  Rep F' w (.sl ((ts.drop off).take len)) x:=by
 cases hx with
 | slv _ sz room hb'=>
  obtain⟨bi',hb'',hok⟩:=R.hp id _ ho;rw[hb'] at hb'';cases hb'';simp only[take_zero];exact .nil
 | sl _ _ _ scap b sz room ad hb' hlc hrm had hsp=>
  obtain⟨c,ce,fz,h2,h3,h4,h5,h6,h7,h8,h9⟩:=R.obj ho hb' rfl;simp only at h4 h5 h7 h9;subst h9;have hl2:((ts.drop off).take len).length=len:=soM;have e1:(off+len)*sz≤room*sz:=Nat.mul_le_mul_right _ oM;have e2:(off+len)*sz=off*sz+len*sz:=by rw[Nat.add_mul]
  have hsrc:=h7.src h4 h5;have key:=Rep.sl (F:=F') (w:=w) ((ts.drop off).take len) ad scap sz ((c.toList.drop (off*sz)).take (len*sz)) (fun _=>hsp) (by rw[hl2];omega) (by rw[hl2];simp;omega)
   (fun u hu=>by
    obtain⟨j,hj⟩:=getElem?_of_mem hu;simp only[getElem?_take,getElem?_drop] at hj;split at hj
    ·rename_i hlt;have:(c.toList.take (es.length*sz))[off*sz+j]?=some u:=by
      rw[getElem?_take,if_pos]
      ·exact hj
      ·have:(off+len)*sz≤es.length*sz:=Nat.mul_le_mul_right _ hle;omega
     exact hsrc.2.1 u (mem_of_getElem? this)
    ·cases hj)
   (fun hne=>by
    have hlt2:0<scap:=by
     rcases Nat.eq_zero_or_pos len with h0 | h0
     ·exact absurd (eq_nil_of_length_eq_zero (by rw[hl2,h0])) hne
     ·omega
    rw[had hlt2];exact hb _ b hb' rfl)
   (fun j u hj=>by
    simp only[getElem?_take,getElem?_drop] at hj;split at hj
    ·rename_i hlt;have hlt2:0<scap:=by
      rcases Nat.eq_zero_or_pos len with h0 | h0
      ·subst h0;simp at hlt
      ·omega
     rw[had hlt2,Addr.add_lit,cell_of_row w b _ c ce fz h2];simpa using hj
    ·cases hj)
   (fun t ht=>hz t (mem_of_mem_drop (mem_of_mem_take ht)))
   (fun i t j q u ht hq hu=>by
    have ht':ts[off+i]?=some t∧i<len:=by
     simp only[getElem?_take,getElem?_drop] at ht;split at ht
     ·rename_i h;exact⟨ht,h⟩
     ·cases ht
    have hei:off+i<es.length:=oM;obtain⟨m1,m2⟩:=h7 (off+i) es[off+i] (by simp[hei]);have hjz:j<sz:=by rw[←hz t (mem_of_getElem? ht'.1)];exact (List.getElem?_eq_some_iff.1 hq).1
    obtain⟨u',hu',hru,hone'⟩:=m2 j (es[off+i].cells[j]'(oM)) sM;have:u'=u:=by
     simp only[getElem?_take,getElem?_drop] at hu;split at hu
     ·have e3:(off+i)*sz+j=off*sz+(i*sz+j):=by rw[Nat.add_mul];omega
      rw[e3] at hu';rw[Array.getElem?_toList,hu'] at hu;exact Option.some.inj hu
     ·cases hu
    subst this;exact hr (off+i) es[off+i] t (by simp[hei]) ht'.1 j _ q u' sM hq hru hone')
  rw[hl2] at key;exact key
end Go.Eng
end
section
namespace Go.Eng
open List
variable {β:Nat→Option BI} {F:Nat→Prop} {w:World} {cx:Cx} {fm:Nat→Option V} {hm:Nat→Option Ob} {a:Act}
theorem vT {g:V→Q (V×List Nat)} : ∀ {cs cs':List V} {fz l:List Nat},(qFn g cs).run hm=some ((cs',fz),l)→
  cs'.length=cs.length ∧ ∀ (i:Nat) (c c':V),cs[i]?=some c→cs'[i]?=some c' → ∃ fzi li,(g c).run hm=some ((c',fzi),li) ∧ ∀ j∈fzi,j∈fz
 | [],cs',fz,l,h=>by
  obtain⟨h1,_⟩:=qF h;cases h1;exact⟨rfl,by intro i c c' hc;simp at hc⟩
 | c::r,cs',fz,l,h=>by
  simp only[qFn] at h;obtain⟨p,l1,l2,hp,h,_⟩:=zC h;obtain⟨q,l3,l4,hq,h,_⟩:=zC h;obtain⟨h1,_⟩:=qF h;cases h1;obtain⟨g1,g2⟩:=vT hq;refine⟨by simp[g1],fun i x x' hx hx'=>?_⟩;cases i with
  | zero=>
   simp at hx hx';subst hx hx';exact⟨p.2,l1,hp,fun j hj=>by simp[hj]⟩
  | succ i=>
   simp at hx hx';obtain⟨fzi,li,m1,m2⟩:=g2 i x x' hx hx';exact⟨fzi,li,m1,fun j hj=>by simp[m2 j hj]⟩
theorem Rel.row (R:Rel cx β F fm hm a w){id z:Nat}{es:List V}{wr full:Bool}(ho:hm id=some (.live z es wr full)):es=[] ∨ ∃ c,vO β F w es z c:=by
 obtain⟨bi,hb,hok⟩:=R.hp id _ ho;unfold qHv at hok;obtain⟨g1,g2,g3⟩:=hok;cases hbk:bi.blk with
 | none=>simp only[hbk] at g3;exact .inl g3.1
 | some b=>
  simp only[hbk] at g3;obtain⟨c,e,fz,k1,k2,k3,k4,k5,k6,k7⟩:=g3;rw[g1] at k6;exact .inr ⟨c,k6⟩
theorem Rel.ro (R:Rel cx β F fm hm a w){id z:Nat}{es:List V}{full:Bool}(ho:hm id=some (.live z es false full)){bi:BI}{b:Nat}(hb:β id=some bi)(hbk:bi.blk=some b):F b:=by
 obtain⟨bi',hb',hok⟩:=R.hp id _ ho;rw[hb] at hb';cases hb';unfold qHv at hok;obtain⟨g1,g2,g3⟩:=hok;simp only[hbk] at g3;obtain⟨c,e,fz,k1,k2,k3,k4,k5,k6,k7⟩:=g3;simpa using k7
theorem kZ (R:Rel cx β F fm hm a w) : ∀ {n:Nat} {v v':V} {fz l fz':List Nat} {x:Value},(zO n v).run hm=some ((v',fz),l)→qW β F w v x→(∀ i∈fz,i∈fz')→qW β (qWk β F fz') w v' x
 | n,v,v',fz,l,fz',x,h,hx,hsub=>by
  have base : ∀ {u:V},qW β F w u x→qW β (qWk β F fz') w u x:=fun h=>h.mono (fun _ _ h=>h) (fun _ h=> .inl h) (fun _ _=>rfl)
  cases v with
  | t y=>cases n<;>(obtain⟨h1,_⟩:=qF h;cases h1;exact base hx)
  | nil=>cases n<;>(obtain⟨h1,_⟩:=qF h;cases h1;cases hx;exact .t .nil)
  | ro cs=>cases n<;>(obtain⟨h1,_⟩:=qF h;cases h1;exact base hx)
  | ref id i f=>cases n<;>(obtain⟨h1,_⟩:=qF h;cases h1;exact base hx)
  | bd g id i f=>cases n<;>(obtain⟨h1,_⟩:=qF h;cases h1;exact base hx)
  | bq=>cases n<;>cases h
  | tup cs=>cases n<;>cases h
  | agg cs=>
   cases n with
   | zero=>cases h
   | succ n=>
    simp only[zO] at h;obtain⟨p,l1,l2,hp,h,_⟩:=zC h;obtain⟨h1,_⟩:=qF h;cases h1;obtain⟨g1,g2⟩:=vT hp;obtain⟨us,rfl,k1,k2,k3⟩:=hx.agg_inv;refine qW.mk (by rw[k1,g1]) k2 (fun i c' u hc' hu=>?_);have hi:i<cs.length:=by rw[←g1];exact (List.getElem?_eq_some_iff.1 hc').1
    obtain⟨fzi,li,m1,m2⟩:=g2 i cs[i] c' (by simp[hi]) hc';exact kZ R m1 (k3 i cs[i] u (by simp[hi]) hu) (fun j hj=>hsub j (m2 j hj))
  | fn f cs=>
   cases n with
   | zero=>cases h
   | succ n=>
    simp only[zO] at h;obtain⟨p,l1,l2,hp,h,_⟩:=zC h;obtain⟨h1,_⟩:=qF h;cases h1;obtain⟨g1,g2⟩:=vT hp;cases hx with
    | fn _ _ us k1 k3=>
     refine .fn f _ us (by rw[k1,g1]) (fun i c' u hc' hu=>?_);have hi:i<cs.length:=by rw[←g1];exact (List.getElem?_eq_some_iff.1 hc').1
     obtain⟨fzi,li,m1,m2⟩:=g2 i cs[i] c' (by simp[hi]) hc';exact kZ R m1 (k3 i cs[i] u (by simp[hi]) hu) (fun j hj=>hsub j (m2 j hj))
  | sl id off len=>
   cases n with
   | zero=>cases h
   | succ n=>
    simp only[zO] at h;obtain⟨o,l',ho,h2,_⟩:=vV h;cases o with
    | dead=>cases h2
    | live z es wr full=>
     obtain⟨hle,h3⟩:=qS h2;have hbl : ∀ {fz0:List Nat},(∀ i∈(if wr then id::fz0 else fz0),i∈fz') → ∀ bi b,β id=some bi→bi.blk=some b→qWk β F fz' b:=by
      intro fz0 hs bi b hb hbk;cases wr with
      | true=>exact .inr ⟨id,hs id sM,bi,hb,hbk⟩
      | false=>exact .inl (R.ro ho hb hbk)
     split at h3
     ·rename_i ts hts;obtain⟨h1,_⟩:=qF h3;cases h1;have hes:=qFk hts;refine .t (zHm R (fun _ h=> .inl h) ho hx hle (hbl (fz0:=[]) hsub) (qI1 hts) (fun t ht=>?_) (fun i e t he ht j q c u hq hc hru _=>?_))
      ·obtain⟨i,hi⟩:=getElem?_of_mem ht;rcases R.row ho with h0 | ⟨c,hc⟩
       ·rw[h0] at hts;simp[qF4] at hts;subst hts;simp at hi
       ·have:=(hc i (.t t) (by rw[hes,getElem?_map,hi];rfl)).1;rw[qOi,length_map] at this;exact this
      ·rw[hes,getElem?_map,ht] at he;cases he;obtain⟨c',hc',rfl⟩:=qA8 hq;rw[hc] at hc';cases hc';cases hru with
       | t hru=>exact hru.mono (fun _ h=> .inl h) (fun _ _=>rfl)
     ·obtain⟨p,l1,l2,hp,h3,_⟩:=zC h3;split at h3
      ·rename_i ts hts;obtain⟨h1,_⟩:=qF h3;cases h1;obtain⟨g1,g2⟩:=vT hp;have hpe:=qFk hts;have hfz : ∀ j∈p.2,j∈fz':=fun j hj=>hsub j (by cases wr<;>simp[hj])
       have key : ∀ (i:Nat) (e:V) (t:T),es[i]?=some e→ts[i]?=some t→(∀ u,e.cells[0]?=some e→qW β F w e u→u.oneCell'=true→e.cells=[e]→t.cells=[t])∧
         ((∃ cs,e = .agg cs)∨(∃ cs,e = .t (.agg cs))→t.cells.length=e.cells.length) ∧ ∀ (j:Nat) (q:V) (c:T) (u:Value),e.cells[j]?=some q→t.cells[j]?=some c→qW β F w q u→u.oneCell'=true→Rep (qWk β F fz') w c u:=by
        intro i e t he ht;obtain⟨fzi,li,m1,m2⟩:=g2 i e (.t t) he (by rw[hpe,getElem?_map,ht];rfl);have one : ∀ u,qW β F w e u→u.oneCell'=true→Rep (qWk β F fz') w t u∧t.cells=[t]:=by
         intro u hru ho1;have hr2:=kZ R m1 hru (fun j hj=>hfz j (m2 j hj));have hc1:=hr2.one_cells ho1;cases hr2 with
         | t hr2=>
          refine⟨hr2,?_⟩;rw[qOi] at hc1;cases t with
          | agg cs=>
           cases hr2 with
           | agg _ vs hl h1 h=>simp[Value.oneCell'] at ho1
          | _=>rfl
        have single:e.cells=[e] → ∀ (j:Nat) (q:V) (c:T) (u:Value),e.cells[j]?=some q→t.cells[j]?=some c→qW β F w q u→u.oneCell'=true→Rep (qWk β F fz') w c u:=by
         intro hec j q c u hq hc hru ho1;rw[hec] at hq;cases j with
         | succ j=>simp at hq
         | zero=>
          simp at hq;subst hq;obtain⟨k1,k2⟩:=one u hru ho1;rw[k2] at hc;simp at hc;subst hc;exact k1
        refine⟨fun u _ hru ho1 _=>(one u hru ho1).2,?_,?_⟩
        ·rintro (⟨cs,rfl⟩ | ⟨cs,rfl⟩)
         ·cases n with
          | zero=>cases m1
          | succ n=>
           simp only[zO] at m1;obtain⟨p',_,_,hp',m1,_⟩:=zC m1;obtain⟨h1,_⟩:=qF m1;obtain⟨k1,k2⟩:=vT hp';have h2:V.mk p'.1 = .t t:=(Prod.mk.inj h1).1.symm;unfold V.mk at h2;split at h2
           ·rename_i ts' hts';cases h2;show ts'.length=cs.length;rw[qI1 hts',k1]
           ·cases h2
         ·have h2:(V.t (.agg cs)) = .t t:=by cases n<;>(obtain⟨h1,_⟩:=qF m1;cases h1;rfl)
          cases h2;rw[qOi,length_map]
        ·cases e with
         | agg cs=>
          intro j q c u hq hc hru ho1;cases n with
          | zero=>cases m1
          | succ n=>
           simp only[zO] at m1;obtain⟨p',_,_,hp',m1,_⟩:=zC m1;obtain⟨h1,_⟩:=qF m1;obtain⟨k1,k2⟩:=vT hp';have h2:V.mk p'.1 = .t t:=(Prod.mk.inj h1).1.symm;have h2b:p'.2=fzi:=(Prod.mk.inj h1).2.symm;unfold V.mk at h2;split at h2
           ·rename_i ts' hts';cases h2;have hc':ts'[j]?=some c:=hc;obtain⟨fzj,lj,q1,q2⟩:=k2 j q (.t c) hq (by rw[qFk hts',getElem?_map,hc'];rfl);have hr2:=kZ R q1 hru (fun j hj=>hfz j (m2 j (by rw[←h2b];exact q2 j hj)));cases hr2 with
            | t hr2=>exact hr2
           ·cases h2
         | t y=>
          intro j q c u hq hc hru ho1;have h2:(V.t y) = .t t:=by cases n<;>(obtain⟨h1,_⟩:=qF m1;cases h1;rfl)
          cases h2;obtain⟨c',hc',rfl⟩:=qA8 hq;rw[hc] at hc';cases hc';cases hru with
          | t hru=>exact hru.mono (fun _ h=> .inl h) (fun _ _=>rfl)
         | _=>exact single rfl
       refine .t (zHm R (fun _ h=> .inl h) ho hx hle (hbl (fz0:=p.2) hsub) (by rw[qI1 hts,g1]) (fun t ht=>?_) (fun i e t he ht=>(key i e t he ht).2.2));obtain⟨i,hi⟩:=getElem?_of_mem ht;have hil:i<es.length:=by rw[←g1,←qI1 hts];exact (List.getElem?_eq_some_iff.1 hi).1
       rcases R.row ho with h0 | ⟨c,hc⟩
       ·subst h0;simp at hil
       ·obtain⟨e,he⟩ : ∃ e,es[i]?=some e:=⟨es[i],by simp[hil]⟩;obtain⟨k1,k2⟩:=hc i e he;obtain⟨q1,q2,_⟩:=key i e t he hi;have sing:e.cells=[e]→t.cells.length=z:=by
         intro hec;obtain⟨u,hu,hru,ho1⟩:=k2 0 e (by rw[hec];rfl);rw[q1 u (by rw[hec];rfl) hru ho1 hec,←k1,hec];rfl
        cases e with
        | agg cs=>rw[q2 (.inl ⟨cs,rfl⟩),k1]
        | t y=>
         cases y with
         | agg cs=>rw[q2 (.inr ⟨cs,rfl⟩),k1]
         | _=>exact sing rfl
        | _=>exact sing rfl
      ·cases h3
 termination_by n=>n
end Go.Eng
end
section
namespace Go.Eng
open List
variable {β:Nat→Option BI} {F:Nat→Prop} {w:World} {cx:Cx} {fm:Nat→Option V} {hm:Nat→Option Ob} {a:Act}
mutual
def V.noSl:V→Bool
 | .sl _ _ _=>false
 | .agg cs=>qZ8 cs
 | .tup cs=>qZ8 cs
 | .fn _ cs=>qZ8 cs
 | _=>true
def qZ8:List V→Bool
 | []=>true
 | c::r=>c.noSl&&qZ8 r
end
theorem qR4 : ∀ {cs:List V},qZ8 cs=true → ∀ c∈cs,c.noSl=true
 | [],_,c,hc=>by simp at hc
 | x::r,h,c,hc=>by
  simp only[qZ8,Bool.and_eq_true] at h;simp only[mem_cons] at hc;rcases hc with rfl | hc
  ·exact h.1
  ·exact qR4 h.2 c hc
theorem zNw : ∀ {cs:List V},(∀ c∈cs,c.noSl=true)→qZ8 cs=true
 | [],_=>rfl
 | x::r,h=>by
  simp only[qZ8,Bool.and_eq_true];exact⟨h x sM,zNw (fun c hc=>h c (by simp[hc]))⟩
theorem qFz : ∀ {cs:List V} {c:V} {r:Nat},c∈cs→r∈c.refs→r∈qCe cs
 | x::cs,c,r,hc,hr=>by
  simp only[qCe,mem_append];simp only[mem_cons] at hc;rcases hc with rfl | hc
  ·exact .inl hr
  ·exact .inr (qFz hc hr)
theorem zUt (ts:List T):qCe (ts.map .t)=[]:=by
 induction ts with
 | nil=>rfl
 | cons x r ih=>simp[qCe,V.refs,ih]
theorem jHl {cs:List V}(h:qZ8 cs=true):(V.mk cs).noSl=true:=by
 unfold V.mk;split
 ·rfl
 ·exact h
theorem qRk : ∀ {n:Nat} {v v':V} {fz l:List Nat},(zO n v).run hm=some ((v',fz),l)→v'.noSl=true
 | n,v,v',fz,l,h=>by
  have list : ∀ {m:Nat} {cs cs':List V} {fz l:List Nat},m<n→(qFn (zO m) cs).run hm=some ((cs',fz),l)→qZ8 cs'=true:=by
   intro m cs cs' fz l hlt h;obtain⟨g1,g2⟩:=vT h;refine zNw (fun c hc=>?_);obtain⟨i,hi⟩:=getElem?_of_mem hc;have hil:i<cs.length:=by rw[←g1];exact (List.getElem?_eq_some_iff.1 hi).1
   obtain⟨fzi,li,m1,m2⟩:=g2 i cs[i] c (by simp[hil]) hi;exact qRk m1
  cases v with
  | t y=>cases n<;>(obtain⟨h1,_⟩:=qF h;cases h1;rfl)
  | nil=>cases n<;>(obtain⟨h1,_⟩:=qF h;cases h1;rfl)
  | ro cs=>cases n<;>(obtain⟨h1,_⟩:=qF h;cases h1;rfl)
  | ref id i f=>cases n<;>(obtain⟨h1,_⟩:=qF h;cases h1;rfl)
  | bd g id i f=>cases n<;>(obtain⟨h1,_⟩:=qF h;cases h1;rfl)
  | bq=>cases n<;>cases h
  | tup cs=>cases n<;>cases h
  | agg cs=>
   cases n with
   | zero=>cases h
   | succ n=>
    simp only[zO] at h;obtain⟨p,l1,l2,hp,h,_⟩:=zC h;obtain⟨h1,_⟩:=qF h;cases h1;exact jHl (list (Nat.lt_succ_self n) hp)
  | fn f cs=>
   cases n with
   | zero=>cases h
   | succ n=>
    simp only[zO] at h;obtain⟨p,l1,l2,hp,h,_⟩:=zC h;obtain⟨h1,_⟩:=qF h;cases h1;exact list (Nat.lt_succ_self n) hp
  | sl id off len=>
   cases n with
   | zero=>cases h
   | succ n=>
    simp only[zO] at h;obtain⟨o,l',ho,h2,_⟩:=vV h;cases o with
    | dead=>cases h2
    | live z es wr full=>
     obtain⟨hle,h3⟩:=qS h2;split at h3
     ·obtain⟨h1,_⟩:=qF h3;cases h1;rfl
     ·obtain⟨p,l1,l2,hp,h3,_⟩:=zC h3;split at h3
      ·obtain⟨h1,_⟩:=qF h3;cases h1;rfl
      ·cases h3
 termination_by n=>n
def qH9 (ids:List Nat)(β:Nat→Option BI):Nat→Option BI:=fun k=>(ids[k]?).bind β
theorem qNb {ids:List Nat}{r:Nat}(h:r∈ids):qH9 ids β (ids.idxOf r)=β r:=by
 unfold qH9;have hlt:ids.idxOf r<ids.length:=idxOf_lt_length_of_mem h;have:ids[ids.idxOf r]?=some r:=by
  rw[getElem?_eq_getElem hlt,getElem_idxOf]
 rw[this];rfl
theorem zHl {ids:List Nat}{v:V}{x:Value}(h:qW β F w v x):v.noSl=true→(∀ r∈v.refs,r∈ids)→qW (qH9 ids β) F w (v.ren (fun r=>ids.idxOf r)) x:=by
 induction h with
 | t h=>intro _ _;exact .t h
 | nil=>intro _ _;exact .nil
 | ref id i f b sz room hb=>intro _ hr;exact .ref _ i f b sz room (by rw[qNb (hr id (by simp[V.refs]))];exact hb)
 | bd g id i f b sz room hb=>intro _ hr;exact .bd g _ i f b sz room (by rw[qNb (hr id (by simp[V.refs]))];exact hb)
 | bq b=>intro _ _;exact .bq b
 | ro cs a news ha hn h1 hF hw h=>intro _ _;exact .ro cs a news ha hn h1 hF hw h
 | sl id off len cap b sz room a hb hlc hr ha hs=>intro h;simp[V.noSl] at h
 | slv id sz room hb=>intro h;simp[V.noSl] at h
 | agg cs vs hl h1 _ ih=>
  intro hn hr;simp only[V.ren,zJ];refine .agg _ vs (by simpa using hl) h1 (fun i c u hc hu=>?_);rw[getElem?_map,Option.map_eq_some_iff] at hc;obtain⟨c',hc',rfl⟩:=hc;have hm1:=mem_of_getElem? hc';exact ih i c' u hc' hu (qR4 (by simpa [V.noSl] using hn) c' hm1) (fun r h=>hr r (by simp only[V.refs];exact qFz hm1 h))
 | tup cs vs hl _ ih=>
  intro hn hr;simp only[V.ren,zJ];refine .tup _ vs (by simpa using hl) (fun i c u hc hu=>?_);rw[getElem?_map,Option.map_eq_some_iff] at hc;obtain⟨c',hc',rfl⟩:=hc;have hm1:=mem_of_getElem? hc';exact ih i c' u hc' hu (qR4 (by simpa [V.noSl] using hn) c' hm1) (fun r h=>hr r (by simp only[V.refs];exact qFz hm1 h))
 | fn f cs vs hl _ ih=>
  intro hn hr;simp only[V.ren,zJ];refine .fn f _ vs (by simpa using hl) (fun i c u hc hu=>?_);rw[getElem?_map,Option.map_eq_some_iff] at hc;obtain⟨c',hc',rfl⟩:=hc;have hm1:=mem_of_getElem? hc';exact ih i c' u hc' hu (qR4 (by simpa [V.noSl] using hn) c' hm1) (fun r h=>hr r (by simp only[V.refs];exact qFz hm1 h))
def jSo (hm:Nat→Option Ob)(fz:List Nat)(id:Nat)(o:Ob):Prop:=
 ∃ z es es' full fzk lk,hm id=some (.live z es true full)∧o = .live z es' true full∧(qFm es).run hm=some ((es',fzk),lk) ∧ ∀ j∈fzk,j∈fz
def Ob.refs:Ob→List Nat
 | .live _ es _ _=>qCe es
 | .dead=>[]
theorem qTu : ∀ {n:Nat} {todo ids:List Nat} {obs:List Ob} {fz ids':List Nat} {obs':List Ob} {fz' l:List Nat},(qDe n todo ids obs fz).run hm=some ((ids',obs',fz'),l)→
  ids.Nodup→ids.length=obs.length→(∀ (k id:Nat) (o:Ob),ids[k]?=some id→obs[k]?=some o→jSo hm fz id o)→(∀ o∈obs,∀ r∈o.refs,r∈ids∨r∈todo)→
  ids'.Nodup∧ids'.length=obs'.length∧(∀ (k id:Nat) (o:Ob),ids'[k]?=some id→obs'[k]?=some o→jSo hm fz' id o)∧(∀ o∈obs',∀ r∈o.refs,r∈ids')∧(∀ r∈todo,r∈ids')∧(∀ r∈ids,r∈ids') ∧ ∀ j∈fz,j∈fz'
 | n,[],ids,obs,fz,ids',obs',fz',l,h,h1,h2,h3,h4=>by
  have h':(Q.ret (ids,obs,fz):Q _).run hm=some ((ids',obs',fz'),l):=by cases n<;>exact h
  obtain⟨e,_⟩:=qF h';cases e;exact⟨h1,h2,h3,fun o ho r hr=>by simpa using h4 o ho r hr,sM,fun _ h=>h,fun _ h=>h⟩
 | 0,_::_,ids,obs,fz,ids',obs',fz',l,h,_,_,_,_=>by cases h
 | n+1,id::todo,ids,obs,fz,ids',obs',fz',l,h,h1,h2,h3,h4=>by
  simp only[qDe] at h;split at h
  ·rename_i hc;have hmem:id∈ids:=by simpa using hc
   obtain⟨k1,k2,k3,k4,k5,k6,k7⟩:=qTu h h1 h2 h3 (fun o ho r hr=>by
    rcases h4 o ho r hr with h | h
    ·exact .inl h
    ·simp only[mem_cons] at h;rcases h with rfl | h
     ·exact .inl hmem
     ·exact .inr h)
   exact⟨k1,k2,k3,k4,fun r hr=>by
    simp only[mem_cons] at hr;rcases hr with rfl | hr
    ·exact k6 _ hmem
    ·exact k5 r hr,k6,k7⟩
  ·rename_i hc;have hnm:id ∉ ids:=by simpa using hc
   obtain⟨o,l',ho,hs2,_⟩:=vV h;cases o with
   | dead=>cases hs2
   | live z es wr full=>
    cases wr with
    | false=>cases hs2
    | true=>
     obtain⟨p,l1,l2,hp,hs3,_⟩:=zC hs2;have hobs : ∀ (k j:Nat) (o:Ob),(ids++[id])[k]?=some j→(obs++[Ob.live z p.1 true full])[k]?=some o→jSo hm (fz++p.2) j o:=by
      intro k j o hk hko;by_cases hlt:k<ids.length
      ·rw[getElem?_append_left hlt] at hk;rw[getElem?_append_left oM] at hko;obtain⟨z1,e1,e2,f1,fk,lk,g1,g2,g3,g4⟩:=h3 k j o hk hko;exact⟨z1,e1,e2,f1,fk,lk,g1,g2,g3,fun j hj=>by simp[g4 j hj]⟩
      ·rw[getElem?_append_right oM] at hk hko;have hk0:k-ids.length=0:=by
        rcases Nat.eq_zero_or_pos (k-ids.length) with h | h
        ·exact h
        ·rw[getElem?_eq_none soM] at hk;cases hk
       rw[hk0] at hk;rw[show k-obs.length=0 by omega] at hko;simp at hk hko;subst hk hko;exact⟨z,es,p.1,full,p.2,l1,ho,rfl,hp,fun j hj=>by simp[hj]⟩
     have href : ∀ r∈qCe p.1,r∈ids++[id]∨r∈todo++(match qF4 es with | some _=>[] | none=>qCe p.1):=by
      intro r hr;cases ha:qF4 es with
      | none=>exact .inr (by simp only[mem_append];exact .inr hr)
      | some ts=>
       unfold qFm at hp;rw[ha] at hp;obtain⟨e,_⟩:=qF hp;rw[e,qFk ha,zUt] at hr;simp at hr
     obtain⟨k1,k2,k3,k4,k5,k6,k7⟩:=qTu hs3 (by
       rw[nodup_append];exact⟨h1,sM,fun x hx y hy=>by simp at hy;subst hy;exact fun e=>hnm (e▸hx)⟩) (by simp[h2]) hobs (fun o ho' r hr=>by
      simp only[mem_append,mem_singleton] at ho';rcases ho' with ho' | rfl
      ·rcases h4 o ho' r hr with h | h
       ·exact .inl (by simp[h])
       ·simp only[mem_cons] at h;rcases h with rfl | h
        ·exact .inl sM
        ·exact .inr (by simp[h])
      ·exact href r hr)
     exact⟨k1,k2,k3,k4,fun r hr=>by
      simp only[mem_cons] at hr;rcases hr with rfl | hr
      ·exact k6 _ sM
      ·exact k5 r (by simp[hr]),fun r hr=>k6 r (by simp[hr]),fun j hj=>k7 j (by simp[hj])⟩
theorem zNg : ∀ {fz:List Nat} {fw:Wr} {l:List Nat},(zB4 fz).run hm=some (fw,l)→(∀ id∈fz,100≤id ∧ ∃ z es full,hm id=some (.live z es true full)∧(id,Ob.live z es false full)∈fw)∧
  ∀ p∈fw,p.1∈fz ∧ ∃ z es full,hm p.1=some (.live z es true full)∧p.2 = .live z es false full
 | [],fw,l,h=>by
  obtain⟨e,_⟩:=qF h;cases e;exact⟨sM,sM⟩
 | id::r,fw,l,h=>by
  simp only[zB4] at h;obtain⟨o,l',ho,hs2,_⟩:=vV h;cases o with
  | dead=>cases hs2
  | live z es wr full=>
   cases wr with
   | false=>cases hs2
   | true=>
    obtain⟨h100,hs3⟩:=qS hs2;obtain⟨q,l1,l2,hq,hs4,_⟩:=zC hs3;obtain⟨e,_⟩:=qF hs4;cases e;obtain⟨g1,g2⟩:=zNg hq;refine⟨fun i hi=>?_,fun p hp=>?_⟩
    ·simp only[mem_cons] at hi;rcases hi with rfl | hi
     ·exact⟨h100,z,es,full,ho,sM⟩
     ·obtain⟨m1,z',es',full',m2,m3⟩:=g1 i hi;exact⟨m1,z',es',full',m2,by simp[m3]⟩
    ·simp only[mem_cons] at hp;rcases hp with rfl | hp
     ·exact⟨sM,z,es,full,ho,rfl⟩
     ·obtain⟨m1,m2⟩:=g2 p hp;exact⟨by simp[m1],m2⟩
theorem Rel.freezeAll : ∀ {fz:List Nat} {hm hm0:Nat→Option Ob} {F:Nat→Prop} {fw:Wr} {l:List Nat},(zB4 fz).run hm0=some (fw,l)→Rel cx β F fm hm a w→
  (∀ id∈fz,hm id=hm0 id ∨ ∃ z es full,hm0 id=some (.live z es true full)∧hm id=some (.live z es false full)) → ∃ F',Rel cx β F' fm (upd hm fw) a w ∧ ∀ b,F' b↔qWk β F fz b
 | [],hm,hm0,F,fw,l,h,R,_=>by
  obtain⟨e,_⟩:=qF h;cases e;exact⟨F,R,fun b=>⟨.inl,fun h=>by rcases h with h | ⟨i,hi,_⟩;exact h;simp at hi⟩⟩
 | id::r,hm,hm0,F,fw,l,h,R,hsame=>by
  simp only[zB4] at h;obtain⟨o,l',ho,hs2,_⟩:=vV h;cases o with
  | dead=>cases hs2
  | live z es wr full=>
   cases wr with
   | false=>cases hs2
   | true=>
    obtain⟨h100,hs3⟩:=qS hs2;obtain⟨q,l1,l2,hq,hs4,_⟩:=zC hs3;obtain⟨e,_⟩:=qF hs4;cases e;obtain⟨bi,hb,hfro,hR1⟩ : ∃ bi,β id=some bi∧(∀ b,(F b∨bi.blk=some b)↔qWk β F [id] b)∧Rel cx β (fun b=>F b∨bi.blk=some b) fm (upd hm [(id,.live z es false full)]) a w:=by
     have conv : ∀ {bi:BI},β id=some bi → ∀ b,(F b∨bi.blk=some b)↔qWk β F [id] b:=by
      intro bi hb b;constructor
      ·intro h;rcases h with h | h
       ·exact .inl h
       ·exact .inr ⟨id,sM,bi,hb,h⟩
      ·intro h;rcases h with h | ⟨i,hi,bi',h1,h2⟩
       ·exact .inl h
       ·simp at hi;subst hi;rw[hb] at h1;cases h1;exact .inr h2
     rcases hsame id sM with h | ⟨z',es',full',h1,h2⟩
     ·rw[ho] at h;obtain⟨bi,hb,_⟩:=R.hp id _ h;exact⟨bi,hb,conv hb,R.freeze h h100 hb⟩
     ·rw[ho] at h1;cases h1;obtain⟨bi,hb,_⟩:=R.hp id _ h2;refine⟨bi,hb,conv hb,?_⟩;have hupd:upd hm [(id,.live z es false full)]=hm:=by
       funext j;by_cases hj:j=id
       ·subst hj;simp[upd,h2]
       ·simp[upd,hj]
      rw[hupd];have hFeq:(fun b=>F b∨bi.blk=some b)=F:=by
       funext b;apply propext;constructor
       ·intro h;rcases h with h | h
        ·exact h
        ·exact R.ro h2 hb h
       ·exact .inl
      rw[hFeq];exact R
    obtain⟨F',hR2,hF'⟩:=Rel.freezeAll (hm:=upd hm [(id,.live z es false full)]) hq hR1 (fun i hi=>by
     by_cases hii:i=id
     ·subst hii;exact .inr ⟨z,es,full,ho,zQ⟩
     ·rw[qT hii];exact hsame i (by simp[hi]))
    refine⟨F',hR2,fun b=>?_⟩;rw[hF'];constructor
    ·intro h;rcases h with h | ⟨i,hi,bi',h1,h2⟩
     ·rcases (hfro b).1 h with h | ⟨i,hi,bi',h1,h2⟩
      ·exact .inl h
      ·simp at hi;subst hi;exact .inr ⟨i,sM,bi',h1,h2⟩
     ·exact .inr ⟨i,by simp[hi],bi',h1,h2⟩
    ·intro h;rcases h with h | ⟨i,hi,bi',h1,h2⟩
     ·exact .inl ((hfro b).2 (.inl h))
     ·simp only[mem_cons] at hi;rcases hi with rfl | hi
      ·exact .inl ((hfro b).2 (.inr ⟨i,sM,bi',h1,h2⟩))
      ·exact .inr ⟨i,hi,bi',h1,h2⟩
end Go.Eng
end
section
namespace Go.Eng
open List
variable {β:Nat→Option BI} {F:Nat→Prop} {w:World} {cx:Cx} {fm:Nat→Option V} {hm:Nat→Option Ob} {a:Act}
def gam (ids:List Nat)(nb k:Nat):Nat:=
 match ids[k]? with
 | some id=>id
 | none=>nb+(k-ids.length)
def qQo (ids:List Nat)(nb:Nat):Nat→List Ob→Wr
 | _,[]=>[]
 | k,o::r=>(gam ids nb k,o.ren (gam ids nb))::qQo ids nb (k+1) r
theorem qTy (ids:List Nat)(nb:Nat) : ∀ (outs:List Ob) (k:Nat) (p:Nat×Ob),p∈qQo ids nb k outs → ∃ j,j<outs.length∧p.1=gam ids nb (k+j)
 | [],_,p,h=>by simp[qQo] at h
 | o::r,k,p,h=>by
  simp only[qQo,mem_cons] at h;rcases h with rfl | h
  ·exact⟨0,sM,rfl⟩
  ·obtain⟨j,h1,h2⟩:=qTy ids nb r (k+1) p h;exact⟨j+1,soM,by rw[h2];congr 1;omega⟩
theorem qGl : ∀ {W:Wr} {hm:Nat→Option Ob} {id:Nat},(∀ p∈W,p.1≠id)→upd hm W id=hm id
 | [],_,_,_=>rfl
 | (i,o)::r,hm,id,h=>by
  rw[upd,qGl (fun p hp=>h p (by simp[hp]))];rw[if_neg (fun e=>h (i,o) sM e.symm)]
theorem zOs {ids:List Nat}{nb:Nat} : ∀ {outs:List Ob} {hm:Nat→Option Ob} {k:Nat},(∀ i j,i<k+outs.length→j<k+outs.length→gam ids nb i=gam ids nb j→i=j)→
  ∀ {j:Nat} {o:Ob},outs[j]?=some o→upd hm (qQo ids nb k outs) (gam ids nb (k+j))=some (o.ren (gam ids nb))
 | [],_,_,_,j,o,h=>by simp at h
 | p::r,hm,k,hinj,j,o,h=>by
  simp only[qQo,upd];cases j with
  | zero=>
   simp at h;subst h;rw[qGl (fun q hq=>by
    obtain⟨i,h1,h2⟩:=qTy ids nb r (k+1) q hq;intro e;rw[h2] at e;have:=hinj _ _ soM sM e;omega)]
   simp
  | succ j=>
   simp at h;have:=zOs (hm:=fun i=>if i=gam ids nb k then some (p.ren (gam ids nb)) else hm i) (k:=k+1) (fun a b ha hb=>hinj a b (by simp at ha ⊢;omega) (by simp at hb ⊢;omega)) h;rw[show k+(j+1)=k+1+j by omega];exact this
theorem qB9 {l:List Nat}(h:l.Nodup){i j:Nat}(hi:i<l.length)(hj:j<l.length)(e:l[i]=l[j]):i=j:=by
 unfold List.Nodup at h;rw[pairwise_iff_getElem] at h;rcases Nat.lt_trichotomy i j with h1 | h1 | h1
 ·exact absurd e (h i j hi hj h1)
 ·exact h1
 ·exact absurd e.symm (h j i hj hi h1)
theorem Rel.called {FA:Nat→Prop}{hmA:Nat→Option Ob}(R:Rel cx β FA fm hmA a w){ids:List Nat}(hnd:ids.Nodup)(hlive : ∀ (k id:Nat),ids[k]?=some id → ∃ z es full,hmA id=some (.live z es true full))
  {βp:Nat→Option BI} {F':Nat→Prop} {w':World} {outs:List Ob} {nb:Nat} (fits:zW6 βp F' w' outs) (old : ∀ (k id:Nat),ids[k]?=some id→βp k=β id)
  (new : ∀ (k:Nat) (bi:BI) (b:Nat),ids.length≤k→βp k=some bi→bi.blk=some b→w.heap.size≤b) (hF : ∀ b,b<w.heap.size→(F' b↔FA b)) (hFw : ∀ b,F' b→b<w'.heap.size)
  (hos:w'.os=w.os) (htp:w'.tape=w.tape) (hout:w'.output=w.output) (hsz:w.heap.size≤w'.heap.size)
  (frame : ∀ b,b<w.heap.size→(∀ (k id:Nat) (bi:BI),ids[k]?=some id→β id=some bi→bi.blk≠some b)→w'.heap[b]?=w.heap[b]?)
  (hlen:ids.length≤outs.length) (fresh : ∀ j,j<outs.length-ids.length→hmA (nb+j)=none) :
  ∃ βn,Rel cx βn F' fm (upd hmA (qQo ids nb 0 outs)) a w'∧(∀ k bi,βp k=some bi→βn (gam ids nb k)=some bi)∧(∀ i bi,β i=some bi→βn i=some bi):=by
 have gold : ∀ k id,ids[k]?=some id→gam ids nb k=id:=fun k id h=>by simp[gam,h]
 have gnew : ∀ k,ids.length≤k→gam ids nb k=nb+(k-ids.length):=fun k h=>by simp[gam,getElem?_eq_none h]
 have glt : ∀ k,k<ids.length → ∃ id,ids[k]?=some id:=fun k h=>⟨ids[k],by simp[h]⟩
 have ginj : ∀ i j,i<0+outs.length→j<0+outs.length→gam ids nb i=gam ids nb j→i=j:=by
  intro i j hi hj h;rcases Nat.lt_or_ge i ids.length with h1 | h1<;>rcases Nat.lt_or_ge j ids.length with h2 | h2
  ·obtain⟨x,hx⟩:=glt i h1;obtain⟨y,hy⟩:=glt j h2;rw[gold i x hx,gold j y hy] at h;subst h;have e1:ids[i]=x:=by simpa [h1] using hx
   have e2:ids[j]=x:=by simpa [h2] using hy
   exact qB9 hnd h1 h2 (e1.trans e2.symm)
  ·obtain⟨x,hx⟩:=glt i h1;obtain⟨z,es,full,hl⟩:=hlive i x hx;rw[gold i x hx,gnew j h2] at h;rw[h,fresh _ oM] at hl;cases hl
  ·obtain⟨y,hy⟩:=glt j h2;obtain⟨z,es,full,hl⟩:=hlive j y hy;rw[gold j y hy,gnew i h1] at h;rw[←h,fresh _ oM] at hl;cases hl
  ·rw[gnew i h1,gnew j h2] at h;omega
 let inr:Nat→Prop:=fun id=>nb≤id∧id<nb+(outs.length-ids.length)
 have hdec : ∀ id,Decidable (inr id):=fun id=>by unfold inr;infer_instance
 let βn:Nat→Option BI:=fun id=>if nb≤id∧id<nb+(outs.length-ids.length) then βp (ids.length+(id-nb)) else β id
 have bnew : ∀ id,inr id→βn id=βp (ids.length+(id-nb)):=fun id h=>if_pos h
 have bold : ∀ id,¬ inr id→βn id=β id:=fun id h=>if_neg h
 have inrNone : ∀ id,inr id→hmA id=none:=by
  intro id h;have:=fresh (id-nb) (by have:=h.1;have:=h.2;omega);rwa [show nb+(id-nb)=id by have:=h.1;omega] at this
 have bext : ∀ i bi,β i=some bi→βn i=some bi:=by
  intro i bi h;rw[bold i (fun hi=>by rw[R.dom i (inrNone i hi)] at h;cases h)];exact h
 have bgam : ∀ k bi,βp k=some bi→βn (gam ids nb k)=some bi:=by
  intro k bi h;have hk:k<outs.length:=by
   rcases Nat.lt_or_ge k outs.length with h1 | h1
   ·exact h1
   ·rw[fits.dom k h1] at h;cases h
  rcases Nat.lt_or_ge k ids.length with h1 | h1
  ·obtain⟨id,hid⟩:=glt k h1;rw[gold k id hid];exact bext id bi (by rw[←old k id hid];exact h)
  ·rw[gnew k h1,bnew _ ⟨oM,oM⟩,show ids.length+(nb+(k-ids.length)-nb)=k by omega];exact h
 have key : ∀ id,(∃ k o,outs[k]?=some o∧gam ids nb k=id∧upd hmA (qQo ids nb 0 outs) id=some (o.ren (gam ids nb)))∨((∀ k,k<outs.length→gam ids nb k≠id)∧upd hmA (qQo ids nb 0 outs) id=hmA id):=by
  intro id;by_cases h : ∃ k,k<outs.length∧gam ids nb k=id
  ·obtain⟨k,hk,hg⟩:=h;left;have:=zOs (hm:=hmA) (ids:=ids) (nb:=nb) (outs:=outs) (k:=0) ginj (j:=k) (o:=outs[k]) (by simp[hk]);rw[Nat.zero_add,hg] at this;exact⟨k,outs[k],by simp[hk],hg,this⟩
  ·right;have hne : ∀ k,k<outs.length→gam ids nb k≠id:=fun k hk e=>h ⟨k,hk,e⟩
   refine⟨hne,qGl (fun p hp=>?_)⟩;obtain⟨j,h1,h2⟩:=qTy ids nb outs 0 p hp;rw[h2,Nat.zero_add];exact hne j h1
 have hFA : ∀ b,FA b→F' b:=fun b hb=>(hF b (R.Fw b hb)).2 hb
 have hFblk : ∀ b,FA b→w'.heap[b]?=w.heap[b]?:=by
  intro b hb;refine frame b (R.Fw b hb) (fun k id bi hk hbi hbk=>?_);obtain⟨z,es,full,hl⟩:=hlive k id hk;exact R.notF hl hbi hbk hb
 have where_ : ∀ id o bi b,upd hmA (qQo ids nb 0 outs) id=some o→o≠ .dead→βn id=some bi→bi.blk=some b→
   (inr id∧w.heap.size≤b∧βp (ids.length+(id-nb))=some bi)∨(¬ inr id∧β id=some bi∧b<w.heap.size ∧ ∃ o',hmA id=some o'∧o'≠ .dead):=by
  intro id o bi b ho hd hb hbk;by_cases hi:inr id
  ·rw[bnew id hi] at hb;exact .inl ⟨hi,new _ bi b oM hb hbk,hb⟩
  ·rw[bold id hi] at hb;refine .inr ⟨hi,hb,R.blt id bi b hb hbk,?_⟩;rcases key id with⟨k,o2,hk,hg,hu⟩ | ⟨hne,hu⟩
   ·have hkl:k<outs.length:=(List.getElem?_eq_some_iff.1 hk).1;rcases Nat.lt_or_ge k ids.length with h1 | h1
    ·obtain⟨x,hx⟩:=glt k h1;rw[gold k x hx] at hg;subst hg;obtain⟨z,es,full,hl⟩:=hlive k x hx;exact⟨_,hl,sM⟩
    ·rw[gnew k h1] at hg;exact absurd ⟨oM,oM⟩ hi
   ·rw[hu] at ho;exact⟨o,ho,hd⟩
 refine⟨βn,⟨R.tsz,R.dfr,fun t v hv=>?_,fun id o ho=>?_,fun id hn=>?_,fun i j bi bj b oi oj h1 h2 h3 h4 h5 h6 h7 h8=>?_,hos.trans R.os,htp.trans R.tape,hout.trans R.output,Nat.le_trans R.size hsz,fun b hb hib=>?_,fun id z es full bi b h1 h2 h3=>?_,fun b hib hFb=>?_,R.inw,hFw,fun b hb=>?_,fun id bi b h1 h2=>?_,fun g cs hg=>(R.gl g cs hg).mono bext hFA hFblk,fun k bi h=>bext _ _ (R.ext0 k bi h),fun g cs hg=>(R.gs g cs hg).mono (hFblk g (yB7 (R.gl g cs hg)))⟩,bgam,bext⟩
 ·obtain⟨x,h1,h2⟩:=R.fr t v hv;exact⟨x,h1,h2.mono bext hFA hFblk⟩
 ·rcases key id with⟨k,o2,hk,hg,hu⟩ | ⟨hne,hu⟩
  ·rw[hu] at ho;cases ho;obtain⟨bi,h1,h2,_⟩:=fits.ok k o2 hk;refine⟨bi,by rw[←hg];exact bgam k bi h1,?_⟩;exact qHv.ren (β:=βn) (ρ:=gam ids nb) (h2.mono (β':=fun k=>βn (gam ids nb k)) bgam (fun _ h=>h) (fun _ _=>rfl) (fun _ _ _=>⟨rfl,fun h=>h⟩))
  ·rw[hu] at ho;obtain⟨bi,h1,h2⟩:=R.hp id o ho;refine⟨bi,bext id bi h1,h2.mono bext hFA hFblk (fun b hbk hd=>⟨frame b (R.blt id bi b h1 hbk) (fun k id' bi' hk hbi' hbk'=>?_),fun h=>(hF b (R.blt id bi b h1 hbk)).1 h⟩)⟩;obtain⟨z,es,full,hl⟩:=hlive k id' hk;have:=R.inj id' id bi' bi b _ o hbi' h1 hbk' hbk hl ho sM hd;have hkl:k<ids.length:=(List.getElem?_eq_some_iff.1 hk).1;exact hne k oM (by rw[gold k id' hk];exact this)
 ·rcases key id with⟨k,o2,hk,hg,hu⟩ | ⟨hne,hu⟩
  ·rw[hu] at hn;cases hn
  ·rw[hu] at hn;rw[bold id (fun hi=>by
    have:=hne (ids.length+(id-nb)) (by have:=hi.1;have:=hi.2;omega);rw[gnew _ oM] at this;have h1:=hi.1;omega)]
   exact R.dom id hn
 ·rcases where_ i oi bi b h5 h7 h1 h3 with⟨a1,a2,a3⟩ | ⟨a1,a2,a3,o1,a4,a5⟩<;>rcases where_ j oj bj b h6 h8 h2 h4 with⟨b1,b2,b3⟩ | ⟨b1,b2,b3,o2,b4,b5⟩
  ·have:=fits.inj _ _ bi bj b a3 b3 h3 h4;have e1:=a1.1;have e2:=b1.1;omega
  ·omega
  ·omega
  ·exact R.inj i j bi bj b o1 o2 a2 b2 h3 h4 a4 b4 a5 b5
 ·rw[frame b (Nat.lt_of_lt_of_le hb R.size) (fun k id bi hk hbi hbk=>?_)]
  ·exact R.ext b hb hib
  ·obtain⟨z,es,full,hl⟩:=hlive k id hk;rcases R.old id z es full bi b hl hbi hbk with h | h
   ·omega
   ·exact hib h.2
 ·rcases where_ id _ bi b h1 sM h2 h3 with⟨a1,a2,a3⟩ | ⟨a1,a2,a3,o1,a4,a5⟩
  ·exact .inl (Nat.le_trans R.size a2)
  ·rcases key id with⟨k,o2,hk,hg,hu⟩ | ⟨hne,hu⟩
   ·have hkl:k<outs.length:=(List.getElem?_eq_some_iff.1 hk).1;rcases Nat.lt_or_ge k ids.length with h4 | h4
    ·obtain⟨x,hx⟩:=glt k h4;rw[gold k x hx] at hg;subst hg;obtain⟨z',es',full',hl⟩:=hlive k x hx;exact R.old x z' es' full' bi b hl a2 h3
    ·rw[gnew k h4] at hg;exact absurd ⟨oM,oM⟩ a1
   ·rw[hu] at h1;exact R.old id z es full bi b h1 a2 h3
 ·have:=R.inw b hib;exact R.inF b hib ((hF b (by have:=R.size;omega)).1 hFb)
 ·exact (hF b (by have:=R.size;omega)).trans (R.F0 b hb)
 ·by_cases hi:inr id
  ·rw[bnew id hi] at h1;exact (fits.blt _ bi b h1 h2).1
  ·rw[bold id hi] at h1;have:=R.blt id bi b h1 h2;omega
end Go.Eng
end
section
namespace Go.Eng
open List
variable {β:Nat→Option BI} {F:Nat→Prop} {w:World} {cx:Cx} {fm:Nat→Option V} {hm:Nat→Option Ob} {a:Act}
abbrev FnS:=List V→List Ob→Option (V×List Ob)
abbrev Tab:=List (FuncId×FnS)
def Tab.look:Tab→FuncId→Option FnS
 | [],_=>none
 | (g,s)::r,f=>if g=f then some s else Tab.look r f
def qW7 (P:Program)(f:FuncId)(vals:Array Value)(w:World)(R:Ending→World→Prop):Prop:=
 (∃ g,(callFunc f vals).run P w = .ok (.enter g vals) w∧Calls P g vals w R)∨(∃ x w',(callFunc f vals).run P w = .ok (.value x) w'∧R (.returned x) w')
theorem qW7.mono {P:Program}{f:FuncId}{vals:Array Value}{w:World}{R R':Ending→World→Prop}(h:qW7 P f vals w R)(hr : ∀ e w',R e w'→R' e w'):qW7 P f vals w R':=by
 rcases h with⟨g,h1,h2⟩ | ⟨x,w',h1,h2⟩
 ·exact .inl ⟨g,h1,h2.mono hr⟩
 ·exact .inr ⟨x,w',h1,hr _ _ h2⟩
def jKw (P:Program)(G:Nat→Option (List T))(f:FuncId)(aS:List V)(ins:List Ob)(r:V)(outs:List Ob):Prop:=
 ∀ (w:World) (β:Nat→Option BI) (F:Nat→Prop) (vals:Array Value),zRj G F w→zW6 β F w ins→qBm (qW β F w) aS vals.toList→
  qW7 P f vals w (fun e w' => ∃ x β' F',e = .returned x∧qRh w β F ins r outs x β' F' w')
theorem zMa.e {P:Program}{G:Nat→Option (List T)}{f:FuncId}{aS:List V}{ins:List Ob}{r:V}{outs:List Ob}(hc : ∀ args w,(callFunc f args).run P w = .ok (.enter f args) w)(h:zMa P G f aS ins r outs):jKw P G f aS ins r outs:=
 fun w β F vals h1 h2 h3=> .inl ⟨f,hc vals w,h w β F vals h1 h2 h3⟩
def FOk (P:Program)(G:Nat→Option (List T))(f:FuncId)(s:FnS):Prop := ∀ aS ins r outs,s aS ins=some (r,outs)→jKw P G f aS ins r outs
theorem FOk.of {P:Program}{G:Nat→Option (List T)}{f:FuncId}{s:FnS}(hc : ∀ args w,(callFunc f args).run P w = .ok (.enter f args) w)(h : ∀ aS ins r outs,s aS ins=some (r,outs)→zMa P G f aS ins r outs):FOk P G f s:=
 fun aS ins r outs hs=>(h aS ins r outs hs).e hc
def qCc (P:Program)(G:Nat→Option (List T))(tab:Tab):Prop := ∀ f s,tab.look f=some s→FOk P G f s
theorem qCc.nil {P:Program}{G:Nat→Option (List T)}:qCc P G []:=fun _ _ h=>by cases h
theorem qCc.cons {P:Program}{G:Nat→Option (List T)}{f:FuncId}{s:FnS}{tab:Tab}(h:FOk P G f s)(ht:qCc P G tab):qCc P G ((f,s)::tab):=by
 intro g s' hg;unfold Tab.look at hg;split at hg
 ·cases hg;subst_vars;exact h
 ·exact ht g s' hg
def zJ6 {α:Type}:Nat→Nat→Q α→Q α
 | _,0,k=>k
 | nb,n+1,k=> .free nb (zJ6 (nb+1) n k)
theorem zGs {α:Type} : ∀ {n nb:Nat} {q:Q α} {x:α} {l:List Nat},(zJ6 nb n q).run hm=some (x,l)→(∀ j,j<n→hm (nb+j)=none) ∧ ∃ l',q.run hm=some (x,l')
 | 0,nb,q,x,l,h=>⟨by intro j hj;omega,l,h⟩
 | n+1,nb,q,x,l,h=>by
  obtain⟨h0,l',h1,_⟩:=qAc h;obtain⟨h2,h3⟩:=zGs h1;refine⟨fun j hj=>?_,h3⟩;cases j with
  | zero=>exact h0
  | succ j=>rw[show nb+(j+1)=nb+1+j by omega];exact h2 j oM
def qZ2 (tab:Tab)(f:FuncId)(keep:Bool)(vs:List V)(nb:Nat):Q (V×Wr):=
 (qXo keep vs).bind fun cp=>
  (Q.of ((tab.look f).bind fun s=>s (qHz (fun r=>cp.ids.idxOf r) cp.aS) (cp.obs.map (Ob.ren fun r=>cp.ids.idxOf r)))).bind fun p=>
   Q.assert (cp.ids.length≤p.2.length∧(keep=true∨p.1.flat=true∧zJ3 p.2=true))
    (zJ6 nb (p.2.length-cp.ids.length) (.ret (p.1.ren (gam cp.ids nb),(if keep then cp.fw else [])++qQo cp.ids nb 0 p.2)))
theorem zCh : ∀ {W W':Wr} {hm:Nat→Option Ob},upd hm (W++W')=upd (upd hm W) W'
 | [],_,_=>rfl
 | (i,o)::r,W',hm=>by simp only[cons_append,upd];exact zCh
theorem qWs (cs:List V):(V.mk cs).cells=cs:=by
 unfold V.mk;split
 ·rename_i ts h;rw[qFk h];rfl
 ·rfl
theorem zF7 (R:Rel cx β F fm hm a w){n:Nat}{x x':V}{fz l fz':List Nat}(h:(zO n x).run hm=some ((x',fz),l))(hsub : ∀ i∈fz,i∈fz')(hz:x.cells≠[])
  (hx : ∀ (j:Nat) (y:V),x.cells[j]?=some y → ∃ u,qW β F w y u∧u.oneCell'=true):x'.cells.length=x.cells.length∧
  ∀ (j:Nat) (y y':V) (u:Value),x.cells[j]?=some y→x'.cells[j]?=some y'→qW β F w y u→u.oneCell'=true→qW β (qWk β F fz') w y' u∧y'.noSl=true ∧ ∀ r∈y'.refs,r∈x'.refs:=by
 have one:x.cells=[x]→x'.cells.length=x.cells.length∧
  ∀ (j:Nat) (y y':V) (u:Value),x.cells[j]?=some y→x'.cells[j]?=some y'→qW β F w y u→u.oneCell'=true→qW β (qWk β F fz') w y' u∧y'.noSl=true ∧ ∀ r∈y'.refs,r∈x'.refs:=by
  intro hc;obtain⟨u,hu,ho⟩:=hx 0 x (by rw[hc];rfl);have h1:=kZ R h hu hsub;have h2:=h1.one_cells ho;rw[hc,h2];refine⟨rfl,fun j y y' u' hy hy' hr _=>?_⟩;cases j with
  | succ j=>simp at hy
  | zero=>
   simp at hy hy';subst hy hy';exact⟨kZ R h hr hsub,qRk h,fun _ h=>h⟩
 cases x with
 | t y=>
  cases n<;>(
   obtain⟨h1,_⟩:=qF h;cases h1;refine⟨rfl,fun j y1 y' u hy hy' hr _=>?_⟩;rw[hy] at hy';cases hy';refine⟨hr.mono (fun _ _ h=>h) (fun _ h=> .inl h) (fun _ _=>rfl),?_⟩;obtain⟨c,hc,rfl⟩:=qA8 hy;exact⟨rfl,by simp[V.refs]⟩)
 | agg cs=>
  cases n with
  | zero=>cases h
  | succ n=>
   simp only[zO] at h;obtain⟨p,l1,l2,hp,h,_⟩:=zC h;obtain⟨h1,_⟩:=qF h;cases h1;obtain⟨g1,g2⟩:=vT hp;rw[qWs];refine⟨g1,fun j y y' u hy hy' hr _=>?_⟩;obtain⟨fzi,li,m1,m2⟩:=g2 j y y' hy hy';refine⟨kZ R m1 hr (fun i hi=>hsub i (m2 i hi)),qRk m1,fun r hr=>?_⟩;unfold V.mk;split
   ·rename_i ts hts;have:=mem_of_getElem? hy';rw[qFk hts] at this;simp only[mem_map] at this;obtain⟨t,_,rfl⟩:=this;simp[V.refs] at hr
   ·exact qFz (mem_of_getElem? hy') hr
 | nil=>exact one rfl
 | ref id i f=>exact one rfl
 | bd g id i f=>exact one rfl
 | bq=>exact one rfl
 | ro cs=>exact one rfl
 | sl id off len=>exact one rfl
 | tup cs=>exact one rfl
 | fn f cs=>exact one rfl
theorem zUb (R:Rel cx β F fm hm a w){F1:Nat→Prop}{fz':List Nat}(hF1 : ∀ b,F1 b↔qWk β F fz' b){z:Nat}{es es':List V}{full:Bool}{bi:BI}{fz l:List Nat}(h:(qFm es).run hm=some ((es',fz),l))(hsub : ∀ i∈fz,i∈fz')
  (hok:qHv β F w bi (.live z es true full)) (hnF : ∀ b,bi.blk=some b → ¬ F1 b) {ids:List Nat} (hrefs : ∀ r∈qCe es',r∈ids) :
  qHv (qH9 ids β) F1 w bi ((Ob.live z es' true full).ren (fun r=>ids.idxOf r)):=by
 have hF:F1=qWk β F fz':=by funext b;exact propext (hF1 b)
 subst hF;unfold qHv at hok;obtain⟨g1,g2,g3⟩:=hok;have hlen:es'.length=es.length:=by
  unfold qFm at h;split at h
  ·obtain⟨e,_⟩:=qF h;cases e;rfl
  ·exact (vT h).1
 simp only[Ob.ren,zJ,qHv,length_map,hlen];refine⟨g1,g2,?_⟩;cases hb:bi.blk with
 | none=>
  simp only[hb] at g3 ⊢;refine⟨?_,g3.2⟩;rw[g3.1] at hlen;simp at hlen;rw[hlen];rfl
 | some b=>
  simp only[hb] at g3 ⊢;obtain⟨c,e,fzz,k1,k2,k3,k4,k5,k6,k7⟩:=g3;refine⟨c,e,fzz,k1,k2,k3,k4,k5,fun i y hy=>?_,by simpa using hnF b hb⟩;rw[getElem?_map,Option.map_eq_some_iff] at hy;obtain⟨x',hx',rfl⟩:=hy;have hi:i<es.length:=by rw[←hlen];exact (List.getElem?_eq_some_iff.1 hx').1
  obtain⟨m1,m2⟩:=k6 i es[i] (by simp[hi]);have key:x'.cells.length=es[i].cells.length ∧ ∀ (j:Nat) (y y':V) (u:Value),es[i].cells[j]?=some y→x'.cells[j]?=some y'→qW β F w y u→u.oneCell'=true→qW β (qWk β F fz') w y' u∧y'.noSl=true ∧ ∀ r∈y'.refs,r∈qCe es':=by
   unfold qFm at h;split at h
   ·rename_i ts hts;obtain⟨e,_⟩:=qF h;cases e;have:x'=es[i]:=by rw[getElem?_eq_getElem hi] at hx';exact (Option.some.inj hx').symm
    subst this;refine⟨rfl,fun j y y' u hy hy' hr _=>?_⟩;rw[hy] at hy';cases hy';refine⟨hr.mono (fun _ _ h=>h) (fun _ h=> .inl h) (fun _ _=>rfl),?_⟩;have hm1:es[i]∈es:=sM;have heq:=qFk hts;have hm2:es[i]∈ts.map V.t:=by rw[←heq];exact hm1
    simp only[mem_map] at hm2;obtain⟨t,_,ht⟩:=hm2;rw[←ht] at hy;obtain⟨c,_,rfl⟩:=qA8 hy;exact⟨rfl,by simp[V.refs]⟩
   ·obtain⟨h1,h2⟩:=vT h;obtain⟨fzi,li,n1,n2⟩:=h2 i es[i] x' (by simp[hi]) hx';by_cases hz:es[i].cells=[]
    ·
     cases hx0:es[i] with
     | t y=>
      rw[hx0] at n1;obtain⟨e,_⟩:=qF (x:=(V.t y,([]:List Nat))) n1;cases e;rw[hx0] at hz;rw[hz];simp
     | agg cs=>
      rw[hx0] at n1 hz;simp only[zO] at n1;obtain⟨p,l1,l2,hp,n1,_⟩:=zC n1;obtain⟨e,_⟩:=qF n1;cases e;rw[qWs,(vT hp).1];have:cs=[]:=hz;subst this;simp[V.cells]
     | _=>rw[hx0] at hz;simp[V.cells] at hz
    ·obtain⟨q1,q2⟩:=zF7 R n1 (fz':=fz') (fun i hi=>hsub i (n2 i hi)) hz (fun j y hy=>let ⟨u,_,b,d⟩:=m2 j y hy;⟨u,b,d⟩);refine⟨q1,fun j y y' u hy hy' hr ho=>?_⟩;obtain⟨s1,s2,s3⟩:=q2 j y y' u hy hy' hr ho;exact⟨s1,s2,fun r hr=>qFz (mem_of_getElem? hx') (s3 r hr)⟩
  rw[qK9,zJ,length_map,key.1];refine⟨m1,fun j y hy=>?_⟩;rw[getElem?_map,Option.map_eq_some_iff] at hy;obtain⟨y',hy',rfl⟩:=hy;have hj:j<es[i].cells.length:=by rw[←key.1];exact (List.getElem?_eq_some_iff.1 hy').1
  obtain⟨u,hu,hr,ho⟩:=m2 j (es[i].cells[j]'hj) (by simp[hj]);obtain⟨s1,s2,s3⟩:=key.2 j (es[i].cells[j]'hj) y' u (by simp[hj]) hy' hr ho;exact⟨u,hu,zHl s1 s2 (fun r hr=>hrefs r (s3 r hr)),ho⟩
end Go.Eng
end
section
namespace Go.Eng
open List
variable {β:Nat→Option BI} {F:Nat→Prop} {w:World} {cx:Cx} {fm:Nat→Option V} {hm:Nat→Option Ob} {a:Act}
theorem jMf (R:Rel cx β F fm hm a w):zRj cx.gl F w:=by
 refine⟨R.Fw,fun g cs hg=>?_,R.gs⟩;have:=R.gl g cs hg;cases this with
 | ro _ a news ha hn h1 hF hw h=>exact .ro cs _ news ha hn h1 hF hw h
theorem zJr (R:Rel cx β F fm hm a w){n:Nat}{vs aS:List V}{fz l fz':List Nat}(h:(qFn (zO n) vs).run hm=some ((aS,fz),l))(hsub : ∀ i∈fz,i∈fz'){vals:List Value}(hv:qBm (qW β F w) vs vals){ids:List Nat}(hr : ∀ r∈qCe aS,r∈ids) :
  qBm (qW (qH9 ids β) (qWk β F fz') w) (qHz (fun r=>ids.idxOf r) aS) vals:=by
 obtain⟨g1,g2⟩:=vT h;rw[zJ];have hlen:=hv.length;have key : ∀ (as0:List V) (vals0:List Value),as0.length=vals0.length→(∀ (i:Nat) (c:V) (u:Value),as0[i]?=some c→vals0[i]?=some u→qW (qH9 ids β) (qWk β F fz') w (c.ren fun r=>ids.idxOf r) u)→
   qBm (qW (qH9 ids β) (qWk β F fz') w) (as0.map (V.ren fun r=>ids.idxOf r)) vals0:=by
  intro as0
  induction as0 with
  | nil=>intro vals0 hl _;cases vals0 with
   | nil=>exact .nil
   | cons _ _=>simp at hl
  | cons c r ih=>intro vals0 hl h;cases vals0 with
   | nil=>simp at hl
   | cons u vals0=>
    exact .cons (h 0 c u rfl rfl) (ih vals0 (by simpa using hl) (fun i c u hc hu=>h (i+1) c u (by simpa using hc) (by simpa using hu)))
 refine key aS vals (by rw[g1,hlen]) (fun i c u hc hu=>?_);have hi:i<vs.length:=by rw[←g1];exact (List.getElem?_eq_some_iff.1 hc).1
 obtain⟨fzi,li,m1,m2⟩:=g2 i vs[i] c (by simp[hi]) hc;obtain⟨x,hx,hrx⟩:=hv.get i u hu;have:x=vs[i]:=by rw[getElem?_eq_getElem hi] at hx;exact (Option.some.inj hx).symm
 subst this;exact zHl (kZ R m1 hrx (fun j hj=>hsub j (m2 j hj))) (qRk m1) (fun r hr'=>hr r (qFz (mem_of_getElem? hc) hr'))
theorem zN1 (R:Rel cx β F fm hm a w){n:Nat}{vs aS:List V}{fz0 l1:List Nat}(hp:(qFn (zO 4) vs).run hm=some ((aS,fz0),l1)){todo ids:List Nat}{obs:List Ob}{fzq l2:List Nat}
  (hq:(qDe n todo [] [] []).run hm=some ((ids,obs,fzq),l2)) (htodo : ∀ r∈qCe aS,r∈todo) (hdis:(ids.all fun i => !(fz0++fzq).contains i)=true) {fw:Wr} {l3:List Nat} (hfw:(zB4 (fz0++fzq)).run hm=some (fw,l3))
  {vals:List Value} (hv:qBm (qW β F w) vs vals) :
  ∃ F1,Rel cx β F1 fm (upd hm fw) a w∧(∀ b,F b→F1 b)∧
   ids.Nodup∧ids.length=obs.length∧(∀ p∈fw,hm p.1≠none)∧
   (∀ (k id:Nat),ids[k]?=some id → ∃ z es full,hm id=some (.live z es true full)∧upd hm fw id=some (.live z es true full))∧
   zW6 (qH9 ids β) F1 w (obs.map (Ob.ren fun r=>ids.idxOf r))∧qBm (qW (qH9 ids β) F1 w) (qHz (fun r=>ids.idxOf r) aS) vals:=by
 obtain⟨k1,k2,k3,k4,k5,_,_⟩:=qTu hq sM rfl (by intro k id o hk;simp at hk) sM;obtain⟨F1,R1,hF1⟩:=Rel.freezeAll hfw R (fun id _=> .inl rfl);obtain⟨n1,n2⟩:=zNg hfw;have hnot : ∀ (k id:Nat),ids[k]?=some id→id ∉ fz0++fzq:=by
  intro k id hk;have:=all_eq_true.1 hdis id (mem_of_getElem? hk);simpa using this
 have hkeepid : ∀ (k id:Nat),ids[k]?=some id→upd hm fw id=hm id:=fun k id hk=>qGl (fun q hq e=>hnot k id hk (by rw[←e];exact (n2 q hq).1))
 have hob : ∀ (k id:Nat),ids[k]?=some id → ∃ o z es es' full fzk lk,obs[k]?=some o∧hm id=some (.live z es true full)∧o = .live z es' true full∧(qFm es).run hm=some ((es',fzk),lk) ∧ ∀ j∈fzk,j∈fzq:=by
  intro k id hk;have hkl:k<obs.length:=by rw[←k2];exact (List.getElem?_eq_some_iff.1 hk).1
  obtain⟨z,es,es',full,fzk,lk,g1,g2,g3,g4⟩:=k3 k id obs[k] hk (by simp[hkl]);exact⟨_,z,es,es',full,fzk,lk,by simp[hkl],g1,g2,g3,g4⟩
 have hlive : ∀ (k id:Nat),ids[k]?=some id → ∃ z es full,hm id=some (.live z es true full)∧upd hm fw id=some (.live z es true full):=by
  intro k id hk;obtain⟨o,z,es,es',full,fzk,lk,_,g1,_⟩:=hob k id hk;exact⟨z,es,full,g1,by rw[hkeepid k id hk];exact g1⟩
 have hFeq:F1=qWk β F (fz0++fzq):=by funext b;exact propext (hF1 b)
 refine⟨F1,R1,fun b hb=>(hF1 b).2 (.inl hb),k1,k2,fun q hq=>?_,hlive,⟨fun k o ho=>?_,fun k hk=>?_,fun i j bi bj b h1 h2 h3 h4=>?_,fun k bi b h1 h2=>?_⟩,?_⟩
 ·obtain⟨_,z,es,full,h,_⟩:=n2 q hq;rw[h];simp
 ·rw[getElem?_map,Option.map_eq_some_iff] at ho;obtain⟨o',ho',rfl⟩:=ho;have hkl:k<ids.length:=by rw[k2];exact (List.getElem?_eq_some_iff.1 ho').1
  obtain⟨o2,z,es,es',full,fzk,lk,g0,g1,g2,g3,g4⟩:=hob k ids[k] (by simp[hkl]);rw[ho'] at g0;cases g0;obtain⟨bi,hb,hok⟩:=R.hp _ _ g1;have hnF : ∀ b,bi.blk=some b → ¬ F1 b:=by
   intro b hbk;obtain⟨z',es2,full',_,h2⟩:=hlive k ids[k] (by simp[hkl]);exact R1.notF h2 hb hbk
  refine⟨bi,by simp[qH9,hkl,hb],?_,?_⟩
  ·rw[g2];exact zUb R hF1 g3 (fun i hi=>by simp[g4 i hi]) hok hnF (fun r hr=>k4 o' (mem_of_getElem? ho') r (by rw[g2];exact hr))
  ·rw[g2];exact⟨z,_,full,rfl⟩
 ·rw[length_map,←k2] at hk;simp[qH9,getElem?_eq_none hk]
 ·unfold qH9 at h1 h2;rw[Option.bind_eq_some_iff] at h1 h2;obtain⟨x,hx,h1⟩:=h1;obtain⟨y,hy,h2⟩:=h2;obtain⟨z1,e1,f1,m1,_⟩:=hlive i x hx;obtain⟨z2,e2,f2,m2,_⟩:=hlive j y hy;have:=R.inj x y bi bj b _ _ h1 h2 h3 h4 m1 m2 sM sM;subst this;have hi:i<ids.length:=(List.getElem?_eq_some_iff.1 hx).1;have hj:j<ids.length:=(List.getElem?_eq_some_iff.1 hy).1;exact qB9 k1 hi hj (by rw[getElem?_eq_getElem hi] at hx;rw[getElem?_eq_getElem hj] at hy;rw[Option.some.inj hx,Option.some.inj hy])
 ·unfold qH9 at h1;rw[Option.bind_eq_some_iff] at h1;obtain⟨x,hx,h1⟩:=h1;obtain⟨z1,e1,f1,m1,m2⟩:=hlive k x hx;exact⟨R.blt x bi b h1 h2,R1.notF m2 h1 h2⟩
 ·rw[hFeq];exact zJr R hp (fun i hi=>by simp[hi]) hv (fun r hr=>k5 r (htodo r hr))
theorem zUl (R:Rel cx β F fm hm a w){keep:Bool}{vs:List V}{cp:CP}{l:List Nat}(h:(qXo keep vs).run hm=some (cp,l)){vals:List Value}(hv:qBm (qW β F w) vs vals) :
  ∃ F1,Rel cx β F1 fm (upd hm cp.fw) a w∧(∀ b,F b→F1 b)∧(keep=false → ∀ (k id:Nat),cp.ids[k]?=some id → ∃ z es full,hm id=some (.live z es true full))∧
   cp.ids.Nodup∧cp.ids.length=cp.obs.length∧(∀ p∈cp.fw,hm p.1≠none)∧
   (∀ (k id:Nat),cp.ids[k]?=some id → ∃ z es full,hm id=some (.live z es true full)∧upd hm cp.fw id=some (.live z es true full))∧
   zW6 (qH9 cp.ids β) F1 w (cp.obs.map (Ob.ren fun r=>cp.ids.idxOf r))∧qBm (qW (qH9 cp.ids β) F1 w) (qHz (fun r=>cp.ids.idxOf r) cp.aS) vals:=by
 unfold qXo at h;obtain⟨p,l1,l2,hp,h,_⟩:=zC h;obtain⟨q,l3,l4,hq,h,_⟩:=zC h;obtain⟨⟨_,hdis⟩,h⟩:=qS h;obtain⟨fw,l5,l6,hfw,h,_⟩:=zC h;obtain⟨e,_⟩:=qF h;cases e;obtain⟨F1,g1,g2,g3,g4,g5,g6,g7,g8⟩:=zN1 R hp hq (fun r h=>h) hdis hfw hv;exact⟨F1,g1,g2,fun _ k id hk=>let ⟨z,es,full,h,_⟩:=g6 k id hk;⟨z,es,full,h⟩,g3,g4,g5,g6,g7,g8⟩
theorem zS0 {obs:List Ob}(h:zJ3 obs=true){k:Nat}{o:Ob}(ho:obs[k]?=some o):o.flat=true:=all_eq_true.1 h o (mem_of_getElem? ho)
theorem zO3 (R:Rel cx β F fm hm a w){tab:Tab}(ht:qCc cx.P cx.gl tab){f:FuncId}{keep:Bool}{vs:List V}{nb:Nat}{v:V}{W:Wr}{l:List Nat}(h:(qZ2 tab f keep vs nb).run hm=some ((v,W),l)){vals:Array Value}(hv:qBm (qW β F w) vs vals.toList) :
  qW7 cx.P f vals w (fun e w' => ∃ x β' F',e = .returned x∧Rel cx β' F' fm (upd hm W) a w'∧qW β' F' w' v x):=by
 unfold qZ2 at h;obtain⟨cp,l1,l2,hcp,h,_⟩:=zC h;obtain⟨p,hp,h⟩:=qL h;obtain⟨⟨hlen,hflat⟩,h⟩:=qS h;obtain⟨hfree,l',h⟩:=zGs h;obtain⟨e,_⟩:=qF h;cases e;obtain⟨r,outs⟩:=p;rw[Option.bind_eq_some_iff] at hp;obtain⟨s,hs,hp⟩:=hp;obtain⟨F1,R1,hFF1,hlive0,hnd,hlo,hfwl,hlive,fits,hargs⟩:=zUl R hcp hv;simp only at hlen hflat hfree ⊢;refine (ht f s hs _ _ r outs hp w (qH9 cp.ids β) F1 vals (jMf R1) fits hargs).mono ?_;rintro e w' ⟨x,βp,F',rfl,post⟩;have hold : ∀ (k id:Nat),cp.ids[k]?=some id→βp k=β id:=by
  intro k id hk;have hkl:k<cp.ids.length:=(List.getElem?_eq_some_iff.1 hk).1;rw[post.old k (by rw[length_map,←hlo];exact hkl)];simp[qH9,hk]
 have hframe : ∀ b,b<w.heap.size→(∀ (k id:Nat) (bi:BI),cp.ids[k]?=some id→β id=some bi→bi.blk≠some b)→w'.heap[b]?=w.heap[b]?:=by
  intro b hb hk;refine post.frame b hb (fun k bi hkb=>?_);unfold qH9 at hkb;rw[Option.bind_eq_some_iff] at hkb;obtain⟨id,h1,h2⟩:=hkb;exact hk k id bi h1 h2
 have hnew : ∀ (k:Nat) (bi:BI) (b:Nat),cp.ids.length≤k→βp k=some bi→bi.blk=some b→w.heap.size≤b:=by
  intro k bi b hk h1 h2;exact post.new k bi b (by rw[length_map,←hlo];exact hk) h1 h2
 cases keep with
 | true=>
  obtain⟨βn,R2,hg,_⟩:=Rel.called R1 hnd (fun k id hk=>let ⟨z,es,full,_,h2⟩:=hlive k id hk;⟨z,es,full,h2⟩) post.fits hold hnew post.F post.Fw post.os post.tape post.output post.size hframe hlen (nb:=nb)
   (fun j hj=>by
    rw[qGl (fun q hq e=>hfwl q hq (by rw[e];exact hfree j hj))];exact hfree j hj)
  refine⟨x,βn,F',rfl,?_,?_⟩
  ·simp only[if_true,zCh];exact R2
  ·exact qW.ren (β:=βn) (ρ:=gam cp.ids nb) (post.res.mono (β':=fun k=>βn (gam cp.ids nb k)) hg (fun _ h=>h) (fun _ _=>rfl))
 | false=>
  have hfl:r.flat=true∧zJ3 outs=true:=by simpa using hflat
  let F2:Nat→Prop:=fun b=>(b<w.heap.size∧F b)∨(w.heap.size≤b∧F' b)
  have hF2o : ∀ b,b<w.heap.size→(F2 b↔F b):=fun b hb=>⟨fun h=>by
   rcases h with h | h
   ·exact h.2
   ·omega,fun h=> .inl ⟨hb,h⟩⟩
  have hblkF2 : ∀ (k:Nat) (bi:BI) (b:Nat),βp k=some bi→bi.blk=some b → ¬ F2 b:=by
   intro k bi b h1 h2 hF2;rcases hF2 with⟨hb,hF⟩ | ⟨hb,hF⟩
   ·rcases Nat.lt_or_ge k cp.ids.length with hk | hk
    ·obtain⟨z,es,full,hl⟩:=hlive0 rfl k cp.ids[k] (by simp[hk]);exact R.notF hl (by rw[←hold k cp.ids[k] (by simp[hk])];exact h1) h2 hF
    ·have:=hnew k bi b hk h1 h2;omega
   ·exact (post.fits.blt k bi b h1 h2).2 hF
  have fits2:zW6 βp F2 w' outs:=by
   refine⟨fun k o ho=>?_,post.fits.dom,post.fits.inj,fun k bi b h1 h2=>⟨(post.fits.blt k bi b h1 h2).1,hblkF2 k bi b h1 h2⟩⟩;obtain⟨bi,h1,h2,z,es,full,rfl⟩:=post.fits.ok k o ho;have hfo:=zS0 hfl.2 ho;exact⟨bi,h1,h2.flat hfo (fun b hb=>hblkF2 k bi b h1 hb),z,es,full,rfl⟩
  obtain⟨βn,R2,hg,_⟩:=Rel.called R hnd (fun k id hk=>let ⟨z,es,full,h1,_⟩:=hlive k id hk;⟨z,es,full,h1⟩) fits2 hold hnew hF2o (fun b hb=>by
    rcases hb with⟨h1,_⟩ | ⟨_,h2⟩
    ·have:=post.size;omega
    ·exact post.Fw b h2) post.os post.tape post.output post.size hframe hlen (nb:=nb) hfree
  refine⟨x,βn,F2,rfl,?_,?_⟩
  ·simpa using R2
  ·exact qW.ren (β:=βn) (ρ:=gam cp.ids nb) ((post.res.flat hfl.1).mono (β':=fun k=>βn (gam cp.ids nb k)) hg (fun _ h=>h) (fun _ _=>rfl))
end Go.Eng
end
