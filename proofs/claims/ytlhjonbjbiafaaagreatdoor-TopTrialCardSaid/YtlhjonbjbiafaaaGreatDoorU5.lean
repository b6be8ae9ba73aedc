/- A part of an abstract machine, its walks, their tie. -/
import Derived.Test.YtlhjonbjbiafaaaGreatDoorU4
import Derived.BigCall
set_option linter.all false
section
namespace Go.Eng
mutual
def T.flat:T→Bool
 | .sl es=>es.isEmpty
 | .agg cs=>qQx cs
 | .tup cs=>qQx cs
 | _=>true
def qQx:List T→Bool
 | []=>true
 | c::r=>c.flat&&qQx r
end
mutual
def V.flat:V→Bool
 | .t x=>x.flat
 | .ro _=>false
 | .agg cs=>qMd cs
 | .tup cs=>qMd cs
 | .fn _ cs=>qMd cs
 | _=>true
def qMd:List V→Bool
 | []=>true
 | c::r=>c.flat&&qMd r
end
def Ob.flat:Ob→Bool
 | .live _ es _ _=>qMd es
 | .dead=>true
def zD5 (obs:List Ob):Bool:=obs.all Ob.flat
theorem qNc : ∀ {cs:List T},qQx cs=true → ∀ (i:Nat) (c:T),cs[i]?=some c→c.flat=true
 | [],_,i,c,hc=>by simp at hc
 | x::r,h,i,c,hc=>by
  simp only[qQx,Bool.and_eq_true] at h;cases i with
  | zero=>simp at hc;subst hc;exact h.1
  | succ i=>exact qNc h.2 i c (by simpa using hc)
theorem qFn : ∀ {cs:List V},qMd cs=true → ∀ (i:Nat) (c:V),cs[i]?=some c→c.flat=true
 | [],_,i,c,hc=>by simp at hc
 | x::r,h,i,c,hc=>by
  simp only[qMd,Bool.and_eq_true] at h;cases i with
  | zero=>simp at hc;subst hc;exact h.1
  | succ i=>exact qFn h.2 i c (by simpa using hc)
theorem zD6 {v:V}(h:v.flat=true)(i:Nat)(c:V)(hc:v.cells[i]?=some c):c.flat=true:=by
 have one:v.cells=[v]→c.flat=true:=by
  intro e;rw[e] at hc;cases i with
  | zero=>simp at hc;subst hc;exact h
  | succ i=>simp at hc
 cases v with
 | agg cs=>exact qFn (cs:=cs) (by simpa [V.flat] using h) i c hc
 | t x=>
  cases x with
  | agg cs=>
   simp only[V.cells,List.getElem?_map,Option.map_eq_some_iff] at hc;obtain⟨c',hc',rfl⟩:=hc;exact qNc (by simpa [V.flat,T.flat] using h) i c' hc'
  | _=>exact one rfl
 | _=>exact one rfl
variable {β:Nat→Option BI} {F:Nat→Prop} {w:World}
theorem Rep.flat {F2:Nat→Prop}{x:T}{v:Value}(h:Rep F w x v):x.flat=true→Rep F2 w x v:=by
 induction h with
 | int k n=>intro _;exact .int k n
 | bool b=>intro _;exact .bool b
 | str s=>intro _;exact .str s
 | fnil=>intro _;exact .fnil
 | pnil=>intro _;exact .pnil
 | agg cs vs hl h1 _ ih=>intro hf;exact .agg cs vs hl h1 (fun i c u hc hu=>ih i c u hc hu (qNc (by simpa [T.flat] using hf) i c hc))
 | tup cs vs hl _ ih=>intro hf;exact .tup cs vs hl (fun i c u hc hu=>ih i c u hc hu (qNc (by simpa [T.flat] using hf) i c hc))
 | nil=>intro _;exact .nil
 | sl es a cap sz news ha hc hn h1 hF hw hz _ ih=>
  intro hf;have:es=[]:=by simpa [T.flat] using hf
  subst this;exact .sl [] a cap sz news ha hc hn h1 sM hw hz (by intro i e j c u he;simp at he)
theorem qV.flat {F2:Nat→Prop}{x:V}{v:Value}(h:qV β F w x v):x.flat=true→qV β F2 w x v:=by
 induction h with
 | t h=>intro hf;exact .t (h.flat hf)
 | nil=>intro _;exact .nil
 | ref id i f b sz room hb=>intro _;exact .ref id i f b sz room hb
 | bd g id i f b sz room hb=>intro _;exact .bd g id i f b sz room hb
 | bq b=>intro _;exact .bq b
 | ro cs a news ha hn h1 hF hw h=>intro hf;simp[V.flat] at hf
 | sl id off len cap b sz room a hb hlc hr ha hs=>intro _;exact .sl id off len cap b sz room a hb hlc hr ha hs
 | slv id sz room hb=>intro _;exact .slv id sz room hb
 | agg cs vs hl h1 _ ih=>intro hf;exact .agg cs vs hl h1 (fun i c u hc hu=>ih i c u hc hu (qFn (by simpa [V.flat] using hf) i c hc))
 | tup cs vs hl _ ih=>intro hf;exact .tup cs vs hl (fun i c u hc hu=>ih i c u hc hu (qFn (by simpa [V.flat] using hf) i c hc))
 | fn f cs vs hl _ ih=>intro hf;exact .fn f cs vs hl (fun i c u hc hu=>ih i c u hc hu (qFn (by simpa [V.flat] using hf) i c hc))
theorem qFk.flat {F2:Nat→Prop}{bi:BI}{z:Nat}{es:List V}{full:Bool}(h:qFk β F w bi (.live z es true full))(hf:qMd es=true)(h2 : ∀ b,bi.blk=some b → ¬ F2 b) :
  qFk β F2 w bi (.live z es true full):=by
 unfold qFk at *;obtain⟨g1,g2,g3⟩:=h;refine⟨g1,g2,?_⟩;cases hb:bi.blk with
 | none=>simp only[hb] at g3 ⊢;exact g3
 | some b=>
  simp only[hb] at g3 ⊢;obtain⟨c,e,fz,k1,k2,k3,k4,k5,k6,k7⟩:=g3;refine⟨c,e,fz,k1,k2,k3,k4,k5,fun i x hx=>?_,by simpa using h2 b hb⟩;obtain⟨m1,m2⟩:=k6 i x hx;refine⟨m1,fun j y hy=>?_⟩;obtain⟨u,hu,hr,ho⟩:=m2 j y hy;exact⟨u,hu,hr.flat (zD6 (qFn hf i x hx) j y hy),ho⟩
def qDp (g:V→Q (V×List Nat)):List V→Q (List V×List Nat)
 | []=> .ret ([],[])
 | c::r=>(g c).bind fun p=>(qDp g r).bind fun q=> .ret (p.1::q.1,p.2++q.2)
def zJ:Nat→V→Q (V×List Nat)
 | _,.t x=> .ret (.t x,[])
 | _,.nil=> .ret (.t (.sl []),[])
 | _,.ro cs=> .ret (.ro cs,[])
 | _,.ref id i f=> .ret (.ref id i f,[])
 | _,.bd g id i f=> .ret (.bd g id i f,[])
 | n+1,.sl id off len=> .get id fun
  | .live _ es wr _=>Q.assert (off+len≤es.length)
   (match qD2 es with
   | some ts=> .ret (.t (.sl ((ts.drop off).take len)),if wr then [id] else [])
   | none=>(qDp (zJ n) es).bind fun p=>match qD2 p.1 with
    | some ts=> .ret (.t (.sl ((ts.drop off).take len)),if wr then id::p.2 else p.2)
    | none=> .fail)
  | .dead=> .fail
 | n+1,.agg cs=>(qDp (zJ n) cs).bind fun p=> .ret (V.mk p.1,p.2)
 | n+1,.fn f cs=>(qDp (zJ n) cs).bind fun p=> .ret (.fn f p.1,p.2)
 | _,_=> .fail
def qDo (es:List V):Q (List V×List Nat):=
 match qD2 es with
 | some _=> .ret (es,[])
 | none=>qDp (zJ 3) es
mutual
def V.refs:V→List Nat
 | .ref id _ _=>[id]
 | .bd _ id _ _=>[id]
 | .agg cs=>qA6 cs
 | .tup cs=>qA6 cs
 | .fn _ cs=>qA6 cs
 | _=>[]
def qA6:List V→List Nat
 | []=>[]
 | c::r=>c.refs++qA6 r
end
def qBz:Nat→List Nat→List Nat→List Ob→List Nat→Q (List Nat×List Ob×List Nat)
 | _,[],ids,obs,fz=> .ret (ids,obs,fz)
 | 0,_::_,_,_,_=> .fail
 | n+1,id::todo,ids,obs,fz=>if ids.contains id then qBz n todo ids obs fz else
  .get id fun
   | .live z es true full=>(qDo es).bind fun p=>qBz n (todo++(match qD2 es with | some _=>[] | none=>qA6 p.1)) (ids++[id]) (obs++[.live z p.1 true full]) (fz++p.2)
   | _=> .fail
def qYc:List Nat→Q Wr
 | []=> .ret []
 | id::r=> .get id fun
  | .live z es true full=>Q.assert (100≤id) ((qYc r).bind fun q=> .ret ((id,.live z es false full)::q))
  | _=> .fail
structure CP where
 aS:List V
 ids:List Nat
 obs:List Ob
 fz:List Nat
 fw:Wr
def qSx (keep:Bool)(vs:List V):Q CP:=
 (qDp (zJ 4) vs).bind fun p=>(qBz 12 (qA6 p.1) [] [] []).bind fun q=>
  Q.assert ((keep=true∨q.2.2=[])∧(q.1.all fun i => !(p.2++q.2.2).contains i)=true) ((qYc (p.2++q.2.2)).bind fun fw=> .ret ⟨p.1,q.1,q.2.1,p.2++q.2.2,fw⟩)
def qRn (β:Nat→Option BI)(F:Nat→Prop)(fz:List Nat):Nat→Prop:=fun b=>F b ∨ ∃ id∈fz,∃ bi,β id=some bi∧bi.blk=some b
theorem qRn.of {fz:List Nat}{b:Nat}(h:F b):qRn β F fz b:= .inl h
theorem qRn.sub {fz fz':List Nat}(h : ∀ i∈fz,i∈fz') : ∀ b,qRn β F fz b→qRn β F fz' b:=by
 intro b hb;rcases hb with h1 | ⟨i,hi,bi,h1,h2⟩
 ·exact .inl h1
 ·exact .inr ⟨i,h i hi,bi,h1,h2⟩
variable {cx:Cx} {fm:Nat→Option V} {hm:Nat→Option Ob} {a:Act}
theorem qGb {es:List V}{ts:List T}(h:qD2 es=some ts):ts.length=es.length:=by rw[qDn h];simp
theorem zBx (R:Rel cx β F fm hm a w){F':Nat→Prop}(hF : ∀ b,F b→F' b){id off len z:Nat}{es:List V}{wr full:Bool}(ho:hm id=some (.live z es wr full)){x:Value}(hx:qV β F w (.sl id off len) x)
  (hle:off+len≤es.length) (hb : ∀ bi b,β id=some bi→bi.blk=some b→F' b) {ts:List T} (hl:ts.length=es.length)
  (hz : ∀ t∈ts,t.cells.length=z) (hr : ∀ (i:Nat) (e:V) (t:T),es[i]?=some e→ts[i]?=some t → ∀ (j:Nat) (q:V) (c:T) (u:Value),e.cells[j]?=some q→t.cells[j]?=some c→qV β F w q u→u.oneCell'=true→Rep F' w c u) :
  Rep F' w (.sl ((ts.drop off).take len)) x:=by
 cases hx with
 | slv _ sz room hb'=>
  obtain⟨bi',hb'',hok⟩:=R.hp id _ ho;rw[hb'] at hb'';cases hb'';simp only[List.take_zero];exact .nil
 | sl _ _ _ scap b sz room ad hb' hlc hrm had hsp=>
  obtain⟨c,ce,fz,h2,h3,h4,h5,h6,h7,h8,h9⟩:=R.obj ho hb' rfl;simp only at h4 h5 h7 h9;subst h9;have hl2:((ts.drop off).take len).length=len:=soM;have e1:(off+len)*sz≤room*sz:=Nat.mul_le_mul_right _ oM;have e2:(off+len)*sz=off*sz+len*sz:=by rw[Nat.add_mul]
  have hsrc:=h7.src h4 h5;have key:=Rep.sl (F:=F') (w:=w) ((ts.drop off).take len) ad scap sz ((c.toList.drop (off*sz)).take (len*sz)) (fun _=>hsp) (by rw[hl2];omega) (by rw[hl2];simp;omega)
   (fun u hu=>by
    obtain⟨j,hj⟩:=List.getElem?_of_mem hu;simp only[List.getElem?_take,List.getElem?_drop] at hj;split at hj
    ·rename_i hlt;have:(c.toList.take (es.length*sz))[off*sz+j]?=some u:=by
      rw[List.getElem?_take,if_pos]
      ·exact hj
      ·have:(off+len)*sz≤es.length*sz:=Nat.mul_le_mul_right _ hle;omega
     exact hsrc.2.1 u (List.mem_of_getElem? this)
    ·cases hj)
   (fun hne=>by
    have hlt2:0<scap:=by
     rcases Nat.eq_zero_or_pos len with h0 | h0
     ·exact absurd (List.eq_nil_of_length_eq_zero (by rw[hl2,h0])) hne
     ·omega
    rw[had hlt2];exact hb _ b hb' rfl)
   (fun j u hj=>by
    simp only[List.getElem?_take,List.getElem?_drop] at hj;split at hj
    ·rename_i hlt;have hlt2:0<scap:=by
      rcases Nat.eq_zero_or_pos len with h0 | h0
      ·subst h0;simp at hlt
      ·omega
     rw[had hlt2,Addr.add_lit,cell_of_row w b _ c ce fz h2];simpa using hj
    ·cases hj)
   (fun t ht=>hz t (List.mem_of_mem_drop (List.mem_of_mem_take ht)))
   (fun i t j q u ht hq hu=>by
    have ht':ts[off+i]?=some t∧i<len:=by
     simp only[List.getElem?_take,List.getElem?_drop] at ht;split at ht
     ·rename_i h;exact⟨ht,h⟩
     ·cases ht
    have hei:off+i<es.length:=oM;obtain⟨m1,m2⟩:=h7 (off+i) es[off+i] (by simp[hei]);have hjz:j<sz:=by rw[←hz t (List.mem_of_getElem? ht'.1)];exact (List.getElem?_eq_some_iff.1 hq).1
    obtain⟨u',hu',hru,hone'⟩:=m2 j (es[off+i].cells[j]'(oM)) sM;have:u'=u:=by
     simp only[List.getElem?_take,List.getElem?_drop] at hu;split at hu
     ·have e3:(off+i)*sz+j=off*sz+(i*sz+j):=by rw[Nat.add_mul];omega
      rw[e3] at hu';rw[Array.getElem?_toList,hu'] at hu;exact Option.some.inj hu
     ·cases hu
    subst this;exact hr (off+i) es[off+i] t (by simp[hei]) ht'.1 j _ q u' sM hq hru hone')
  rw[hl2] at key;exact key
end Go.Eng
end
section
namespace Go.Eng
variable {β:Nat→Option BI} {F:Nat→Prop} {w:World} {cx:Cx} {fm:Nat→Option V} {hm:Nat→Option Ob} {a:Act}
theorem vD {g:V→Q (V×List Nat)} : ∀ {cs cs':List V} {fz l:List Nat},(qDp g cs).run hm=some ((cs',fz),l)→
  cs'.length=cs.length ∧ ∀ (i:Nat) (c c':V),cs[i]?=some c→cs'[i]?=some c' → ∃ fzi li,(g c).run hm=some ((c',fzi),li) ∧ ∀ j∈fzi,j∈fz
 | [],cs',fz,l,h=>by
  obtain⟨h1,_⟩:=qE h;cases h1;exact⟨rfl,by intro i c c' hc;simp at hc⟩
 | c::r,cs',fz,l,h=>by
  simp only[qDp] at h;obtain⟨p,l1,l2,hp,h,_⟩:=zA h;obtain⟨q,l3,l4,hq,h,_⟩:=zA h;obtain⟨h1,_⟩:=qE h;cases h1;obtain⟨g1,g2⟩:=vD hq;refine⟨by simp[g1],fun i x x' hx hx'=>?_⟩;cases i with
  | zero=>
   simp at hx hx';subst hx hx';exact⟨p.2,l1,hp,fun j hj=>by simp[hj]⟩
  | succ i=>
   simp at hx hx';obtain⟨fzi,li,m1,m2⟩:=g2 i x x' hx hx';exact⟨fzi,li,m1,fun j hj=>by simp[m2 j hj]⟩
theorem Rel.row (R:Rel cx β F fm hm a w){id z:Nat}{es:List V}{wr full:Bool}(ho:hm id=some (.live z es wr full)):es=[] ∨ ∃ c,yX β F w es z c:=by
 obtain⟨bi,hb,hok⟩:=R.hp id _ ho;unfold qFk at hok;obtain⟨g1,g2,g3⟩:=hok;cases hbk:bi.blk with
 | none=>simp only[hbk] at g3;exact .inl g3.1
 | some b=>
  simp only[hbk] at g3;obtain⟨c,e,fz,k1,k2,k3,k4,k5,k6,k7⟩:=g3;rw[g1] at k6;exact .inr ⟨c,k6⟩
theorem Rel.ro (R:Rel cx β F fm hm a w){id z:Nat}{es:List V}{full:Bool}(ho:hm id=some (.live z es false full)){bi:BI}{b:Nat}(hb:β id=some bi)(hbk:bi.blk=some b):F b:=by
 obtain⟨bi',hb',hok⟩:=R.hp id _ ho;rw[hb] at hb';cases hb';unfold qFk at hok;obtain⟨g1,g2,g3⟩:=hok;simp only[hbk] at g3;obtain⟨c,e,fz,k1,k2,k3,k4,k5,k6,k7⟩:=g3;simpa using k7
theorem wZ (R:Rel cx β F fm hm a w) : ∀ {n:Nat} {v v':V} {fz l fz':List Nat} {x:Value},(zJ n v).run hm=some ((v',fz),l)→qV β F w v x→(∀ i∈fz,i∈fz')→qV β (qRn β F fz') w v' x
 | n,v,v',fz,l,fz',x,h,hx,hsub=>by
  have base : ∀ {u:V},qV β F w u x→qV β (qRn β F fz') w u x:=fun h=>h.mono (fun _ _ h=>h) (fun _ h=> .inl h) (fun _ _=>rfl)
  cases v with
  | t y=>cases n<;>(obtain⟨h1,_⟩:=qE h;cases h1;exact base hx)
  | nil=>cases n<;>(obtain⟨h1,_⟩:=qE h;cases h1;cases hx;exact .t .nil)
  | ro cs=>cases n<;>(obtain⟨h1,_⟩:=qE h;cases h1;exact base hx)
  | ref id i f=>cases n<;>(obtain⟨h1,_⟩:=qE h;cases h1;exact base hx)
  | bd g id i f=>cases n<;>(obtain⟨h1,_⟩:=qE h;cases h1;exact base hx)
  | bq=>cases n<;>cases h
  | tup cs=>cases n<;>cases h
  | agg cs=>
   cases n with
   | zero=>cases h
   | succ n=>
    simp only[zJ] at h;obtain⟨p,l1,l2,hp,h,_⟩:=zA h;obtain⟨h1,_⟩:=qE h;cases h1;obtain⟨g1,g2⟩:=vD hp;obtain⟨us,rfl,k1,k2,k3⟩:=hx.agg_inv;refine qV.mk (by rw[k1,g1]) k2 (fun i c' u hc' hu=>?_);have hi:i<cs.length:=by rw[←g1];exact (List.getElem?_eq_some_iff.1 hc').1
    obtain⟨fzi,li,m1,m2⟩:=g2 i cs[i] c' (by simp[hi]) hc';exact wZ R m1 (k3 i cs[i] u (by simp[hi]) hu) (fun j hj=>hsub j (m2 j hj))
  | fn f cs=>
   cases n with
   | zero=>cases h
   | succ n=>
    simp only[zJ] at h;obtain⟨p,l1,l2,hp,h,_⟩:=zA h;obtain⟨h1,_⟩:=qE h;cases h1;obtain⟨g1,g2⟩:=vD hp;cases hx with
    | fn _ _ us k1 k3=>
     refine .fn f _ us (by rw[k1,g1]) (fun i c' u hc' hu=>?_);have hi:i<cs.length:=by rw[←g1];exact (List.getElem?_eq_some_iff.1 hc').1
     obtain⟨fzi,li,m1,m2⟩:=g2 i cs[i] c' (by simp[hi]) hc';exact wZ R m1 (k3 i cs[i] u (by simp[hi]) hu) (fun j hj=>hsub j (m2 j hj))
  | sl id off len=>
   cases n with
   | zero=>cases h
   | succ n=>
    simp only[zJ] at h;obtain⟨o,l',ho,h2,_⟩:=vF h;cases o with
    | dead=>cases h2
    | live z es wr full=>
     obtain⟨hle,h3⟩:=qR h2;have hbl : ∀ {fz0:List Nat},(∀ i∈(if wr then id::fz0 else fz0),i∈fz') → ∀ bi b,β id=some bi→bi.blk=some b→qRn β F fz' b:=by
      intro fz0 hs bi b hb hbk;cases wr with
      | true=>exact .inr ⟨id,hs id sM,bi,hb,hbk⟩
      | false=>exact .inl (R.ro ho hb hbk)
     split at h3
     ·rename_i ts hts;obtain⟨h1,_⟩:=qE h3;cases h1;have hes:=qDn hts;refine .t (zBx R (fun _ h=> .inl h) ho hx hle (hbl (fz0:=[]) hsub) (qGb hts) (fun t ht=>?_) (fun i e t he ht j q c u hq hc hru _=>?_))
      ·obtain⟨i,hi⟩:=List.getElem?_of_mem ht;rcases R.row ho with h0 | ⟨c,hc⟩
       ·rw[h0] at hts;simp[qD2] at hts;subst hts;simp at hi
       ·have:=(hc i (.t t) (by rw[hes,List.getElem?_map,hi];rfl)).1;rw[qKy,List.length_map] at this;exact this
      ·rw[hes,List.getElem?_map,ht] at he;cases he;obtain⟨c',hc',rfl⟩:=xT hq;rw[hc] at hc';cases hc';cases hru with
       | t hru=>exact hru.mono (fun _ h=> .inl h) (fun _ _=>rfl)
     ·obtain⟨p,l1,l2,hp,h3,_⟩:=zA h3;split at h3
      ·rename_i ts hts;obtain⟨h1,_⟩:=qE h3;cases h1;obtain⟨g1,g2⟩:=vD hp;have hpe:=qDn hts;have hfz : ∀ j∈p.2,j∈fz':=fun j hj=>hsub j (by cases wr<;>simp[hj])
       have key : ∀ (i:Nat) (e:V) (t:T),es[i]?=some e→ts[i]?=some t→(∀ u,e.cells[0]?=some e→qV β F w e u→u.oneCell'=true→e.cells=[e]→t.cells=[t])∧
         ((∃ cs,e = .agg cs)∨(∃ cs,e = .t (.agg cs))→t.cells.length=e.cells.length) ∧ ∀ (j:Nat) (q:V) (c:T) (u:Value),e.cells[j]?=some q→t.cells[j]?=some c→qV β F w q u→u.oneCell'=true→Rep (qRn β F fz') w c u:=by
        intro i e t he ht;obtain⟨fzi,li,m1,m2⟩:=g2 i e (.t t) he (by rw[hpe,List.getElem?_map,ht];rfl);have one : ∀ u,qV β F w e u→u.oneCell'=true→Rep (qRn β F fz') w t u∧t.cells=[t]:=by
         intro u hru ho1;have hr2:=wZ R m1 hru (fun j hj=>hfz j (m2 j hj));have hc1:=hr2.one_cells ho1;cases hr2 with
         | t hr2=>
          refine⟨hr2,?_⟩;rw[qKy] at hc1;cases t with
          | agg cs=>
           cases hr2 with
           | agg _ vs hl h1 h=>simp[Value.oneCell'] at ho1
          | _=>rfl
        have single:e.cells=[e] → ∀ (j:Nat) (q:V) (c:T) (u:Value),e.cells[j]?=some q→t.cells[j]?=some c→qV β F w q u→u.oneCell'=true→Rep (qRn β F fz') w c u:=by
         intro hec j q c u hq hc hru ho1;rw[hec] at hq;cases j with
         | succ j=>simp at hq
         | zero=>
          simp at hq;subst hq;obtain⟨k1,k2⟩:=one u hru ho1;rw[k2] at hc;simp at hc;subst hc;exact k1
        refine⟨fun u _ hru ho1 _=>(one u hru ho1).2,?_,?_⟩
        ·rintro (⟨cs,rfl⟩ | ⟨cs,rfl⟩)
         ·cases n with
          | zero=>cases m1
          | succ n=>
           simp only[zJ] at m1;obtain⟨p',_,_,hp',m1,_⟩:=zA m1;obtain⟨h1,_⟩:=qE m1;obtain⟨k1,k2⟩:=vD hp';have h2:V.mk p'.1 = .t t:=(Prod.mk.inj h1).1.symm;unfold V.mk at h2;split at h2
           ·rename_i ts' hts';cases h2;show ts'.length=cs.length;rw[qGb hts',k1]
           ·cases h2
         ·have h2:(V.t (.agg cs)) = .t t:=by cases n<;>(obtain⟨h1,_⟩:=qE m1;cases h1;rfl)
          cases h2;rw[qKy,List.length_map]
        ·cases e with
         | agg cs=>
          intro j q c u hq hc hru ho1;cases n with
          | zero=>cases m1
          | succ n=>
           simp only[zJ] at m1;obtain⟨p',_,_,hp',m1,_⟩:=zA m1;obtain⟨h1,_⟩:=qE m1;obtain⟨k1,k2⟩:=vD hp';have h2:V.mk p'.1 = .t t:=(Prod.mk.inj h1).1.symm;have h2b:p'.2=fzi:=(Prod.mk.inj h1).2.symm;unfold V.mk at h2;split at h2
           ·rename_i ts' hts';cases h2;have hc':ts'[j]?=some c:=hc;obtain⟨fzj,lj,q1,q2⟩:=k2 j q (.t c) hq (by rw[qDn hts',List.getElem?_map,hc'];rfl);have hr2:=wZ R q1 hru (fun j hj=>hfz j (m2 j (by rw[←h2b];exact q2 j hj)));cases hr2 with
            | t hr2=>exact hr2
           ·cases h2
         | t y=>
          intro j q c u hq hc hru ho1;have h2:(V.t y) = .t t:=by cases n<;>(obtain⟨h1,_⟩:=qE m1;cases h1;rfl)
          cases h2;obtain⟨c',hc',rfl⟩:=xT hq;rw[hc] at hc';cases hc';cases hru with
          | t hru=>exact hru.mono (fun _ h=> .inl h) (fun _ _=>rfl)
         | _=>exact single rfl
       refine .t (zBx R (fun _ h=> .inl h) ho hx hle (hbl (fz0:=p.2) hsub) (by rw[qGb hts,g1]) (fun t ht=>?_) (fun i e t he ht=>(key i e t he ht).2.2));obtain⟨i,hi⟩:=List.getElem?_of_mem ht;have hil:i<es.length:=by rw[←g1,←qGb hts];exact (List.getElem?_eq_some_iff.1 hi).1
       rcases R.row ho with h0 | ⟨c,hc⟩
       ·subst h0;simp at hil
       ·obtain⟨e,he⟩ : ∃ e,es[i]?=some e:=⟨es[i],by simp[hil]⟩;obtain⟨k1,k2⟩:=hc i e he;obtain⟨q1,q2,_⟩:=key i e t he hi;have sing:e.cells=[e]→t.cells.length=z:=by
         intro hec;obtain⟨u,hu,hru,ho1⟩:=k2 0 e (by rw[hec];rfl);rw[q1 u (by rw[hec];rfl) hru ho1 hec,←k1,hec];rfl
        cases e with
        | agg cs=>rw[q2 (.inl ⟨cs,rfl⟩),k1]
        | t y=>
         cases y with
         | agg cs=>rw[q2 (.inr ⟨cs,rfl⟩),k1]
         | _=>exact sing rfl
        | _=>exact sing rfl
      ·cases h3
 termination_by n=>n
end Go.Eng
end
section
namespace Go.Eng
variable {β:Nat→Option BI} {F:Nat→Prop} {w:World} {cx:Cx} {fm:Nat→Option V} {hm:Nat→Option Ob} {a:Act}
mutual
def V.noSl:V→Bool
 | .sl _ _ _=>false
 | .agg cs=>qVe cs
 | .tup cs=>qVe cs
 | .fn _ cs=>qVe cs
 | _=>true
def qVe:List V→Bool
 | []=>true
 | c::r=>c.noSl&&qVe r
end
theorem qNo : ∀ {cs:List V},qVe cs=true → ∀ c∈cs,c.noSl=true
 | [],_,c,hc=>by simp at hc
 | x::r,h,c,hc=>by
  simp only[qVe,Bool.and_eq_true] at h;simp only[List.mem_cons] at hc;rcases hc with rfl | hc
  ·exact h.1
  ·exact qNo h.2 c hc
theorem zG9 : ∀ {cs:List V},(∀ c∈cs,c.noSl=true)→qVe cs=true
 | [],_=>rfl
 | x::r,h=>by
  simp only[qVe,Bool.and_eq_true];exact⟨h x sM,zG9 (fun c hc=>h c (by simp[hc]))⟩
theorem qDy : ∀ {cs:List V} {c:V} {r:Nat},c∈cs→r∈c.refs→r∈qA6 cs
 | x::cs,c,r,hc,hr=>by
  simp only[qA6,List.mem_append];simp only[List.mem_cons] at hc;rcases hc with rfl | hc
  ·exact .inl hr
  ·exact .inr (qDy hc hr)
theorem zNg (ts:List T):qA6 (ts.map .t)=[]:=by
 induction ts with
 | nil=>rfl
 | cons x r ih=>simp[qA6,V.refs,ih]
theorem zYx {cs:List V}(h:qVe cs=true):(V.mk cs).noSl=true:=by
 unfold V.mk;split
 ·rfl
 ·exact h
theorem qM4 : ∀ {n:Nat} {v v':V} {fz l:List Nat},(zJ n v).run hm=some ((v',fz),l)→v'.noSl=true
 | n,v,v',fz,l,h=>by
  have list : ∀ {m:Nat} {cs cs':List V} {fz l:List Nat},m<n→(qDp (zJ m) cs).run hm=some ((cs',fz),l)→qVe cs'=true:=by
   intro m cs cs' fz l hlt h;obtain⟨g1,g2⟩:=vD h;refine zG9 (fun c hc=>?_);obtain⟨i,hi⟩:=List.getElem?_of_mem hc;have hil:i<cs.length:=by rw[←g1];exact (List.getElem?_eq_some_iff.1 hi).1
   obtain⟨fzi,li,m1,m2⟩:=g2 i cs[i] c (by simp[hil]) hi;exact qM4 m1
  cases v with
  | t y=>cases n<;>(obtain⟨h1,_⟩:=qE h;cases h1;rfl)
  | nil=>cases n<;>(obtain⟨h1,_⟩:=qE h;cases h1;rfl)
  | ro cs=>cases n<;>(obtain⟨h1,_⟩:=qE h;cases h1;rfl)
  | ref id i f=>cases n<;>(obtain⟨h1,_⟩:=qE h;cases h1;rfl)
  | bd g id i f=>cases n<;>(obtain⟨h1,_⟩:=qE h;cases h1;rfl)
  | bq=>cases n<;>cases h
  | tup cs=>cases n<;>cases h
  | agg cs=>
   cases n with
   | zero=>cases h
   | succ n=>
    simp only[zJ] at h;obtain⟨p,l1,l2,hp,h,_⟩:=zA h;obtain⟨h1,_⟩:=qE h;cases h1;exact zYx (list (Nat.lt_succ_self n) hp)
  | fn f cs=>
   cases n with
   | zero=>cases h
   | succ n=>
    simp only[zJ] at h;obtain⟨p,l1,l2,hp,h,_⟩:=zA h;obtain⟨h1,_⟩:=qE h;cases h1;exact list (Nat.lt_succ_self n) hp
  | sl id off len=>
   cases n with
   | zero=>cases h
   | succ n=>
    simp only[zJ] at h;obtain⟨o,l',ho,h2,_⟩:=vF h;cases o with
    | dead=>cases h2
    | live z es wr full=>
     obtain⟨hle,h3⟩:=qR h2;split at h3
     ·obtain⟨h1,_⟩:=qE h3;cases h1;rfl
     ·obtain⟨p,l1,l2,hp,h3,_⟩:=zA h3;split at h3
      ·obtain⟨h1,_⟩:=qE h3;cases h1;rfl
      ·cases h3
 termination_by n=>n
def qKe (ids:List Nat)(β:Nat→Option BI):Nat→Option BI:=fun k=>(ids[k]?).bind β
theorem qJw {ids:List Nat}{r:Nat}(h:r∈ids):qKe ids β (ids.idxOf r)=β r:=by
 unfold qKe;have hlt:ids.idxOf r<ids.length:=List.idxOf_lt_length_of_mem h;have:ids[ids.idxOf r]?=some r:=by
  rw[List.getElem?_eq_getElem hlt,List.getElem_idxOf]
 rw[this];rfl
theorem zBw {ids:List Nat}{v:V}{x:Value}(h:qV β F w v x):v.noSl=true→(∀ r∈v.refs,r∈ids)→qV (qKe ids β) F w (v.ren (fun r=>ids.idxOf r)) x:=by
 induction h with
 | t h=>intro _ _;exact .t h
 | nil=>intro _ _;exact .nil
 | ref id i f b sz room hb=>intro _ hr;exact .ref _ i f b sz room (by rw[qJw (hr id (by simp[V.refs]))];exact hb)
 | bd g id i f b sz room hb=>intro _ hr;exact .bd g _ i f b sz room (by rw[qJw (hr id (by simp[V.refs]))];exact hb)
 | bq b=>intro _ _;exact .bq b
 | ro cs a news ha hn h1 hF hw h=>intro _ _;exact .ro cs a news ha hn h1 hF hw h
 | sl id off len cap b sz room a hb hlc hr ha hs=>intro h;simp[V.noSl] at h
 | slv id sz room hb=>intro h;simp[V.noSl] at h
 | agg cs vs hl h1 _ ih=>
  intro hn hr;simp only[V.ren,zL];refine .agg _ vs (by simpa using hl) h1 (fun i c u hc hu=>?_);rw[List.getElem?_map,Option.map_eq_some_iff] at hc;obtain⟨c',hc',rfl⟩:=hc;have hm1:=List.mem_of_getElem? hc';exact ih i c' u hc' hu (qNo (by simpa [V.noSl] using hn) c' hm1) (fun r h=>hr r (by simp only[V.refs];exact qDy hm1 h))
 | tup cs vs hl _ ih=>
  intro hn hr;simp only[V.ren,zL];refine .tup _ vs (by simpa using hl) (fun i c u hc hu=>?_);rw[List.getElem?_map,Option.map_eq_some_iff] at hc;obtain⟨c',hc',rfl⟩:=hc;have hm1:=List.mem_of_getElem? hc';exact ih i c' u hc' hu (qNo (by simpa [V.noSl] using hn) c' hm1) (fun r h=>hr r (by simp only[V.refs];exact qDy hm1 h))
 | fn f cs vs hl _ ih=>
  intro hn hr;simp only[V.ren,zL];refine .fn f _ vs (by simpa using hl) (fun i c u hc hu=>?_);rw[List.getElem?_map,Option.map_eq_some_iff] at hc;obtain⟨c',hc',rfl⟩:=hc;have hm1:=List.mem_of_getElem? hc';exact ih i c' u hc' hu (qNo (by simpa [V.noSl] using hn) c' hm1) (fun r h=>hr r (by simp only[V.refs];exact qDy hm1 h))
def jIx (hm:Nat→Option Ob)(fz:List Nat)(id:Nat)(o:Ob):Prop:=
 ∃ z es es' full fzk lk,hm id=some (.live z es true full)∧o = .live z es' true full∧(qDo es).run hm=some ((es',fzk),lk) ∧ ∀ j∈fzk,j∈fz
def Ob.refs:Ob→List Nat
 | .live _ es _ _=>qA6 es
 | .dead=>[]
theorem qPf : ∀ {n:Nat} {todo ids:List Nat} {obs:List Ob} {fz ids':List Nat} {obs':List Ob} {fz' l:List Nat},(qBz n todo ids obs fz).run hm=some ((ids',obs',fz'),l)→
  ids.Nodup→ids.length=obs.length→(∀ (k id:Nat) (o:Ob),ids[k]?=some id→obs[k]?=some o→jIx hm fz id o)→(∀ o∈obs,∀ r∈o.refs,r∈ids∨r∈todo)→
  ids'.Nodup∧ids'.length=obs'.length∧(∀ (k id:Nat) (o:Ob),ids'[k]?=some id→obs'[k]?=some o→jIx hm fz' id o)∧(∀ o∈obs',∀ r∈o.refs,r∈ids')∧(∀ r∈todo,r∈ids')∧(∀ r∈ids,r∈ids') ∧ ∀ j∈fz,j∈fz'
 | n,[],ids,obs,fz,ids',obs',fz',l,h,h1,h2,h3,h4=>by
  have h':(Q.ret (ids,obs,fz):Q _).run hm=some ((ids',obs',fz'),l):=by cases n<;>exact h
  obtain⟨e,_⟩:=qE h';cases e;exact⟨h1,h2,h3,fun o ho r hr=>by simpa using h4 o ho r hr,sM,fun _ h=>h,fun _ h=>h⟩
 | 0,_::_,ids,obs,fz,ids',obs',fz',l,h,_,_,_,_=>by cases h
 | n+1,id::todo,ids,obs,fz,ids',obs',fz',l,h,h1,h2,h3,h4=>by
  simp only[qBz] at h;split at h
  ·rename_i hc;have hmem:id∈ids:=by simpa using hc
   obtain⟨k1,k2,k3,k4,k5,k6,k7⟩:=qPf h h1 h2 h3 (fun o ho r hr=>by
    rcases h4 o ho r hr with h | h
    ·exact .inl h
    ·simp only[List.mem_cons] at h;rcases h with rfl | h
     ·exact .inl hmem
     ·exact .inr h)
   exact⟨k1,k2,k3,k4,fun r hr=>by
    simp only[List.mem_cons] at hr;rcases hr with rfl | hr
    ·exact k6 _ hmem
    ·exact k5 r hr,k6,k7⟩
  ·rename_i hc;have hnm:id ∉ ids:=by simpa using hc
   obtain⟨o,l',ho,hs2,_⟩:=vF h;cases o with
   | dead=>cases hs2
   | live z es wr full=>
    cases wr with
    | false=>cases hs2
    | true=>
     obtain⟨p,l1,l2,hp,hs3,_⟩:=zA hs2;have hobs : ∀ (k j:Nat) (o:Ob),(ids++[id])[k]?=some j→(obs++[Ob.live z p.1 true full])[k]?=some o→jIx hm (fz++p.2) j o:=by
      intro k j o hk hko;by_cases hlt:k<ids.length
      ·rw[List.getElem?_append_left hlt] at hk;rw[List.getElem?_append_left oM] at hko;obtain⟨z1,e1,e2,f1,fk,lk,g1,g2,g3,g4⟩:=h3 k j o hk hko;exact⟨z1,e1,e2,f1,fk,lk,g1,g2,g3,fun j hj=>by simp[g4 j hj]⟩
      ·rw[List.getElem?_append_right oM] at hk hko;have hk0:k-ids.length=0:=by
        rcases Nat.eq_zero_or_pos (k-ids.length) with h | h
        ·exact h
        ·rw[List.getElem?_eq_none soM] at hk;cases hk
       rw[hk0] at hk;rw[show k-obs.length=0 by omega] at hko;simp at hk hko;subst hk hko;exact⟨z,es,p.1,full,p.2,l1,ho,rfl,hp,fun j hj=>by simp[hj]⟩
     have href : ∀ r∈qA6 p.1,r∈ids++[id]∨r∈todo++(match qD2 es with | some _=>[] | none=>qA6 p.1):=by
      intro r hr;cases ha:qD2 es with
      | none=>exact .inr (by simp only[List.mem_append];exact .inr hr)
      | some ts=>
       unfold qDo at hp;rw[ha] at hp;obtain⟨e,_⟩:=qE hp;rw[e,qDn ha,zNg] at hr;simp at hr
     obtain⟨k1,k2,k3,k4,k5,k6,k7⟩:=qPf hs3 (by
       rw[List.nodup_append];exact⟨h1,sM,fun x hx y hy=>by simp at hy;subst hy;exact fun e=>hnm (e▸hx)⟩) (by simp[h2]) hobs (fun o ho' r hr=>by
      simp only[List.mem_append,List.mem_singleton] at ho';rcases ho' with ho' | rfl
      ·rcases h4 o ho' r hr with h | h
       ·exact .inl (by simp[h])
       ·simp only[List.mem_cons] at h;rcases h with rfl | h
        ·exact .inl sM
        ·exact .inr (by simp[h])
      ·exact href r hr)
     exact⟨k1,k2,k3,k4,fun r hr=>by
      simp only[List.mem_cons] at hr;rcases hr with rfl | hr
      ·exact k6 _ sM
      ·exact k5 r (by simp[hr]),fun r hr=>k6 r (by simp[hr]),fun j hj=>k7 j (by simp[hj])⟩
theorem zG0 : ∀ {fz:List Nat} {fw:Wr} {l:List Nat},(qYc fz).run hm=some (fw,l)→(∀ id∈fz,100≤id ∧ ∃ z es full,hm id=some (.live z es true full)∧(id,Ob.live z es false full)∈fw)∧
  ∀ p∈fw,p.1∈fz ∧ ∃ z es full,hm p.1=some (.live z es true full)∧p.2 = .live z es false full
 | [],fw,l,h=>by
  obtain⟨e,_⟩:=qE h;cases e;exact⟨sM,sM⟩
 | id::r,fw,l,h=>by
  simp only[qYc] at h;obtain⟨o,l',ho,hs2,_⟩:=vF h;cases o with
  | dead=>cases hs2
  | live z es wr full=>
   cases wr with
   | false=>cases hs2
   | true=>
    obtain⟨h100,hs3⟩:=qR hs2;obtain⟨q,l1,l2,hq,hs4,_⟩:=zA hs3;obtain⟨e,_⟩:=qE hs4;cases e;obtain⟨g1,g2⟩:=zG0 hq;refine⟨fun i hi=>?_,fun p hp=>?_⟩
    ·simp only[List.mem_cons] at hi;rcases hi with rfl | hi
     ·exact⟨h100,z,es,full,ho,sM⟩
     ·obtain⟨m1,z',es',full',m2,m3⟩:=g1 i hi;exact⟨m1,z',es',full',m2,by simp[m3]⟩
    ·simp only[List.mem_cons] at hp;rcases hp with rfl | hp
     ·exact⟨sM,z,es,full,ho,rfl⟩
     ·obtain⟨m1,m2⟩:=g2 p hp;exact⟨by simp[m1],m2⟩
theorem Rel.freezeAll : ∀ {fz:List Nat} {hm hm0:Nat→Option Ob} {F:Nat→Prop} {fw:Wr} {l:List Nat},(qYc fz).run hm0=some (fw,l)→Rel cx β F fm hm a w→
  (∀ id∈fz,hm id=hm0 id ∨ ∃ z es full,hm0 id=some (.live z es true full)∧hm id=some (.live z es false full)) → ∃ F',Rel cx β F' fm (upd hm fw) a w ∧ ∀ b,F' b↔qRn β F fz b
 | [],hm,hm0,F,fw,l,h,R,_=>by
  obtain⟨e,_⟩:=qE h;cases e;exact⟨F,R,fun b=>⟨.inl,fun h=>by rcases h with h | ⟨i,hi,_⟩;exact h;simp at hi⟩⟩
 | id::r,hm,hm0,F,fw,l,h,R,hsame=>by
  simp only[qYc] at h;obtain⟨o,l',ho,hs2,_⟩:=vF h;cases o with
  | dead=>cases hs2
  | live z es wr full=>
   cases wr with
   | false=>cases hs2
   | true=>
    obtain⟨h100,hs3⟩:=qR hs2;obtain⟨q,l1,l2,hq,hs4,_⟩:=zA hs3;obtain⟨e,_⟩:=qE hs4;cases e;obtain⟨bi,hb,hfro,hR1⟩ : ∃ bi,β id=some bi∧(∀ b,(F b∨bi.blk=some b)↔qRn β F [id] b)∧Rel cx β (fun b=>F b∨bi.blk=some b) fm (upd hm [(id,.live z es false full)]) a w:=by
     have conv : ∀ {bi:BI},β id=some bi → ∀ b,(F b∨bi.blk=some b)↔qRn β F [id] b:=by
      intro bi hb b;constructor
      ·intro h;rcases h with h | h
       ·exact .inl h
       ·exact .inr ⟨id,sM,bi,hb,h⟩
      ·intro h;rcases h with h | ⟨i,hi,bi',h1,h2⟩
       ·exact .inl h
       ·simp at hi;subst hi;rw[hb] at h1;cases h1;exact .inr h2
     rcases hsame id sM with h | ⟨z',es',full',h1,h2⟩
     ·rw[ho] at h;obtain⟨bi,hb,_⟩:=R.hp id _ h;exact⟨bi,hb,conv hb,R.freeze h h100 hb⟩
     ·rw[ho] at h1;cases h1;obtain⟨bi,hb,_⟩:=R.hp id _ h2;refine⟨bi,hb,conv hb,?_⟩;have hupd:upd hm [(id,.live z es false full)]=hm:=by
       funext j;by_cases hj:j=id
       ·subst hj;simp[upd,h2]
       ·simp[upd,hj]
      rw[hupd];have hFeq:(fun b=>F b∨bi.blk=some b)=F:=by
       funext b;apply propext;constructor
       ·intro h;rcases h with h | h
        ·exact h
        ·exact R.ro h2 hb h
       ·exact .inl
      rw[hFeq];exact R
    obtain⟨F',hR2,hF'⟩:=Rel.freezeAll (hm:=upd hm [(id,.live z es false full)]) hq hR1 (fun i hi=>by
     by_cases hii:i=id
     ·subst hii;exact .inr ⟨z,es,full,ho,zM⟩
     ·rw[qS hii];exact hsame i (by simp[hi]))
    refine⟨F',hR2,fun b=>?_⟩;rw[hF'];constructor
    ·intro h;rcases h with h | ⟨i,hi,bi',h1,h2⟩
     ·rcases (hfro b).1 h with h | ⟨i,hi,bi',h1,h2⟩
      ·exact .inl h
      ·simp at hi;subst hi;exact .inr ⟨i,sM,bi',h1,h2⟩
     ·exact .inr ⟨i,by simp[hi],bi',h1,h2⟩
    ·intro h;rcases h with h | ⟨i,hi,bi',h1,h2⟩
     ·exact .inl ((hfro b).2 (.inl h))
     ·simp only[List.mem_cons] at hi;rcases hi with rfl | hi
      ·exact .inl ((hfro b).2 (.inr ⟨i,sM,bi',h1,h2⟩))
      ·exact .inr ⟨i,hi,bi',h1,h2⟩
end Go.Eng
end
section
namespace Go.Eng
variable {β:Nat→Option BI} {F:Nat→Prop} {w:World} {cx:Cx} {fm:Nat→Option V} {hm:Nat→Option Ob} {a:Act}
def gam (ids:List Nat)(nb k:Nat):Nat:=
 match ids[k]? with
 | some id=>id
 | none=>nb+(k-ids.length)
def qMj (ids:List Nat)(nb:Nat):Nat→List Ob→Wr
 | _,[]=>[]
 | k,o::r=>(gam ids nb k,o.ren (gam ids nb))::qMj ids nb (k+1) r
theorem qPl (ids:List Nat)(nb:Nat) : ∀ (outs:List Ob) (k:Nat) (p:Nat×Ob),p∈qMj ids nb k outs → ∃ j,j<outs.length∧p.1=gam ids nb (k+j)
 | [],_,p,h=>by simp[qMj] at h
 | o::r,k,p,h=>by
  simp only[qMj,List.mem_cons] at h;rcases h with rfl | h
  ·exact⟨0,sM,rfl⟩
  ·obtain⟨j,h1,h2⟩:=qPl ids nb r (k+1) p h;exact⟨j+1,soM,by rw[h2];congr 1;omega⟩
theorem qEk : ∀ {W:Wr} {hm:Nat→Option Ob} {id:Nat},(∀ p∈W,p.1≠id)→upd hm W id=hm id
 | [],_,_,_=>rfl
 | (i,o)::r,hm,id,h=>by
  rw[upd,qEk (fun p hp=>h p (by simp[hp]))];rw[if_neg (fun e=>h (i,o) sM e.symm)]
theorem zHw {ids:List Nat}{nb:Nat} : ∀ {outs:List Ob} {hm:Nat→Option Ob} {k:Nat},(∀ i j,i<k+outs.length→j<k+outs.length→gam ids nb i=gam ids nb j→i=j)→
  ∀ {j:Nat} {o:Ob},outs[j]?=some o→upd hm (qMj ids nb k outs) (gam ids nb (k+j))=some (o.ren (gam ids nb))
 | [],_,_,_,j,o,h=>by simp at h
 | p::r,hm,k,hinj,j,o,h=>by
  simp only[qMj,upd];cases j with
  | zero=>
   simp at h;subst h;rw[qEk (fun q hq=>by
    obtain⟨i,h1,h2⟩:=qPl ids nb r (k+1) q hq;intro e;rw[h2] at e;have:=hinj _ _ soM sM e;omega)]
   simp
  | succ j=>
   simp at h;have:=zHw (hm:=fun i=>if i=gam ids nb k then some (p.ren (gam ids nb)) else hm i) (k:=k+1) (fun a b ha hb=>hinj a b (by simp at ha ⊢;omega) (by simp at hb ⊢;omega)) h;rw[show k+(j+1)=k+1+j by omega];exact this
theorem qDt {l:List Nat}(h:l.Nodup){i j:Nat}(hi:i<l.length)(hj:j<l.length)(e:l[i]=l[j]):i=j:=by
 unfold List.Nodup at h;rw[List.pairwise_iff_getElem] at h;rcases Nat.lt_trichotomy i j with h1 | h1 | h1
 ·exact absurd e (h i j hi hj h1)
 ·exact h1
 ·exact absurd e.symm (h j i hj hi h1)
theorem Rel.called {FA:Nat→Prop}{hmA:Nat→Option Ob}(R:Rel cx β FA fm hmA a w){ids:List Nat}(hnd:ids.Nodup)(hlive : ∀ (k id:Nat),ids[k]?=some id → ∃ z es full,hmA id=some (.live z es true full))
  {βp:Nat→Option BI} {F':Nat→Prop} {w':World} {outs:List Ob} {nb:Nat} (fits:zUv βp F' w' outs) (old : ∀ (k id:Nat),ids[k]?=some id→βp k=β id)
  (new : ∀ (k:Nat) (bi:BI) (b:Nat),ids.length≤k→βp k=some bi→bi.blk=some b→w.heap.size≤b) (hF : ∀ b,b<w.heap.size→(F' b↔FA b)) (hFw : ∀ b,F' b→b<w'.heap.size)
  (hos:w'.os=w.os) (htp:w'.tape=w.tape) (hout:w'.output=w.output) (hsz:w.heap.size≤w'.heap.size)
  (frame : ∀ b,b<w.heap.size→(∀ (k id:Nat) (bi:BI),ids[k]?=some id→β id=some bi→bi.blk≠some b)→w'.heap[b]?=w.heap[b]?)
  (hlen:ids.length≤outs.length) (fresh : ∀ j,j<outs.length-ids.length→hmA (nb+j)=none) :
  ∃ βn,Rel cx βn F' fm (upd hmA (qMj ids nb 0 outs)) a w'∧(∀ k bi,βp k=some bi→βn (gam ids nb k)=some bi)∧(∀ i bi,β i=some bi→βn i=some bi):=by
 have gold : ∀ k id,ids[k]?=some id→gam ids nb k=id:=fun k id h=>by simp[gam,h]
 have gnew : ∀ k,ids.length≤k→gam ids nb k=nb+(k-ids.length):=fun k h=>by simp[gam,List.getElem?_eq_none h]
 have glt : ∀ k,k<ids.length → ∃ id,ids[k]?=some id:=fun k h=>⟨ids[k],by simp[h]⟩
 have ginj : ∀ i j,i<0+outs.length→j<0+outs.length→gam ids nb i=gam ids nb j→i=j:=by
  intro i j hi hj h;rcases Nat.lt_or_ge i ids.length with h1 | h1<;>rcases Nat.lt_or_ge j ids.length with h2 | h2
  ·obtain⟨x,hx⟩:=glt i h1;obtain⟨y,hy⟩:=glt j h2;rw[gold i x hx,gold j y hy] at h;subst h;have e1:ids[i]=x:=by simpa [h1] using hx
   have e2:ids[j]=x:=by simpa [h2] using hy
   exact qDt hnd h1 h2 (e1.trans e2.symm)
  ·obtain⟨x,hx⟩:=glt i h1;obtain⟨z,es,full,hl⟩:=hlive i x hx;rw[gold i x hx,gnew j h2] at h;rw[h,fresh _ oM] at hl;cases hl
  ·obtain⟨y,hy⟩:=glt j h2;obtain⟨z,es,full,hl⟩:=hlive j y hy;rw[gold j y hy,gnew i h1] at h;rw[←h,fresh _ oM] at hl;cases hl
  ·rw[gnew i h1,gnew j h2] at h;omega
 let inr:Nat→Prop:=fun id=>nb≤id∧id<nb+(outs.length-ids.length)
 have hdec : ∀ id,Decidable (inr id):=fun id=>by unfold inr;infer_instance
 let βn:Nat→Option BI:=fun id=>if nb≤id∧id<nb+(outs.length-ids.length) then βp (ids.length+(id-nb)) else β id
 have bnew : ∀ id,inr id→βn id=βp (ids.length+(id-nb)):=fun id h=>if_pos h
 have bold : ∀ id,¬ inr id→βn id=β id:=fun id h=>if_neg h
 have inrNone : ∀ id,inr id→hmA id=none:=by
  intro id h;have:=fresh (id-nb) (by have:=h.1;have:=h.2;omega);rwa [show nb+(id-nb)=id by have:=h.1;omega] at this
 have bext : ∀ i bi,β i=some bi→βn i=some bi:=by
  intro i bi h;rw[bold i (fun hi=>by rw[R.dom i (inrNone i hi)] at h;cases h)];exact h
 have bgam : ∀ k bi,βp k=some bi→βn (gam ids nb k)=some bi:=by
  intro k bi h;have hk:k<outs.length:=by
   rcases Nat.lt_or_ge k outs.length with h1 | h1
   ·exact h1
   ·rw[fits.dom k h1] at h;cases h
  rcases Nat.lt_or_ge k ids.length with h1 | h1
  ·obtain⟨id,hid⟩:=glt k h1;rw[gold k id hid];exact bext id bi (by rw[←old k id hid];exact h)
  ·rw[gnew k h1,bnew _ ⟨oM,oM⟩,show ids.length+(nb+(k-ids.length)-nb)=k by omega];exact h
 have key : ∀ id,(∃ k o,outs[k]?=some o∧gam ids nb k=id∧upd hmA (qMj ids nb 0 outs) id=some (o.ren (gam ids nb)))∨((∀ k,k<outs.length→gam ids nb k≠id)∧upd hmA (qMj ids nb 0 outs) id=hmA id):=by
  intro id;by_cases h : ∃ k,k<outs.length∧gam ids nb k=id
  ·obtain⟨k,hk,hg⟩:=h;left;have:=zHw (hm:=hmA) (ids:=ids) (nb:=nb) (outs:=outs) (k:=0) ginj (j:=k) (o:=outs[k]) (by simp[hk]);rw[Nat.zero_add,hg] at this;exact⟨k,outs[k],by simp[hk],hg,this⟩
  ·right;have hne : ∀ k,k<outs.length→gam ids nb k≠id:=fun k hk e=>h ⟨k,hk,e⟩
   refine⟨hne,qEk (fun p hp=>?_)⟩;obtain⟨j,h1,h2⟩:=qPl ids nb outs 0 p hp;rw[h2,Nat.zero_add];exact hne j h1
 have hFA : ∀ b,FA b→F' b:=fun b hb=>(hF b (R.Fw b hb)).2 hb
 have hFblk : ∀ b,FA b→w'.heap[b]?=w.heap[b]?:=by
  intro b hb;refine frame b (R.Fw b hb) (fun k id bi hk hbi hbk=>?_);obtain⟨z,es,full,hl⟩:=hlive k id hk;exact R.notF hl hbi hbk hb
 have where_ : ∀ id o bi b,upd hmA (qMj ids nb 0 outs) id=some o→o≠ .dead→βn id=some bi→bi.blk=some b→
   (inr id∧w.heap.size≤b∧βp (ids.length+(id-nb))=some bi)∨(¬ inr id∧β id=some bi∧b<w.heap.size ∧ ∃ o',hmA id=some o'∧o'≠ .dead):=by
  intro id o bi b ho hd hb hbk;by_cases hi:inr id
  ·rw[bnew id hi] at hb;exact .inl ⟨hi,new _ bi b oM hb hbk,hb⟩
  ·rw[bold id hi] at hb;refine .inr ⟨hi,hb,R.blt id bi b hb hbk,?_⟩;rcases key id with⟨k,o2,hk,hg,hu⟩ | ⟨hne,hu⟩
   ·have hkl:k<outs.length:=(List.getElem?_eq_some_iff.1 hk).1;rcases Nat.lt_or_ge k ids.length with h1 | h1
    ·obtain⟨x,hx⟩:=glt k h1;rw[gold k x hx] at hg;subst hg;obtain⟨z,es,full,hl⟩:=hlive k x hx;exact⟨_,hl,sM⟩
    ·rw[gnew k h1] at hg;exact absurd ⟨oM,oM⟩ hi
   ·rw[hu] at ho;exact⟨o,ho,hd⟩
 refine⟨βn,⟨R.tsz,R.dfr,fun t v hv=>?_,fun id o ho=>?_,fun id hn=>?_,fun i j bi bj b oi oj h1 h2 h3 h4 h5 h6 h7 h8=>?_,hos.trans R.os,htp.trans R.tape,hout.trans R.output,Nat.le_trans R.size hsz,fun b hb hib=>?_,fun id z es full bi b h1 h2 h3=>?_,fun b hib hFb=>?_,R.inw,hFw,fun b hb=>?_,fun id bi b h1 h2=>?_,fun g cs hg=>(R.gl g cs hg).mono bext hFA hFblk,fun k bi h=>bext _ _ (R.ext0 k bi h),fun g cs hg=>(R.gs g cs hg).mono (hFblk g (jP6 (R.gl g cs hg)))⟩,bgam,bext⟩
 ·obtain⟨x,h1,h2⟩:=R.fr t v hv;exact⟨x,h1,h2.mono bext hFA hFblk⟩
 ·rcases key id with⟨k,o2,hk,hg,hu⟩ | ⟨hne,hu⟩
  ·rw[hu] at ho;cases ho;obtain⟨bi,h1,h2,_⟩:=fits.ok k o2 hk;refine⟨bi,by rw[←hg];exact bgam k bi h1,?_⟩;exact qFk.ren (β:=βn) (ρ:=gam ids nb) (h2.mono (β':=fun k=>βn (gam ids nb k)) bgam (fun _ h=>h) (fun _ _=>rfl) (fun _ _ _=>⟨rfl,fun h=>h⟩))
  ·rw[hu] at ho;obtain⟨bi,h1,h2⟩:=R.hp id o ho;refine⟨bi,bext id bi h1,h2.mono bext hFA hFblk (fun b hbk hd=>⟨frame b (R.blt id bi b h1 hbk) (fun k id' bi' hk hbi' hbk'=>?_),fun h=>(hF b (R.blt id bi b h1 hbk)).1 h⟩)⟩;obtain⟨z,es,full,hl⟩:=hlive k id' hk;have:=R.inj id' id bi' bi b _ o hbi' h1 hbk' hbk hl ho sM hd;have hkl:k<ids.length:=(List.getElem?_eq_some_iff.1 hk).1;exact hne k oM (by rw[gold k id' hk];exact this)
 ·rcases key id with⟨k,o2,hk,hg,hu⟩ | ⟨hne,hu⟩
  ·rw[hu] at hn;cases hn
  ·rw[hu] at hn;rw[bold id (fun hi=>by
    have:=hne (ids.length+(id-nb)) (by have:=hi.1;have:=hi.2;omega);rw[gnew _ oM] at this;have h1:=hi.1;omega)]
   exact R.dom id hn
 ·rcases where_ i oi bi b h5 h7 h1 h3 with⟨a1,a2,a3⟩ | ⟨a1,a2,a3,o1,a4,a5⟩<;>rcases where_ j oj bj b h6 h8 h2 h4 with⟨b1,b2,b3⟩ | ⟨b1,b2,b3,o2,b4,b5⟩
  ·have:=fits.inj _ _ bi bj b a3 b3 h3 h4;have e1:=a1.1;have e2:=b1.1;omega
  ·omega
  ·omega
  ·exact R.inj i j bi bj b o1 o2 a2 b2 h3 h4 a4 b4 a5 b5
 ·rw[frame b (Nat.lt_of_lt_of_le hb R.size) (fun k id bi hk hbi hbk=>?_)]
  ·exact R.ext b hb hib
  ·obtain⟨z,es,full,hl⟩:=hlive k id hk;rcases R.old id z es full bi b hl hbi hbk with h | h
   ·omega
   ·exact hib h.2
 ·rcases where_ id _ bi b h1 sM h2 h3 with⟨a1,a2,a3⟩ | ⟨a1,a2,a3,o1,a4,a5⟩
  ·exact .inl (Nat.le_trans R.size a2)
  ·rcases key id with⟨k,o2,hk,hg,hu⟩ | ⟨hne,hu⟩
   ·have hkl:k<outs.length:=(List.getElem?_eq_some_iff.1 hk).1;rcases Nat.lt_or_ge k ids.length with h4 | h4
    ·obtain⟨x,hx⟩:=glt k h4;rw[gold k x hx] at hg;subst hg;obtain⟨z',es',full',hl⟩:=hlive k x hx;exact R.old x z' es' full' bi b hl a2 h3
    ·rw[gnew k h4] at hg;exact absurd ⟨oM,oM⟩ a1
   ·rw[hu] at h1;exact R.old id z es full bi b h1 a2 h3
 ·have:=R.inw b hib;exact R.inF b hib ((hF b (by have:=R.size;omega)).1 hFb)
 ·exact (hF b (by have:=R.size;omega)).trans (R.F0 b hb)
 ·by_cases hi:inr id
  ·rw[bnew id hi] at h1;exact (fits.blt _ bi b h1 h2).1
  ·rw[bold id hi] at h1;have:=R.blt id bi b h1 h2;omega
end Go.Eng
end
section
namespace Go.Eng
variable {β:Nat→Option BI} {F:Nat→Prop} {w:World} {cx:Cx} {fm:Nat→Option V} {hm:Nat→Option Ob} {a:Act}
abbrev FnS:=List V→List Ob→Option (V×List Ob)
abbrev Tab:=List (FuncId×FnS)
def Tab.look:Tab→FuncId→Option FnS
 | [],_=>none
 | (g,s)::r,f=>if g=f then some s else Tab.look r f
def qSg (P:Program)(f:FuncId)(vals:Array Value)(w:World)(R:Ending→World→Prop):Prop:=
 (∃ g,(callFunc f vals).run P w = .ok (.enter g vals) w∧Calls P g vals w R)∨(∃ x w',(callFunc f vals).run P w = .ok (.value x) w'∧R (.returned x) w')
theorem qSg.mono {P:Program}{f:FuncId}{vals:Array Value}{w:World}{R R':Ending→World→Prop}(h:qSg P f vals w R)(hr : ∀ e w',R e w'→R' e w'):qSg P f vals w R':=by
 rcases h with⟨g,h1,h2⟩ | ⟨x,w',h1,h2⟩
 ·exact .inl ⟨g,h1,h2.mono hr⟩
 ·exact .inr ⟨x,w',h1,hr _ _ h2⟩
def jB7 (P:Program)(G:Nat→Option (List T))(f:FuncId)(aS:List V)(ins:List Ob)(r:V)(outs:List Ob):Prop:=
 ∀ (w:World) (β:Nat→Option BI) (F:Nat→Prop) (vals:Array Value),zKd G F w→zUv β F w ins→qAg (qV β F w) aS vals.toList→
  qSg P f vals w (fun e w' => ∃ x β' F',e = .returned x∧qRo w β F ins r outs x β' F' w')
theorem zDf.e {P:Program}{G:Nat→Option (List T)}{f:FuncId}{aS:List V}{ins:List Ob}{r:V}{outs:List Ob}(hc : ∀ args w,(callFunc f args).run P w = .ok (.enter f args) w)(h:zDf P G f aS ins r outs):jB7 P G f aS ins r outs:=
 fun w β F vals h1 h2 h3=> .inl ⟨f,hc vals w,h w β F vals h1 h2 h3⟩
def FOk (P:Program)(G:Nat→Option (List T))(f:FuncId)(s:FnS):Prop := ∀ aS ins r outs,s aS ins=some (r,outs)→jB7 P G f aS ins r outs
theorem FOk.of {P:Program}{G:Nat→Option (List T)}{f:FuncId}{s:FnS}(hc : ∀ args w,(callFunc f args).run P w = .ok (.enter f args) w)(h : ∀ aS ins r outs,s aS ins=some (r,outs)→zDf P G f aS ins r outs):FOk P G f s:=
 fun aS ins r outs hs=>(h aS ins r outs hs).e hc
def qFl (P:Program)(G:Nat→Option (List T))(tab:Tab):Prop := ∀ f s,tab.look f=some s→FOk P G f s
theorem qFl.nil {P:Program}{G:Nat→Option (List T)}:qFl P G []:=fun _ _ h=>by cases h
theorem qFl.cons {P:Program}{G:Nat→Option (List T)}{f:FuncId}{s:FnS}{tab:Tab}(h:FOk P G f s)(ht:qFl P G tab):qFl P G ((f,s)::tab):=by
 intro g s' hg;unfold Tab.look at hg;split at hg
 ·cases hg;subst_vars;exact h
 ·exact ht g s' hg
def zD8 {α:Type}:Nat→Nat→Q α→Q α
 | _,0,k=>k
 | nb,n+1,k=> .free nb (zD8 (nb+1) n k)
theorem zA4 {α:Type} : ∀ {n nb:Nat} {q:Q α} {x:α} {l:List Nat},(zD8 nb n q).run hm=some (x,l)→(∀ j,j<n→hm (nb+j)=none) ∧ ∃ l',q.run hm=some (x,l')
 | 0,nb,q,x,l,h=>⟨by intro j hj;omega,l,h⟩
 | n+1,nb,q,x,l,h=>by
  obtain⟨h0,l',h1,_⟩:=kS h;obtain⟨h2,h3⟩:=zA4 h1;refine⟨fun j hj=>?_,h3⟩;cases j with
  | zero=>exact h0
  | succ j=>rw[show nb+(j+1)=nb+1+j by omega];exact h2 j oM
def qU7 (tab:Tab)(f:FuncId)(keep:Bool)(vs:List V)(nb:Nat):Q (V×Wr):=
 (qSx keep vs).bind fun cp=>
  (Q.of ((tab.look f).bind fun s=>s (qF0 (fun r=>cp.ids.idxOf r) cp.aS) (cp.obs.map (Ob.ren fun r=>cp.ids.idxOf r)))).bind fun p=>
   Q.assert (cp.ids.length≤p.2.length∧(keep=true∨p.1.flat=true∧zD5 p.2=true))
    (zD8 nb (p.2.length-cp.ids.length) (.ret (p.1.ren (gam cp.ids nb),(if keep then cp.fw else [])++qMj cp.ids nb 0 p.2)))
theorem qW4 : ∀ {W W':Wr} {hm:Nat→Option Ob},upd hm (W++W')=upd (upd hm W) W'
 | [],_,_=>rfl
 | (i,o)::r,W',hm=>by simp only[List.cons_append,upd];exact qW4
theorem qRy (cs:List V):(V.mk cs).cells=cs:=by
 unfold V.mk;split
 ·rename_i ts h;rw[qDn h];rfl
 ·rfl
theorem zAs (R:Rel cx β F fm hm a w){n:Nat}{x x':V}{fz l fz':List Nat}(h:(zJ n x).run hm=some ((x',fz),l))(hsub : ∀ i∈fz,i∈fz')(hz:x.cells≠[])
  (hx : ∀ (j:Nat) (y:V),x.cells[j]?=some y → ∃ u,qV β F w y u∧u.oneCell'=true):x'.cells.length=x.cells.length∧
  ∀ (j:Nat) (y y':V) (u:Value),x.cells[j]?=some y→x'.cells[j]?=some y'→qV β F w y u→u.oneCell'=true→qV β (qRn β F fz') w y' u∧y'.noSl=true ∧ ∀ r∈y'.refs,r∈x'.refs:=by
 have one:x.cells=[x]→x'.cells.length=x.cells.length∧
  ∀ (j:Nat) (y y':V) (u:Value),x.cells[j]?=some y→x'.cells[j]?=some y'→qV β F w y u→u.oneCell'=true→qV β (qRn β F fz') w y' u∧y'.noSl=true ∧ ∀ r∈y'.refs,r∈x'.refs:=by
  intro hc;obtain⟨u,hu,ho⟩:=hx 0 x (by rw[hc];rfl);have h1:=wZ R h hu hsub;have h2:=h1.one_cells ho;rw[hc,h2];refine⟨rfl,fun j y y' u' hy hy' hr _=>?_⟩;cases j with
  | succ j=>simp at hy
  | zero=>
   simp at hy hy';subst hy hy';exact⟨wZ R h hr hsub,qM4 h,fun _ h=>h⟩
 cases x with
 | t y=>
  cases n<;>(
   obtain⟨h1,_⟩:=qE h;cases h1;refine⟨rfl,fun j y1 y' u hy hy' hr _=>?_⟩;rw[hy] at hy';cases hy';refine⟨hr.mono (fun _ _ h=>h) (fun _ h=> .inl h) (fun _ _=>rfl),?_⟩;obtain⟨c,hc,rfl⟩:=xT hy;exact⟨rfl,by simp[V.refs]⟩)
 | agg cs=>
  cases n with
  | zero=>cases h
  | succ n=>
   simp only[zJ] at h;obtain⟨p,l1,l2,hp,h,_⟩:=zA h;obtain⟨h1,_⟩:=qE h;cases h1;obtain⟨g1,g2⟩:=vD hp;rw[qRy];refine⟨g1,fun j y y' u hy hy' hr _=>?_⟩;obtain⟨fzi,li,m1,m2⟩:=g2 j y y' hy hy';refine⟨wZ R m1 hr (fun i hi=>hsub i (m2 i hi)),qM4 m1,fun r hr=>?_⟩;unfold V.mk;split
   ·rename_i ts hts;have:=List.mem_of_getElem? hy';rw[qDn hts] at this;simp only[List.mem_map] at this;obtain⟨t,_,rfl⟩:=this;simp[V.refs] at hr
   ·exact qDy (List.mem_of_getElem? hy') hr
 | nil=>exact one rfl
 | ref id i f=>exact one rfl
 | bd g id i f=>exact one rfl
 | bq=>exact one rfl
 | ro cs=>exact one rfl
 | sl id off len=>exact one rfl
 | tup cs=>exact one rfl
 | fn f cs=>exact one rfl
theorem zM1 (R:Rel cx β F fm hm a w){F1:Nat→Prop}{fz':List Nat}(hF1 : ∀ b,F1 b↔qRn β F fz' b){z:Nat}{es es':List V}{full:Bool}{bi:BI}{fz l:List Nat}(h:(qDo es).run hm=some ((es',fz),l))(hsub : ∀ i∈fz,i∈fz')
  (hok:qFk β F w bi (.live z es true full)) (hnF : ∀ b,bi.blk=some b → ¬ F1 b) {ids:List Nat} (hrefs : ∀ r∈qA6 es',r∈ids) :
  qFk (qKe ids β) F1 w bi ((Ob.live z es' true full).ren (fun r=>ids.idxOf r)):=by
 have hF:F1=qRn β F fz':=by funext b;exact propext (hF1 b)
 subst hF;unfold qFk at hok;obtain⟨g1,g2,g3⟩:=hok;have hlen:es'.length=es.length:=by
  unfold qDo at h;split at h
  ·obtain⟨e,_⟩:=qE h;cases e;rfl
  ·exact (vD h).1
 simp only[Ob.ren,zL,qFk,List.length_map,hlen];refine⟨g1,g2,?_⟩;cases hb:bi.blk with
 | none=>
  simp only[hb] at g3 ⊢;refine⟨?_,g3.2⟩;rw[g3.1] at hlen;simp at hlen;rw[hlen];rfl
 | some b=>
  simp only[hb] at g3 ⊢;obtain⟨c,e,fzz,k1,k2,k3,k4,k5,k6,k7⟩:=g3;refine⟨c,e,fzz,k1,k2,k3,k4,k5,fun i y hy=>?_,by simpa using hnF b hb⟩;rw[List.getElem?_map,Option.map_eq_some_iff] at hy;obtain⟨x',hx',rfl⟩:=hy;have hi:i<es.length:=by rw[←hlen];exact (List.getElem?_eq_some_iff.1 hx').1
  obtain⟨m1,m2⟩:=k6 i es[i] (by simp[hi]);have key:x'.cells.length=es[i].cells.length ∧ ∀ (j:Nat) (y y':V) (u:Value),es[i].cells[j]?=some y→x'.cells[j]?=some y'→qV β F w y u→u.oneCell'=true→qV β (qRn β F fz') w y' u∧y'.noSl=true ∧ ∀ r∈y'.refs,r∈qA6 es':=by
   unfold qDo at h;split at h
   ·rename_i ts hts;obtain⟨e,_⟩:=qE h;cases e;have:x'=es[i]:=by rw[List.getElem?_eq_getElem hi] at hx';exact (Option.some.inj hx').symm
    subst this;refine⟨rfl,fun j y y' u hy hy' hr _=>?_⟩;rw[hy] at hy';cases hy';refine⟨hr.mono (fun _ _ h=>h) (fun _ h=> .inl h) (fun _ _=>rfl),?_⟩;have hm1:es[i]∈es:=sM;have heq:=qDn hts;have hm2:es[i]∈ts.map V.t:=by rw[←heq];exact hm1
    simp only[List.mem_map] at hm2;obtain⟨t,_,ht⟩:=hm2;rw[←ht] at hy;obtain⟨c,_,rfl⟩:=xT hy;exact⟨rfl,by simp[V.refs]⟩
   ·obtain⟨h1,h2⟩:=vD h;obtain⟨fzi,li,n1,n2⟩:=h2 i es[i] x' (by simp[hi]) hx';by_cases hz:es[i].cells=[]
    ·
     cases hx0:es[i] with
     | t y=>
      rw[hx0] at n1;obtain⟨e,_⟩:=qE (x:=(V.t y,([]:List Nat))) n1;cases e;rw[hx0] at hz;rw[hz];simp
     | agg cs=>
      rw[hx0] at n1 hz;simp only[zJ] at n1;obtain⟨p,l1,l2,hp,n1,_⟩:=zA n1;obtain⟨e,_⟩:=qE n1;cases e;rw[qRy,(vD hp).1];have:cs=[]:=hz;subst this;simp[V.cells]
     | _=>rw[hx0] at hz;simp[V.cells] at hz
    ·obtain⟨q1,q2⟩:=zAs R n1 (fz':=fz') (fun i hi=>hsub i (n2 i hi)) hz (fun j y hy=>let ⟨u,_,b,d⟩:=m2 j y hy;⟨u,b,d⟩);refine⟨q1,fun j y y' u hy hy' hr ho=>?_⟩;obtain⟨s1,s2,s3⟩:=q2 j y y' u hy hy' hr ho;exact⟨s1,s2,fun r hr=>qDy (List.mem_of_getElem? hx') (s3 r hr)⟩
  rw[qH9,zL,List.length_map,key.1];refine⟨m1,fun j y hy=>?_⟩;rw[List.getElem?_map,Option.map_eq_some_iff] at hy;obtain⟨y',hy',rfl⟩:=hy;have hj:j<es[i].cells.length:=by rw[←key.1];exact (List.getElem?_eq_some_iff.1 hy').1
  obtain⟨u,hu,hr,ho⟩:=m2 j (es[i].cells[j]'hj) (by simp[hj]);obtain⟨s1,s2,s3⟩:=key.2 j (es[i].cells[j]'hj) y' u (by simp[hj]) hy' hr ho;exact⟨u,hu,zBw s1 s2 (fun r hr=>hrefs r (s3 r hr)),ho⟩
end Go.Eng
end
section
namespace Go.Eng
variable {β:Nat→Option BI} {F:Nat→Prop} {w:World} {cx:Cx} {fm:Nat→Option V} {hm:Nat→Option Ob} {a:Act}
theorem jDn (R:Rel cx β F fm hm a w):zKd cx.gl F w:=by
 refine⟨R.Fw,fun g cs hg=>?_,R.gs⟩;have:=R.gl g cs hg;cases this with
 | ro _ a news ha hn h1 hF hw h=>exact .ro cs _ news ha hn h1 hF hw h
theorem zDv (R:Rel cx β F fm hm a w){n:Nat}{vs aS:List V}{fz l fz':List Nat}(h:(qDp (zJ n) vs).run hm=some ((aS,fz),l))(hsub : ∀ i∈fz,i∈fz'){vals:List Value}(hv:qAg (qV β F w) vs vals){ids:List Nat}(hr : ∀ r∈qA6 aS,r∈ids) :
  qAg (qV (qKe ids β) (qRn β F fz') w) (qF0 (fun r=>ids.idxOf r) aS) vals:=by
 obtain⟨g1,g2⟩:=vD h;rw[zL];have hlen:=hv.length;have key : ∀ (as0:List V) (vals0:List Value),as0.length=vals0.length→(∀ (i:Nat) (c:V) (u:Value),as0[i]?=some c→vals0[i]?=some u→qV (qKe ids β) (qRn β F fz') w (c.ren fun r=>ids.idxOf r) u)→
   qAg (qV (qKe ids β) (qRn β F fz') w) (as0.map (V.ren fun r=>ids.idxOf r)) vals0:=by
  intro as0
  induction as0 with
  | nil=>intro vals0 hl _;cases vals0 with
   | nil=>exact .nil
   | cons _ _=>simp at hl
  | cons c r ih=>intro vals0 hl h;cases vals0 with
   | nil=>simp at hl
   | cons u vals0=>
    exact .cons (h 0 c u rfl rfl) (ih vals0 (by simpa using hl) (fun i c u hc hu=>h (i+1) c u (by simpa using hc) (by simpa using hu)))
 refine key aS vals (by rw[g1,hlen]) (fun i c u hc hu=>?_);have hi:i<vs.length:=by rw[←g1];exact (List.getElem?_eq_some_iff.1 hc).1
 obtain⟨fzi,li,m1,m2⟩:=g2 i vs[i] c (by simp[hi]) hc;obtain⟨x,hx,hrx⟩:=hv.get i u hu;have:x=vs[i]:=by rw[List.getElem?_eq_getElem hi] at hx;exact (Option.some.inj hx).symm
 subst this;exact zBw (wZ R m1 hrx (fun j hj=>hsub j (m2 j hj))) (qM4 m1) (fun r hr'=>hr r (qDy (List.mem_of_getElem? hc) hr'))
theorem zHd (R:Rel cx β F fm hm a w){n:Nat}{vs aS:List V}{fz0 l1:List Nat}(hp:(qDp (zJ 4) vs).run hm=some ((aS,fz0),l1)){todo ids:List Nat}{obs:List Ob}{fzq l2:List Nat}
  (hq:(qBz n todo [] [] []).run hm=some ((ids,obs,fzq),l2)) (htodo : ∀ r∈qA6 aS,r∈todo) (hdis:(ids.all fun i => !(fz0++fzq).contains i)=true) {fw:Wr} {l3:List Nat} (hfw:(qYc (fz0++fzq)).run hm=some (fw,l3))
  {vals:List Value} (hv:qAg (qV β F w) vs vals) :
  ∃ F1,Rel cx β F1 fm (upd hm fw) a w∧(∀ b,F b→F1 b)∧
   ids.Nodup∧ids.length=obs.length∧(∀ p∈fw,hm p.1≠none)∧
   (∀ (k id:Nat),ids[k]?=some id → ∃ z es full,hm id=some (.live z es true full)∧upd hm fw id=some (.live z es true full))∧
   zUv (qKe ids β) F1 w (obs.map (Ob.ren fun r=>ids.idxOf r))∧qAg (qV (qKe ids β) F1 w) (qF0 (fun r=>ids.idxOf r) aS) vals:=by
 obtain⟨k1,k2,k3,k4,k5,_,_⟩:=qPf hq sM rfl (by intro k id o hk;simp at hk) sM;obtain⟨F1,R1,hF1⟩:=Rel.freezeAll hfw R (fun id _=> .inl rfl);obtain⟨n1,n2⟩:=zG0 hfw;have hnot : ∀ (k id:Nat),ids[k]?=some id→id ∉ fz0++fzq:=by
  intro k id hk;have:=List.all_eq_true.1 hdis id (List.mem_of_getElem? hk);simpa using this
 have hkeepid : ∀ (k id:Nat),ids[k]?=some id→upd hm fw id=hm id:=fun k id hk=>qEk (fun q hq e=>hnot k id hk (by rw[←e];exact (n2 q hq).1))
 have hob : ∀ (k id:Nat),ids[k]?=some id → ∃ o z es es' full fzk lk,obs[k]?=some o∧hm id=some (.live z es true full)∧o = .live z es' true full∧(qDo es).run hm=some ((es',fzk),lk) ∧ ∀ j∈fzk,j∈fzq:=by
  intro k id hk;have hkl:k<obs.length:=by rw[←k2];exact (List.getElem?_eq_some_iff.1 hk).1
  obtain⟨z,es,es',full,fzk,lk,g1,g2,g3,g4⟩:=k3 k id obs[k] hk (by simp[hkl]);exact⟨_,z,es,es',full,fzk,lk,by simp[hkl],g1,g2,g3,g4⟩
 have hlive : ∀ (k id:Nat),ids[k]?=some id → ∃ z es full,hm id=some (.live z es true full)∧upd hm fw id=some (.live z es true full):=by
  intro k id hk;obtain⟨o,z,es,es',full,fzk,lk,_,g1,_⟩:=hob k id hk;exact⟨z,es,full,g1,by rw[hkeepid k id hk];exact g1⟩
 have hFeq:F1=qRn β F (fz0++fzq):=by funext b;exact propext (hF1 b)
 refine⟨F1,R1,fun b hb=>(hF1 b).2 (.inl hb),k1,k2,fun q hq=>?_,hlive,⟨fun k o ho=>?_,fun k hk=>?_,fun i j bi bj b h1 h2 h3 h4=>?_,fun k bi b h1 h2=>?_⟩,?_⟩
 ·obtain⟨_,z,es,full,h,_⟩:=n2 q hq;rw[h];simp
 ·rw[List.getElem?_map,Option.map_eq_some_iff] at ho;obtain⟨o',ho',rfl⟩:=ho;have hkl:k<ids.length:=by rw[k2];exact (List.getElem?_eq_some_iff.1 ho').1
  obtain⟨o2,z,es,es',full,fzk,lk,g0,g1,g2,g3,g4⟩:=hob k ids[k] (by simp[hkl]);rw[ho'] at g0;cases g0;obtain⟨bi,hb,hok⟩:=R.hp _ _ g1;have hnF : ∀ b,bi.blk=some b → ¬ F1 b:=by
   intro b hbk;obtain⟨z',es2,full',_,h2⟩:=hlive k ids[k] (by simp[hkl]);exact R1.notF h2 hb hbk
  refine⟨bi,by simp[qKe,hkl,hb],?_,?_⟩
  ·rw[g2];exact zM1 R hF1 g3 (fun i hi=>by simp[g4 i hi]) hok hnF (fun r hr=>k4 o' (List.mem_of_getElem? ho') r (by rw[g2];exact hr))
  ·rw[g2];exact⟨z,_,full,rfl⟩
 ·rw[List.length_map,←k2] at hk;simp[qKe,List.getElem?_eq_none hk]
 ·unfold qKe at h1 h2;rw[Option.bind_eq_some_iff] at h1 h2;obtain⟨x,hx,h1⟩:=h1;obtain⟨y,hy,h2⟩:=h2;obtain⟨z1,e1,f1,m1,_⟩:=hlive i x hx;obtain⟨z2,e2,f2,m2,_⟩:=hlive j y hy;have:=R.inj x y bi bj b _ _ h1 h2 h3 h4 m1 m2 sM sM;subst this;have hi:i<ids.length:=(List.getElem?_eq_some_iff.1 hx).1;have hj:j<ids.length:=(List.getElem?_eq_some_iff.1 hy).1;exact qDt k1 hi hj (by rw[List.getElem?_eq_getElem hi] at hx;rw[List.getElem?_eq_getElem hj] at hy;rw[Option.some.inj hx,Option.some.inj hy])
 ·unfold qKe at h1;rw[Option.bind_eq_some_iff] at h1;obtain⟨x,hx,h1⟩:=h1;obtain⟨z1,e1,f1,m1,m2⟩:=hlive k x hx;exact⟨R.blt x bi b h1 h2,R1.notF m2 h1 h2⟩
 ·rw[hFeq];exact zDv R hp (fun i hi=>by simp[hi]) hv (fun r hr=>k5 r (htodo r hr))
theorem zM9 (R:Rel cx β F fm hm a w){keep:Bool}{vs:List V}{cp:CP}{l:List Nat}(h:(qSx keep vs).run hm=some (cp,l)){vals:List Value}(hv:qAg (qV β F w) vs vals) :
  ∃ F1,Rel cx β F1 fm (upd hm cp.fw) a w∧(∀ b,F b→F1 b)∧(keep=false → ∀ (k id:Nat),cp.ids[k]?=some id → ∃ z es full,hm id=some (.live z es true full))∧
   cp.ids.Nodup∧cp.ids.length=cp.obs.length∧(∀ p∈cp.fw,hm p.1≠none)∧
   (∀ (k id:Nat),cp.ids[k]?=some id → ∃ z es full,hm id=some (.live z es true full)∧upd hm cp.fw id=some (.live z es true full))∧
   zUv (qKe cp.ids β) F1 w (cp.obs.map (Ob.ren fun r=>cp.ids.idxOf r))∧qAg (qV (qKe cp.ids β) F1 w) (qF0 (fun r=>cp.ids.idxOf r) cp.aS) vals:=by
 unfold qSx at h;obtain⟨p,l1,l2,hp,h,_⟩:=zA h;obtain⟨q,l3,l4,hq,h,_⟩:=zA h;obtain⟨⟨_,hdis⟩,h⟩:=qR h;obtain⟨fw,l5,l6,hfw,h,_⟩:=zA h;obtain⟨e,_⟩:=qE h;cases e;obtain⟨F1,g1,g2,g3,g4,g5,g6,g7,g8⟩:=zHd R hp hq (fun r h=>h) hdis hfw hv;exact⟨F1,g1,g2,fun _ k id hk=>let ⟨z,es,full,h,_⟩:=g6 k id hk;⟨z,es,full,h⟩,g3,g4,g5,g6,g7,g8⟩
theorem zLq {obs:List Ob}(h:zD5 obs=true){k:Nat}{o:Ob}(ho:obs[k]?=some o):o.flat=true:=List.all_eq_true.1 h o (List.mem_of_getElem? ho)
theorem zH5 (R:Rel cx β F fm hm a w){tab:Tab}(ht:qFl cx.P cx.gl tab){f:FuncId}{keep:Bool}{vs:List V}{nb:Nat}{v:V}{W:Wr}{l:List Nat}(h:(qU7 tab f keep vs nb).run hm=some ((v,W),l)){vals:Array Value}(hv:qAg (qV β F w) vs vals.toList) :
  qSg cx.P f vals w (fun e w' => ∃ x β' F',e = .returned x∧Rel cx β' F' fm (upd hm W) a w'∧qV β' F' w' v x):=by
 unfold qU7 at h;obtain⟨cp,l1,l2,hcp,h,_⟩:=zA h;obtain⟨p,hp,h⟩:=qI h;obtain⟨⟨hlen,hflat⟩,h⟩:=qR h;obtain⟨hfree,l',h⟩:=zA4 h;obtain⟨e,_⟩:=qE h;cases e;obtain⟨r,outs⟩:=p;rw[Option.bind_eq_some_iff] at hp;obtain⟨s,hs,hp⟩:=hp;obtain⟨F1,R1,hFF1,hlive0,hnd,hlo,hfwl,hlive,fits,hargs⟩:=zM9 R hcp hv;simp only at hlen hflat hfree ⊢;refine (ht f s hs _ _ r outs hp w (qKe cp.ids β) F1 vals (jDn R1) fits hargs).mono ?_;rintro e w' ⟨x,βp,F',rfl,post⟩;have hold : ∀ (k id:Nat),cp.ids[k]?=some id→βp k=β id:=by
  intro k id hk;have hkl:k<cp.ids.length:=(List.getElem?_eq_some_iff.1 hk).1;rw[post.old k (by rw[List.length_map,←hlo];exact hkl)];simp[qKe,hk]
 have hframe : ∀ b,b<w.heap.size→(∀ (k id:Nat) (bi:BI),cp.ids[k]?=some id→β id=some bi→bi.blk≠some b)→w'.heap[b]?=w.heap[b]?:=by
  intro b hb hk;refine post.frame b hb (fun k bi hkb=>?_);unfold qKe at hkb;rw[Option.bind_eq_some_iff] at hkb;obtain⟨id,h1,h2⟩:=hkb;exact hk k id bi h1 h2
 have hnew : ∀ (k:Nat) (bi:BI) (b:Nat),cp.ids.length≤k→βp k=some bi→bi.blk=some b→w.heap.size≤b:=by
  intro k bi b hk h1 h2;exact post.new k bi b (by rw[List.length_map,←hlo];exact hk) h1 h2
 cases keep with
 | true=>
  obtain⟨βn,R2,hg,_⟩:=Rel.called R1 hnd (fun k id hk=>let ⟨z,es,full,_,h2⟩:=hlive k id hk;⟨z,es,full,h2⟩) post.fits hold hnew post.F post.Fw post.os post.tape post.output post.size hframe hlen (nb:=nb)
   (fun j hj=>by
    rw[qEk (fun q hq e=>hfwl q hq (by rw[e];exact hfree j hj))];exact hfree j hj)
  refine⟨x,βn,F',rfl,?_,?_⟩
  ·simp only[if_true,qW4];exact R2
  ·exact qV.ren (β:=βn) (ρ:=gam cp.ids nb) (post.res.mono (β':=fun k=>βn (gam cp.ids nb k)) hg (fun _ h=>h) (fun _ _=>rfl))
 | false=>
  have hfl:r.flat=true∧zD5 outs=true:=by simpa using hflat
  let F2:Nat→Prop:=fun b=>(b<w.heap.size∧F b)∨(w.heap.size≤b∧F' b)
  have hF2o : ∀ b,b<w.heap.size→(F2 b↔F b):=fun b hb=>⟨fun h=>by
   rcases h with h | h
   ·exact h.2
   ·omega,fun h=> .inl ⟨hb,h⟩⟩
  have hblkF2 : ∀ (k:Nat) (bi:BI) (b:Nat),βp k=some bi→bi.blk=some b → ¬ F2 b:=by
   intro k bi b h1 h2 hF2;rcases hF2 with⟨hb,hF⟩ | ⟨hb,hF⟩
   ·rcases Nat.lt_or_ge k cp.ids.length with hk | hk
    ·obtain⟨z,es,full,hl⟩:=hlive0 rfl k cp.ids[k] (by simp[hk]);exact R.notF hl (by rw[←hold k cp.ids[k] (by simp[hk])];exact h1) h2 hF
    ·have:=hnew k bi b hk h1 h2;omega
   ·exact (post.fits.blt k bi b h1 h2).2 hF
  have fits2:zUv βp F2 w' outs:=by
   refine⟨fun k o ho=>?_,post.fits.dom,post.fits.inj,fun k bi b h1 h2=>⟨(post.fits.blt k bi b h1 h2).1,hblkF2 k bi b h1 h2⟩⟩;obtain⟨bi,h1,h2,z,es,full,rfl⟩:=post.fits.ok k o ho;have hfo:=zLq hfl.2 ho;exact⟨bi,h1,h2.flat hfo (fun b hb=>hblkF2 k bi b h1 hb),z,es,full,rfl⟩
  obtain⟨βn,R2,hg,_⟩:=Rel.called R hnd (fun k id hk=>let ⟨z,es,full,h1,_⟩:=hlive k id hk;⟨z,es,full,h1⟩) fits2 hold hnew hF2o (fun b hb=>by
    rcases hb with⟨h1,_⟩ | ⟨_,h2⟩
    ·have:=post.size;omega
    ·exact post.Fw b h2) post.os post.tape post.output post.size hframe hlen (nb:=nb) hfree
  refine⟨x,βn,F2,rfl,?_,?_⟩
  ·simpa using R2
  ·exact qV.ren (β:=βn) (ρ:=gam cp.ids nb) ((post.res.flat hfl.1).mono (β':=fun k=>βn (gam cp.ids nb k)) hg (fun _ h=>h) (fun _ _=>rfl))
end Go.Eng
end
