/- My own text: an abstract machine, its walks over the functions reached, and their tie to the program. -/
import Derived.Test.YtgpbjaleeeacdaaGreatDoorW1
import Derived.BigCall
set_option linter.unusedSimpArgs false
set_option linter.unusedVariables false
section
namespace Go.Eng
mutual
def T.flat:T→Bool
 | .sl es=>es.isEmpty
 | .agg cs=>qK3 cs
 | .tup cs=>qK3 cs
 | _=>true
def qK3:List T→Bool
 | []=>true
 | c::r=>c.flat&&qK3 r
end
mutual
def V.flat:V→Bool
 | .t x=>x.flat
 | .ro _=>false
 | .agg cs=>qGw cs
 | .tup cs=>qGw cs
 | .fn _ cs=>qGw cs
 | _=>true
def qGw:List V→Bool
 | []=>true
 | c::r=>c.flat&&qGw r
end
def Ob.flat:Ob→Bool
 | .live _ es _ _=>qGw es
 | .dead=>true
def qW4 (obs:List Ob):Bool:=obs.all Ob.flat
theorem qH6 : ∀ {cs:List T},qK3 cs=true → ∀ (i:Nat) (c:T),cs[i]?=some c→c.flat=true
 | [],_,i,c,hc=>by simp at hc
 | x::r,h,i,c,hc=>by
  simp only[qK3,Bool.and_eq_true] at h
  cases i with
  | zero=>simp at hc;subst hc;exact h.1
  | succ i=>exact qH6 h.2 i c (by simpa using hc)
theorem qCx : ∀ {cs:List V},qGw cs=true → ∀ (i:Nat) (c:V),cs[i]?=some c→c.flat=true
 | [],_,i,c,hc=>by simp at hc
 | x::r,h,i,c,hc=>by
  simp only[qGw,Bool.and_eq_true] at h
  cases i with
  | zero=>simp at hc;subst hc;exact h.1
  | succ i=>exact qCx h.2 i c (by simpa using hc)
theorem qW5 {v:V} (h:v.flat=true) (i:Nat) (c:V) (hc:v.cells[i]?=some c):c.flat=true:=by
 have one:v.cells=[v]→c.flat=true:=by
  intro e
  rw[e] at hc
  cases i with
  | zero=>simp at hc;subst hc;exact h
  | succ i=>simp at hc
 cases v with
 | agg cs=>exact qCx (cs:=cs) (by simpa [V.flat] using h) i c hc
 | t x=>
  cases x with
  | agg cs=>
   simp only[V.cells,List.getElem?_map,Option.map_eq_some_iff] at hc
   obtain⟨c',hc',rfl⟩:=hc
   exact qH6 (by simpa [V.flat,T.flat] using h) i c' hc'
  | _=>exact one rfl
 | _=>exact one rfl
variable {β:Nat→Option BI} {F:Nat→Prop} {w:World}
theorem Rep.flat {F2:Nat→Prop} {x:T} {v:Value} (h:Rep F w x v):x.flat=true→Rep F2 w x v:=by
 induction h with
 | int k n=>intro _;exact .int k n
 | bool b=>intro _;exact .bool b
 | str s=>intro _;exact .str s
 | fnil=>intro _;exact .fnil
 | pnil=>intro _;exact .pnil
 | agg cs vs hl h1 _ ih=>intro hf;exact .agg cs vs hl h1 (fun i c u hc hu=>ih i c u hc hu (qH6 (by simpa [T.flat] using hf) i c hc))
 | tup cs vs hl _ ih=>intro hf;exact .tup cs vs hl (fun i c u hc hu=>ih i c u hc hu (qH6 (by simpa [T.flat] using hf) i c hc))
 | nil=>intro _;exact .nil
 | sl es a cap sz news ha hc hn h1 hF hw hz _ ih=>
  intro hf
  have:es=[]:=by simpa [T.flat] using hf
  subst this
  exact .sl [] a cap sz news ha hc hn h1 (by simp) hw hz (by intro i e j c u he;simp at he)
theorem qL.flat {F2:Nat→Prop} {x:V} {v:Value} (h:qL β F w x v):x.flat=true→qL β F2 w x v:=by
 induction h with
 | t h=>intro hf;exact .t (h.flat hf)
 | nil=>intro _;exact .nil
 | ref id i f b sz room hb=>intro _;exact .ref id i f b sz room hb
 | bd g id i f b sz room hb=>intro _;exact .bd g id i f b sz room hb
 | bq b=>intro _;exact .bq b
 | ro cs a news ha hn h1 hF hw h=>intro hf;simp[V.flat] at hf
 | sl id off len cap b sz room a hb hlc hr ha hs=>intro _;exact .sl id off len cap b sz room a hb hlc hr ha hs
 | slv id sz room hb=>intro _;exact .slv id sz room hb
 | agg cs vs hl h1 _ ih=>intro hf;exact .agg cs vs hl h1 (fun i c u hc hu=>ih i c u hc hu (qCx (by simpa [V.flat] using hf) i c hc))
 | tup cs vs hl _ ih=>intro hf;exact .tup cs vs hl (fun i c u hc hu=>ih i c u hc hu (qCx (by simpa [V.flat] using hf) i c hc))
 | fn f cs vs hl _ ih=>intro hf;exact .fn f cs vs hl (fun i c u hc hu=>ih i c u hc hu (qCx (by simpa [V.flat] using hf) i c hc))
theorem qCq.flat {F2:Nat→Prop} {bi:BI} {z:Nat} {es:List V} {full:Bool} (h:qCq β F w bi (.live z es true full)) (hf:qGw es=true) (h2 : ∀ b,bi.blk=some b → ¬ F2 b) :
  qCq β F2 w bi (.live z es true full):=by
 unfold qCq at *
 obtain⟨g1,g2,g3⟩:=h
 refine⟨g1,g2,?_⟩
 cases hb:bi.blk with
 | none=>simp only[hb] at g3 ⊢;exact g3
 | some b=>
  simp only[hb] at g3 ⊢
  obtain⟨c,e,fz,k1,k2,k3,k4,k5,k6,k7⟩:=g3
  refine⟨c,e,fz,k1,k2,k3,k4,k5,fun i x hx=>?_,by simpa using h2 b hb⟩
  obtain⟨m1,m2⟩:=k6 i x hx
  refine⟨m1,fun j y hy=>?_⟩
  obtain⟨u,hu,hr,ho⟩:=m2 j y hy
  exact⟨u,hu,hr.flat (qW5 (qCx hf i x hx) j y hy),ho⟩
def qA8 (g:V→Q (V×List Nat)):List V→Q (List V×List Nat)
 | []=> .ret ([],[])
 | c::r=>(g c).bind fun p=>(qA8 g r).bind fun q=> .ret (p.1::q.1,p.2++q.2)
def zE:Nat→V→Q (V×List Nat)
 | _,.t x=> .ret (.t x,[])
 | _,.nil=> .ret (.t (.sl []),[])
 | _,.ro cs=> .ret (.ro cs,[])
 | _,.ref id i f=> .ret (.ref id i f,[])
 | _,.bd g id i f=> .ret (.bd g id i f,[])
 | n+1,.sl id off len=> .get id fun
  | .live _ es wr _=>Q.assert (off+len≤es.length)
   (match qCo es with
   | some ts=> .ret (.t (.sl ((ts.drop off).take len)),if wr then [id] else [])
   | none=>(qA8 (zE n) es).bind fun p=>match qCo p.1 with
    | some ts=> .ret (.t (.sl ((ts.drop off).take len)),if wr then id::p.2 else p.2)
    | none=> .fail)
  | .dead=> .fail
 | n+1,.agg cs=>(qA8 (zE n) cs).bind fun p=> .ret (V.mk p.1,p.2)
 | n+1,.fn f cs=>(qA8 (zE n) cs).bind fun p=> .ret (.fn f p.1,p.2)
 | _,_=> .fail
def qA7 (es:List V):Q (List V×List Nat):=
 match qCo es with
 | some _=> .ret (es,[])
 | none=>qA8 (zE 3) es
mutual
def V.refs:V→List Nat
 | .ref id _ _=>[id]
 | .bd _ id _ _=>[id]
 | .agg cs=>kH cs
 | .tup cs=>kH cs
 | .fn _ cs=>kH cs
 | _=>[]
def kH:List V→List Nat
 | []=>[]
 | c::r=>c.refs++kH r
end
def xN:Nat→List Nat→List Nat→List Ob→List Nat→Q (List Nat×List Ob×List Nat)
 | _,[],ids,obs,fz=> .ret (ids,obs,fz)
 | 0,_::_,_,_,_=> .fail
 | n+1,id::todo,ids,obs,fz=>if ids.contains id then xN n todo ids obs fz else
  .get id fun
   | .live z es true full=>(qA7 es).bind fun p=>xN n (todo++(match qCo es with | some _=>[] | none=>kH p.1)) (ids++[id]) (obs++[.live z p.1 true full]) (fz++p.2)
   | _=> .fail
def qRt:List Nat→Q Wr
 | []=> .ret []
 | id::r=> .get id fun
  | .live z es true full=>Q.assert (100≤id) ((qRt r).bind fun q=> .ret ((id,.live z es false full)::q))
  | _=> .fail
structure CP where
 as:List V
 ids:List Nat
 obs:List Ob
 fz:List Nat
 fw:Wr
def qMt (keep:Bool) (vs:List V):Q CP:=
 (qA8 (zE 4) vs).bind fun p=>(xN 12 (kH p.1) [] [] []).bind fun q=>
  Q.assert ((keep=true∨q.2.2=[])∧(q.1.all fun i => !(p.2++q.2.2).contains i)=true) ((qRt (p.2++q.2.2)).bind fun fw=> .ret ⟨p.1,q.1,q.2.1,p.2++q.2.2,fw⟩)
def qLg (β:Nat→Option BI) (F:Nat→Prop) (fz:List Nat):Nat→Prop:=fun b=>F b ∨ ∃ id∈fz,∃ bi,β id=some bi∧bi.blk=some b
theorem qLg.of {fz:List Nat} {b:Nat} (h:F b):qLg β F fz b:= .inl h
theorem qLg.sub {fz fz':List Nat} (h : ∀ i∈fz,i∈fz') : ∀ b,qLg β F fz b→qLg β F fz' b:=by
 intro b hb
 rcases hb with h1 | ⟨i,hi,bi,h1,h2⟩
 ·exact .inl h1
 ·exact .inr ⟨i,h i hi,bi,h1,h2⟩
variable {cx:Cx} {fm:Nat→Option V} {hm:Nat→Option Ob} {a:Act}
theorem qDa {es:List V} {ts:List T} (h:qCo es=some ts):ts.length=es.length:=by rw[qA4 h];simp
theorem qU7 (R:Rel cx β F fm hm a w) {F':Nat→Prop} (hF : ∀ b,F b→F' b) {id off len z:Nat} {es:List V} {wr full:Bool} (ho:hm id=some (.live z es wr full)) {x:Value} (hx:qL β F w (.sl id off len) x)
  (hle:off+len≤es.length) (hb : ∀ bi b,β id=some bi→bi.blk=some b→F' b) {ts:List T} (hl:ts.length=es.length)
  (hz : ∀ t∈ts,t.cells.length=z) (hr : ∀ (i:Nat) (e:V) (t:T),es[i]?=some e→ts[i]?=some t → ∀ (j:Nat) (q:V) (c:T) (u:Value),e.cells[j]?=some q→t.cells[j]?=some c→qL β F w q u→u.oneCell'=true→Rep F' w c u) :
  Rep F' w (.sl ((ts.drop off).take len)) x:=by
 cases hx with
 | slv _ sz room hb'=>
  obtain⟨bi',hb'',hok⟩:=R.hp id _ ho
  rw[hb'] at hb'';cases hb''
  simp only[List.take_zero]
  exact .nil
 | sl _ _ _ scap b sz room ad hb' hlc hrm had hsp=>
  obtain⟨c,ce,fz,h2,h3,h4,h5,h6,h7,h8,h9⟩:=R.obj ho hb' rfl
  simp only at h4 h5 h7 h9
  subst h9
  have hl2:((ts.drop off).take len).length=len:=by simp;omega
  have e1:(off+len)*sz≤room*sz:=Nat.mul_le_mul_right _ (by omega)
  have e2:(off+len)*sz=off*sz+len*sz:=by rw[Nat.add_mul]
  have hsrc:=h7.src h4 h5
  have key:=Rep.sl (F:=F') (w:=w) ((ts.drop off).take len) ad scap sz ((c.toList.drop (off*sz)).take (len*sz)) (fun _=>hsp) (by rw[hl2];omega) (by rw[hl2];simp;omega)
   (fun u hu=>by
    obtain⟨j,hj⟩:=List.getElem?_of_mem hu
    simp only[List.getElem?_take,List.getElem?_drop] at hj
    split at hj
    ·rename_i hlt
     have:(c.toList.take (es.length*sz))[off*sz+j]?=some u:=by
      rw[List.getElem?_take,if_pos]
      ·exact hj
      ·have:(off+len)*sz≤es.length*sz:=Nat.mul_le_mul_right _ hle
       omega
     exact hsrc.2.1 u (List.mem_of_getElem? this)
    ·cases hj)
   (fun hne=>by
    have hlt2:0<scap:=by
     rcases Nat.eq_zero_or_pos len with h0 | h0
     ·exact absurd (List.eq_nil_of_length_eq_zero (by rw[hl2,h0])) hne
     ·omega
    rw[had hlt2]
    exact hb _ b hb' rfl)
   (fun j u hj=>by
    simp only[List.getElem?_take,List.getElem?_drop] at hj
    split at hj
    ·rename_i hlt
     have hlt2:0<scap:=by
      rcases Nat.eq_zero_or_pos len with h0 | h0
      ·subst h0;simp at hlt
      ·omega
     rw[had hlt2,Addr.add_lit,cell_of_row w b _ c ce fz h2]
     simpa using hj
    ·cases hj)
   (fun t ht=>hz t (List.mem_of_mem_drop (List.mem_of_mem_take ht)))
   (fun i t j q u ht hq hu=>by
    have ht':ts[off+i]?=some t∧i<len:=by
     simp only[List.getElem?_take,List.getElem?_drop] at ht
     split at ht
     ·rename_i h;exact⟨ht,h⟩
     ·cases ht
    have hei:off+i<es.length:=by omega
    obtain⟨m1,m2⟩:=h7 (off+i) es[off+i] (by simp[hei])
    have hjz:j<sz:=by rw[←hz t (List.mem_of_getElem? ht'.1)];exact (List.getElem?_eq_some_iff.1 hq).1
    obtain⟨u',hu',hru,hone'⟩:=m2 j (es[off+i].cells[j]'(by omega)) (by simp)
    have:u'=u:=by
     simp only[List.getElem?_take,List.getElem?_drop] at hu
     split at hu
     ·have e3:(off+i)*sz+j=off*sz+(i*sz+j):=by rw[Nat.add_mul];omega
      rw[e3] at hu'
      rw[Array.getElem?_toList,hu'] at hu
      exact Option.some.inj hu
     ·cases hu
    subst this
    exact hr (off+i) es[off+i] t (by simp[hei]) ht'.1 j _ q u' (by simp) hq hru hone')
  rw[hl2] at key
  exact key
end Go.Eng
end
section
namespace Go.Eng
variable {β:Nat→Option BI} {F:Nat→Prop} {w:World} {cx:Cx} {fm:Nat→Option V} {hm:Nat→Option Ob} {a:Act}
theorem yE {g:V→Q (V×List Nat)} : ∀ {cs cs':List V} {fz l:List Nat},(qA8 g cs).run hm=some ((cs',fz),l)→
  cs'.length=cs.length ∧ ∀ (i:Nat) (c c':V),cs[i]?=some c→cs'[i]?=some c' → ∃ fzi li,(g c).run hm=some ((c',fzi),li) ∧ ∀ j∈fzi,j∈fz
 | [],cs',fz,l,h=>by
  obtain⟨h1,_⟩:=qB h
  cases h1
  exact⟨rfl,by intro i c c' hc;simp at hc⟩
 | c::r,cs',fz,l,h=>by
  simp only[qA8] at h
  obtain⟨p,l1,l2,hp,h,_⟩:=qW h
  obtain⟨q,l3,l4,hq,h,_⟩:=qW h
  obtain⟨h1,_⟩:=qB h
  cases h1
  obtain⟨g1,g2⟩:=yE hq
  refine⟨by simp[g1],fun i x x' hx hx'=>?_⟩
  cases i with
  | zero=>
   simp at hx hx';subst hx hx'
   exact⟨p.2,l1,hp,fun j hj=>by simp[hj]⟩
  | succ i=>
   simp at hx hx'
   obtain⟨fzi,li,m1,m2⟩:=g2 i x x' hx hx'
   exact⟨fzi,li,m1,fun j hj=>by simp[m2 j hj]⟩
theorem Rel.row (R:Rel cx β F fm hm a w) {id z:Nat} {es:List V} {wr full:Bool} (ho:hm id=some (.live z es wr full)):es=[] ∨ ∃ c,jZ β F w es z c:=by
 obtain⟨bi,hb,hok⟩:=R.hp id _ ho
 unfold qCq at hok
 obtain⟨g1,g2,g3⟩:=hok
 cases hbk:bi.blk with
 | none=>simp only[hbk] at g3;exact .inl g3.1
 | some b=>
  simp only[hbk] at g3
  obtain⟨c,e,fz,k1,k2,k3,k4,k5,k6,k7⟩:=g3
  rw[g1] at k6
  exact .inr ⟨c,k6⟩
theorem Rel.ro (R:Rel cx β F fm hm a w) {id z:Nat} {es:List V} {full:Bool} (ho:hm id=some (.live z es false full)) {bi:BI} {b:Nat} (hb:β id=some bi) (hbk:bi.blk=some b):F b:=by
 obtain⟨bi',hb',hok⟩:=R.hp id _ ho
 rw[hb] at hb';cases hb'
 unfold qCq at hok
 obtain⟨g1,g2,g3⟩:=hok
 simp only[hbk] at g3
 obtain⟨c,e,fz,k1,k2,k3,k4,k5,k6,k7⟩:=g3
 simpa using k7
theorem vE (R:Rel cx β F fm hm a w) : ∀ {n:Nat} {v v':V} {fz l fz':List Nat} {x:Value},(zE n v).run hm=some ((v',fz),l)→qL β F w v x→(∀ i∈fz,i∈fz')→qL β (qLg β F fz') w v' x
 | n,v,v',fz,l,fz',x,h,hx,hsub=>by
  have base : ∀ {u:V},qL β F w u x→qL β (qLg β F fz') w u x:=fun h=>h.mono (fun _ _ h=>h) (fun _ h=> .inl h) (fun _ _=>rfl)
  cases v with
  | t y=>cases n<;>(obtain⟨h1,_⟩:=qB h;cases h1;exact base hx)
  | nil=>cases n<;>(obtain⟨h1,_⟩:=qB h;cases h1;cases hx;exact .t .nil)
  | ro cs=>cases n<;>(obtain⟨h1,_⟩:=qB h;cases h1;exact base hx)
  | ref id i f=>cases n<;>(obtain⟨h1,_⟩:=qB h;cases h1;exact base hx)
  | bd g id i f=>cases n<;>(obtain⟨h1,_⟩:=qB h;cases h1;exact base hx)
  | bq=>cases n<;>cases h
  | tup cs=>cases n<;>cases h
  | agg cs=>
   cases n with
   | zero=>cases h
   | succ n=>
    simp only[zE] at h
    obtain⟨p,l1,l2,hp,h,_⟩:=qW h
    obtain⟨h1,_⟩:=qB h
    cases h1
    obtain⟨g1,g2⟩:=yE hp
    obtain⟨us,rfl,k1,k2,k3⟩:=hx.agg_inv
    refine qL.mk (by rw[k1,g1]) k2 (fun i c' u hc' hu=>?_)
    have hi:i<cs.length:=by rw[←g1];exact (List.getElem?_eq_some_iff.1 hc').1
    obtain⟨fzi,li,m1,m2⟩:=g2 i cs[i] c' (by simp[hi]) hc'
    exact vE R m1 (k3 i cs[i] u (by simp[hi]) hu) (fun j hj=>hsub j (m2 j hj))
  | fn f cs=>
   cases n with
   | zero=>cases h
   | succ n=>
    simp only[zE] at h
    obtain⟨p,l1,l2,hp,h,_⟩:=qW h
    obtain⟨h1,_⟩:=qB h
    cases h1
    obtain⟨g1,g2⟩:=yE hp
    cases hx with
    | fn _ _ us k1 k3=>
     refine .fn f _ us (by rw[k1,g1]) (fun i c' u hc' hu=>?_)
     have hi:i<cs.length:=by rw[←g1];exact (List.getElem?_eq_some_iff.1 hc').1
     obtain⟨fzi,li,m1,m2⟩:=g2 i cs[i] c' (by simp[hi]) hc'
     exact vE R m1 (k3 i cs[i] u (by simp[hi]) hu) (fun j hj=>hsub j (m2 j hj))
  | sl id off len=>
   cases n with
   | zero=>cases h
   | succ n=>
    simp only[zE] at h
    obtain⟨o,l',ho,h2,_⟩:=yF h
    cases o with
    | dead=>cases h2
    | live z es wr full=>
     obtain⟨hle,h3⟩:=qF h2
     have hbl : ∀ {fz0:List Nat},(∀ i∈(if wr then id::fz0 else fz0),i∈fz') → ∀ bi b,β id=some bi→bi.blk=some b→qLg β F fz' b:=by
      intro fz0 hs bi b hb hbk
      cases wr with
      | true=>exact .inr ⟨id,hs id (by simp),bi,hb,hbk⟩
      | false=>exact .inl (R.ro ho hb hbk)
     split at h3
     ·rename_i ts hts
      obtain⟨h1,_⟩:=qB h3
      cases h1
      have hes:=qA4 hts
      refine .t (qU7 R (fun _ h=> .inl h) ho hx hle (hbl (fz0:=[]) hsub) (qDa hts) (fun t ht=>?_) (fun i e t he ht j q c u hq hc hru _=>?_))
      ·obtain⟨i,hi⟩:=List.getElem?_of_mem ht
       rcases R.row ho with h0 | ⟨c,hc⟩
       ·rw[h0] at hts;simp[qCo] at hts;subst hts;simp at hi
       ·have:=(hc i (.t t) (by rw[hes,List.getElem?_map,hi];rfl)).1
        rw[qGm,List.length_map] at this
        exact this
      ·rw[hes,List.getElem?_map,ht] at he
       cases he
       obtain⟨c',hc',rfl⟩:=wP hq
       rw[hc] at hc';cases hc'
       cases hru with
       | t hru=>exact hru.mono (fun _ h=> .inl h) (fun _ _=>rfl)
     ·obtain⟨p,l1,l2,hp,h3,_⟩:=qW h3
      split at h3
      ·rename_i ts hts
       obtain⟨h1,_⟩:=qB h3
       cases h1
       obtain⟨g1,g2⟩:=yE hp
       have hpe:=qA4 hts
       have hfz : ∀ j∈p.2,j∈fz':=fun j hj=>hsub j (by cases wr<;>simp[hj])
       have key : ∀ (i:Nat) (e:V) (t:T),es[i]?=some e→ts[i]?=some t→(∀ u,e.cells[0]?=some e→qL β F w e u→u.oneCell'=true→e.cells=[e]→t.cells=[t])∧
         ((∃ cs,e = .agg cs)∨(∃ cs,e = .t (.agg cs))→t.cells.length=e.cells.length) ∧ ∀ (j:Nat) (q:V) (c:T) (u:Value),e.cells[j]?=some q→t.cells[j]?=some c→qL β F w q u→u.oneCell'=true→Rep (qLg β F fz') w c u:=by
        intro i e t he ht
        obtain⟨fzi,li,m1,m2⟩:=g2 i e (.t t) he (by rw[hpe,List.getElem?_map,ht];rfl)
        have one : ∀ u,qL β F w e u→u.oneCell'=true→Rep (qLg β F fz') w t u∧t.cells=[t]:=by
         intro u hru ho1
         have hr2:=vE R m1 hru (fun j hj=>hfz j (m2 j hj))
         have hc1:=hr2.one_cells ho1
         cases hr2 with
         | t hr2=>
          refine⟨hr2,?_⟩
          rw[qGm] at hc1
          cases t with
          | agg cs=>
           cases hr2 with
           | agg _ vs hl h1 h=>simp[Value.oneCell'] at ho1
          | _=>rfl
        have single:e.cells=[e] → ∀ (j:Nat) (q:V) (c:T) (u:Value),e.cells[j]?=some q→t.cells[j]?=some c→qL β F w q u→u.oneCell'=true→Rep (qLg β F fz') w c u:=by
         intro hec j q c u hq hc hru ho1
         rw[hec] at hq
         cases j with
         | succ j=>simp at hq
         | zero=>
          simp at hq;subst hq
          obtain⟨k1,k2⟩:=one u hru ho1
          rw[k2] at hc
          simp at hc;subst hc
          exact k1
        refine⟨fun u _ hru ho1 _=>(one u hru ho1).2,?_,?_⟩
        ·rintro (⟨cs,rfl⟩ | ⟨cs,rfl⟩)
         ·cases n with
          | zero=>cases m1
          | succ n=>
           simp only[zE] at m1
           obtain⟨p',_,_,hp',m1,_⟩:=qW m1
           obtain⟨h1,_⟩:=qB m1
           obtain⟨k1,k2⟩:=yE hp'
           have h2:V.mk p'.1 = .t t:=(Prod.mk.inj h1).1.symm
           unfold V.mk at h2
           split at h2
           ·rename_i ts' hts'
            cases h2
            show ts'.length=cs.length
            rw[qDa hts',k1]
           ·cases h2
         ·have h2:(V.t (.agg cs)) = .t t:=by cases n<;>(obtain⟨h1,_⟩:=qB m1;cases h1;rfl)
          cases h2
          rw[qGm,List.length_map]
        ·cases e with
         | agg cs=>
          intro j q c u hq hc hru ho1
          cases n with
          | zero=>cases m1
          | succ n=>
           simp only[zE] at m1
           obtain⟨p',_,_,hp',m1,_⟩:=qW m1
           obtain⟨h1,_⟩:=qB m1
           obtain⟨k1,k2⟩:=yE hp'
           have h2:V.mk p'.1 = .t t:=(Prod.mk.inj h1).1.symm
           have h2b:p'.2=fzi:=(Prod.mk.inj h1).2.symm
           unfold V.mk at h2
           split at h2
           ·rename_i ts' hts'
            cases h2
            have hc':ts'[j]?=some c:=hc
            obtain⟨fzj,lj,q1,q2⟩:=k2 j q (.t c) hq (by rw[qA4 hts',List.getElem?_map,hc'];rfl)
            have hr2:=vE R q1 hru (fun j hj=>hfz j (m2 j (by rw[←h2b];exact q2 j hj)))
            cases hr2 with
            | t hr2=>exact hr2
           ·cases h2
         | t y=>
          intro j q c u hq hc hru ho1
          have h2:(V.t y) = .t t:=by cases n<;>(obtain⟨h1,_⟩:=qB m1;cases h1;rfl)
          cases h2
          obtain⟨c',hc',rfl⟩:=wP hq
          rw[hc] at hc';cases hc'
          cases hru with
          | t hru=>exact hru.mono (fun _ h=> .inl h) (fun _ _=>rfl)
         | _=>exact single rfl
       refine .t (qU7 R (fun _ h=> .inl h) ho hx hle (hbl (fz0:=p.2) hsub) (by rw[qDa hts,g1]) (fun t ht=>?_) (fun i e t he ht=>(key i e t he ht).2.2))
       obtain⟨i,hi⟩:=List.getElem?_of_mem ht
       have hil:i<es.length:=by rw[←g1,←qDa hts];exact (List.getElem?_eq_some_iff.1 hi).1
       rcases R.row ho with h0 | ⟨c,hc⟩
       ·subst h0;simp at hil
       ·obtain⟨e,he⟩ : ∃ e,es[i]?=some e:=⟨es[i],by simp[hil]⟩
        obtain⟨k1,k2⟩:=hc i e he
        obtain⟨q1,q2,_⟩:=key i e t he hi
        have sing:e.cells=[e]→t.cells.length=z:=by
         intro hec
         obtain⟨u,hu,hru,ho1⟩:=k2 0 e (by rw[hec];rfl)
         rw[q1 u (by rw[hec];rfl) hru ho1 hec,←k1,hec];rfl
        cases e with
        | agg cs=>rw[q2 (.inl ⟨cs,rfl⟩),k1]
        | t y=>
         cases y with
         | agg cs=>rw[q2 (.inr ⟨cs,rfl⟩),k1]
         | _=>exact sing rfl
        | _=>exact sing rfl
      ·cases h3
 termination_by n=>n
end Go.Eng
end
section
namespace Go.Eng
variable {β:Nat→Option BI} {F:Nat→Prop} {w:World} {cx:Cx} {fm:Nat→Option V} {hm:Nat→Option Ob} {a:Act}
mutual
def V.noSl:V→Bool
 | .sl _ _ _=>false
 | .agg cs=>qPf cs
 | .tup cs=>qPf cs
 | .fn _ cs=>qPf cs
 | _=>true
def qPf:List V→Bool
 | []=>true
 | c::r=>c.noSl&&qPf r
end
theorem qIg : ∀ {cs:List V},qPf cs=true → ∀ c∈cs,c.noSl=true
 | [],_,c,hc=>by simp at hc
 | x::r,h,c,hc=>by
  simp only[qPf,Bool.and_eq_true] at h
  simp only[List.mem_cons] at hc
  rcases hc with rfl | hc
  ·exact h.1
  ·exact qIg h.2 c hc
theorem qZ9 : ∀ {cs:List V},(∀ c∈cs,c.noSl=true)→qPf cs=true
 | [],_=>rfl
 | x::r,h=>by
  simp only[qPf,Bool.and_eq_true]
  exact⟨h x (by simp),qZ9 (fun c hc=>h c (by simp[hc]))⟩
theorem qBh : ∀ {cs:List V} {c:V} {r:Nat},c∈cs→r∈c.refs→r∈kH cs
 | x::cs,c,r,hc,hr=>by
  simp only[kH,List.mem_append]
  simp only[List.mem_cons] at hc
  rcases hc with rfl | hc
  ·exact .inl hr
  ·exact .inr (qBh hc hr)
theorem zGp (ts:List T):kH (ts.map .t)=[]:=by
 induction ts with
 | nil=>rfl
 | cons x r ih=>simp[kH,V.refs,ih]
theorem zQu {cs:List V} (h:qPf cs=true):(V.mk cs).noSl=true:=by
 unfold V.mk;split
 ·rfl
 ·exact h
theorem qH0 : ∀ {n:Nat} {v v':V} {fz l:List Nat},(zE n v).run hm=some ((v',fz),l)→v'.noSl=true
 | n,v,v',fz,l,h=>by
  have list : ∀ {m:Nat} {cs cs':List V} {fz l:List Nat},m<n→(qA8 (zE m) cs).run hm=some ((cs',fz),l)→qPf cs'=true:=by
   intro m cs cs' fz l hlt h
   obtain⟨g1,g2⟩:=yE h
   refine qZ9 (fun c hc=>?_)
   obtain⟨i,hi⟩:=List.getElem?_of_mem hc
   have hil:i<cs.length:=by rw[←g1];exact (List.getElem?_eq_some_iff.1 hi).1
   obtain⟨fzi,li,m1,m2⟩:=g2 i cs[i] c (by simp[hil]) hi
   exact qH0 m1
  cases v with
  | t y=>cases n<;>(obtain⟨h1,_⟩:=qB h;cases h1;rfl)
  | nil=>cases n<;>(obtain⟨h1,_⟩:=qB h;cases h1;rfl)
  | ro cs=>cases n<;>(obtain⟨h1,_⟩:=qB h;cases h1;rfl)
  | ref id i f=>cases n<;>(obtain⟨h1,_⟩:=qB h;cases h1;rfl)
  | bd g id i f=>cases n<;>(obtain⟨h1,_⟩:=qB h;cases h1;rfl)
  | bq=>cases n<;>cases h
  | tup cs=>cases n<;>cases h
  | agg cs=>
   cases n with
   | zero=>cases h
   | succ n=>
    simp only[zE] at h
    obtain⟨p,l1,l2,hp,h,_⟩:=qW h
    obtain⟨h1,_⟩:=qB h
    cases h1
    exact zQu (list (Nat.lt_succ_self n) hp)
  | fn f cs=>
   cases n with
   | zero=>cases h
   | succ n=>
    simp only[zE] at h
    obtain⟨p,l1,l2,hp,h,_⟩:=qW h
    obtain⟨h1,_⟩:=qB h
    cases h1
    exact list (Nat.lt_succ_self n) hp
  | sl id off len=>
   cases n with
   | zero=>cases h
   | succ n=>
    simp only[zE] at h
    obtain⟨o,l',ho,h2,_⟩:=yF h
    cases o with
    | dead=>cases h2
    | live z es wr full=>
     obtain⟨hle,h3⟩:=qF h2
     split at h3
     ·obtain⟨h1,_⟩:=qB h3
      cases h1;rfl
     ·obtain⟨p,l1,l2,hp,h3,_⟩:=qW h3
      split at h3
      ·obtain⟨h1,_⟩:=qB h3
       cases h1;rfl
      ·cases h3
 termination_by n=>n
def qGb (ids:List Nat) (β:Nat→Option BI):Nat→Option BI:=fun k=>(ids[k]?).bind β
theorem qFn {ids:List Nat} {r:Nat} (h:r∈ids):qGb ids β (ids.idxOf r)=β r:=by
 unfold qGb
 have hlt:ids.idxOf r<ids.length:=List.idxOf_lt_length_of_mem h
 have:ids[ids.idxOf r]?=some r:=by
  rw[List.getElem?_eq_getElem hlt,List.getElem_idxOf]
 rw[this];rfl
theorem qU6 {ids:List Nat} {v:V} {x:Value} (h:qL β F w v x):v.noSl=true→(∀ r∈v.refs,r∈ids)→qL (qGb ids β) F w (v.ren (fun r=>ids.idxOf r)) x:=by
 induction h with
 | t h=>intro _ _;exact .t h
 | nil=>intro _ _;exact .nil
 | ref id i f b sz room hb=>intro _ hr;exact .ref _ i f b sz room (by rw[qFn (hr id (by simp[V.refs]))];exact hb)
 | bd g id i f b sz room hb=>intro _ hr;exact .bd g _ i f b sz room (by rw[qFn (hr id (by simp[V.refs]))];exact hb)
 | bq b=>intro _ _;exact .bq b
 | ro cs a news ha hn h1 hF hw h=>intro _ _;exact .ro cs a news ha hn h1 hF hw h
 | sl id off len cap b sz room a hb hlc hr ha hs=>intro h;simp[V.noSl] at h
 | slv id sz room hb=>intro h;simp[V.noSl] at h
 | agg cs vs hl h1 _ ih=>
  intro hn hr
  simp only[V.ren,zF]
  refine .agg _ vs (by simpa using hl) h1 (fun i c u hc hu=>?_)
  rw[List.getElem?_map,Option.map_eq_some_iff] at hc
  obtain⟨c',hc',rfl⟩:=hc
  have hm1:=List.mem_of_getElem? hc'
  exact ih i c' u hc' hu (qIg (by simpa [V.noSl] using hn) c' hm1) (fun r h=>hr r (by simp only[V.refs];exact qBh hm1 h))
 | tup cs vs hl _ ih=>
  intro hn hr
  simp only[V.ren,zF]
  refine .tup _ vs (by simpa using hl) (fun i c u hc hu=>?_)
  rw[List.getElem?_map,Option.map_eq_some_iff] at hc
  obtain⟨c',hc',rfl⟩:=hc
  have hm1:=List.mem_of_getElem? hc'
  exact ih i c' u hc' hu (qIg (by simpa [V.noSl] using hn) c' hm1) (fun r h=>hr r (by simp only[V.refs];exact qBh hm1 h))
 | fn f cs vs hl _ ih=>
  intro hn hr
  simp only[V.ren,zF]
  refine .fn f _ vs (by simpa using hl) (fun i c u hc hu=>?_)
  rw[List.getElem?_map,Option.map_eq_some_iff] at hc
  obtain⟨c',hc',rfl⟩:=hc
  have hm1:=List.mem_of_getElem? hc'
  exact ih i c' u hc' hu (qIg (by simpa [V.noSl] using hn) c' hm1) (fun r h=>hr r (by simp only[V.refs];exact qBh hm1 h))
def zY4 (hm:Nat→Option Ob) (fz:List Nat) (id:Nat) (o:Ob):Prop:=
 ∃ z es es' full fzk lk,hm id=some (.live z es true full)∧o = .live z es' true full∧(qA7 es).run hm=some ((es',fzk),lk) ∧ ∀ j∈fzk,j∈fz
def Ob.refs:Ob→List Nat
 | .live _ es _ _=>kH es
 | .dead=>[]
theorem qJe : ∀ {n:Nat} {todo ids:List Nat} {obs:List Ob} {fz ids':List Nat} {obs':List Ob} {fz' l:List Nat},(xN n todo ids obs fz).run hm=some ((ids',obs',fz'),l)→
  ids.Nodup→ids.length=obs.length→(∀ (k id:Nat) (o:Ob),ids[k]?=some id→obs[k]?=some o→zY4 hm fz id o)→(∀ o∈obs,∀ r∈o.refs,r∈ids∨r∈todo)→
  ids'.Nodup∧ids'.length=obs'.length∧(∀ (k id:Nat) (o:Ob),ids'[k]?=some id→obs'[k]?=some o→zY4 hm fz' id o)∧(∀ o∈obs',∀ r∈o.refs,r∈ids')∧(∀ r∈todo,r∈ids')∧(∀ r∈ids,r∈ids') ∧ ∀ j∈fz,j∈fz'
 | n,[],ids,obs,fz,ids',obs',fz',l,h,h1,h2,h3,h4=>by
  have h':(Q.ret (ids,obs,fz):Q _).run hm=some ((ids',obs',fz'),l):=by cases n<;>exact h
  obtain⟨e,_⟩:=qB h'
  cases e
  exact⟨h1,h2,h3,fun o ho r hr=>by simpa using h4 o ho r hr,by simp,fun _ h=>h,fun _ h=>h⟩
 | 0,_::_,ids,obs,fz,ids',obs',fz',l,h,_,_,_,_=>by cases h
 | n+1,id::todo,ids,obs,fz,ids',obs',fz',l,h,h1,h2,h3,h4=>by
  simp only[xN] at h
  split at h
  ·rename_i hc
   have hmem:id∈ids:=by simpa using hc
   obtain⟨k1,k2,k3,k4,k5,k6,k7⟩:=qJe h h1 h2 h3 (fun o ho r hr=>by
    rcases h4 o ho r hr with h | h
    ·exact .inl h
    ·simp only[List.mem_cons] at h
     rcases h with rfl | h
     ·exact .inl hmem
     ·exact .inr h)
   exact⟨k1,k2,k3,k4,fun r hr=>by
    simp only[List.mem_cons] at hr
    rcases hr with rfl | hr
    ·exact k6 _ hmem
    ·exact k5 r hr,k6,k7⟩
  ·rename_i hc
   have hnm:id ∉ ids:=by simpa using hc
   obtain⟨o,l',ho,hs2,_⟩:=yF h
   cases o with
   | dead=>cases hs2
   | live z es wr full=>
    cases wr with
    | false=>cases hs2
    | true=>
     obtain⟨p,l1,l2,hp,hs3,_⟩:=qW hs2
     have hobs : ∀ (k j:Nat) (o:Ob),(ids++[id])[k]?=some j→(obs++[Ob.live z p.1 true full])[k]?=some o→zY4 hm (fz++p.2) j o:=by
      intro k j o hk hko
      by_cases hlt:k<ids.length
      ·rw[List.getElem?_append_left hlt] at hk
       rw[List.getElem?_append_left (by omega)] at hko
       obtain⟨z1,e1,e2,f1,fk,lk,g1,g2,g3,g4⟩:=h3 k j o hk hko
       exact⟨z1,e1,e2,f1,fk,lk,g1,g2,g3,fun j hj=>by simp[g4 j hj]⟩
      ·rw[List.getElem?_append_right (by omega)] at hk hko
       have hk0:k-ids.length=0:=by
        rcases Nat.eq_zero_or_pos (k-ids.length) with h | h
        ·exact h
        ·rw[List.getElem?_eq_none (by simp;omega)] at hk;cases hk
       rw[hk0] at hk
       rw[show k-obs.length=0 by omega] at hko
       simp at hk hko
       subst hk hko
       exact⟨z,es,p.1,full,p.2,l1,ho,rfl,hp,fun j hj=>by simp[hj]⟩
     have href : ∀ r∈kH p.1,r∈ids++[id]∨r∈todo++(match qCo es with | some _=>[] | none=>kH p.1):=by
      intro r hr
      cases ha:qCo es with
      | none=>exact .inr (by simp only[List.mem_append];exact .inr hr)
      | some ts=>
       unfold qA7 at hp
       rw[ha] at hp
       obtain⟨e,_⟩:=qB hp
       rw[e,qA4 ha,zGp] at hr
       simp at hr
     obtain⟨k1,k2,k3,k4,k5,k6,k7⟩:=qJe hs3 (by
       rw[List.nodup_append]
       exact⟨h1,by simp,fun x hx y hy=>by simp at hy;subst hy;exact fun e=>hnm (e▸hx)⟩) (by simp[h2]) hobs (fun o ho' r hr=>by
      simp only[List.mem_append,List.mem_singleton] at ho'
      rcases ho' with ho' | rfl
      ·rcases h4 o ho' r hr with h | h
       ·exact .inl (by simp[h])
       ·simp only[List.mem_cons] at h
        rcases h with rfl | h
        ·exact .inl (by simp)
        ·exact .inr (by simp[h])
      ·exact href r hr)
     exact⟨k1,k2,k3,k4,fun r hr=>by
      simp only[List.mem_cons] at hr
      rcases hr with rfl | hr
      ·exact k6 _ (by simp)
      ·exact k5 r (by simp[hr]),fun r hr=>k6 r (by simp[hr]),fun j hj=>k7 j (by simp[hj])⟩
theorem qZv : ∀ {fz:List Nat} {fw:Wr} {l:List Nat},(qRt fz).run hm=some (fw,l)→(∀ id∈fz,100≤id ∧ ∃ z es full,hm id=some (.live z es true full)∧(id,Ob.live z es false full)∈fw)∧
  ∀ p∈fw,p.1∈fz ∧ ∃ z es full,hm p.1=some (.live z es true full)∧p.2 = .live z es false full
 | [],fw,l,h=>by
  obtain⟨e,_⟩:=qB h
  cases e
  exact⟨by simp,by simp⟩
 | id::r,fw,l,h=>by
  simp only[qRt] at h
  obtain⟨o,l',ho,hs2,_⟩:=yF h
  cases o with
  | dead=>cases hs2
  | live z es wr full=>
   cases wr with
   | false=>cases hs2
   | true=>
    obtain⟨h100,hs3⟩:=qF hs2
    obtain⟨q,l1,l2,hq,hs4,_⟩:=qW hs3
    obtain⟨e,_⟩:=qB hs4
    cases e
    obtain⟨g1,g2⟩:=qZv hq
    refine⟨fun i hi=>?_,fun p hp=>?_⟩
    ·simp only[List.mem_cons] at hi
     rcases hi with rfl | hi
     ·exact⟨h100,z,es,full,ho,by simp⟩
     ·obtain⟨m1,z',es',full',m2,m3⟩:=g1 i hi
      exact⟨m1,z',es',full',m2,by simp[m3]⟩
    ·simp only[List.mem_cons] at hp
     rcases hp with rfl | hp
     ·exact⟨by simp,z,es,full,ho,rfl⟩
     ·obtain⟨m1,m2⟩:=g2 p hp
      exact⟨by simp[m1],m2⟩
theorem Rel.freezeAll : ∀ {fz:List Nat} {hm hm0:Nat→Option Ob} {F:Nat→Prop} {fw:Wr} {l:List Nat},(qRt fz).run hm0=some (fw,l)→Rel cx β F fm hm a w→
  (∀ id∈fz,hm id=hm0 id ∨ ∃ z es full,hm0 id=some (.live z es true full)∧hm id=some (.live z es false full)) → ∃ F',Rel cx β F' fm (upd hm fw) a w ∧ ∀ b,F' b↔qLg β F fz b
 | [],hm,hm0,F,fw,l,h,R,_=>by
  obtain⟨e,_⟩:=qB h
  cases e
  exact⟨F,R,fun b=>⟨.inl,fun h=>by rcases h with h | ⟨i,hi,_⟩;exact h;simp at hi⟩⟩
 | id::r,hm,hm0,F,fw,l,h,R,hsame=>by
  simp only[qRt] at h
  obtain⟨o,l',ho,hs2,_⟩:=yF h
  cases o with
  | dead=>cases hs2
  | live z es wr full=>
   cases wr with
   | false=>cases hs2
   | true=>
    obtain⟨h100,hs3⟩:=qF hs2
    obtain⟨q,l1,l2,hq,hs4,_⟩:=qW hs3
    obtain⟨e,_⟩:=qB hs4
    cases e
    obtain⟨bi,hb,hfro,hR1⟩ : ∃ bi,β id=some bi∧(∀ b,(F b∨bi.blk=some b)↔qLg β F [id] b)∧Rel cx β (fun b=>F b∨bi.blk=some b) fm (upd hm [(id,.live z es false full)]) a w:=by
     have conv : ∀ {bi:BI},β id=some bi → ∀ b,(F b∨bi.blk=some b)↔qLg β F [id] b:=by
      intro bi hb b
      constructor
      ·intro h
       rcases h with h | h
       ·exact .inl h
       ·exact .inr ⟨id,by simp,bi,hb,h⟩
      ·intro h
       rcases h with h | ⟨i,hi,bi',h1,h2⟩
       ·exact .inl h
       ·simp at hi;subst hi;rw[hb] at h1;cases h1;exact .inr h2
     rcases hsame id (by simp) with h | ⟨z',es',full',h1,h2⟩
     ·rw[ho] at h
      obtain⟨bi,hb,_⟩:=R.hp id _ h
      exact⟨bi,hb,conv hb,R.freeze h h100 hb⟩
     ·rw[ho] at h1;cases h1
      obtain⟨bi,hb,_⟩:=R.hp id _ h2
      refine⟨bi,hb,conv hb,?_⟩
      have hupd:upd hm [(id,.live z es false full)]=hm:=by
       funext j
       by_cases hj:j=id
       ·subst hj;simp[upd,h2]
       ·simp[upd,hj]
      rw[hupd]
      have hFeq:(fun b=>F b∨bi.blk=some b)=F:=by
       funext b
       apply propext
       constructor
       ·intro h
        rcases h with h | h
        ·exact h
        ·exact R.ro h2 hb h
       ·exact .inl
      rw[hFeq];exact R
    obtain⟨F',hR2,hF'⟩:=Rel.freezeAll (hm:=upd hm [(id,.live z es false full)]) hq hR1 (fun i hi=>by
     by_cases hii:i=id
     ·subst hii
      exact .inr ⟨z,es,full,ho,zJ⟩
     ·rw[qI hii]
      exact hsame i (by simp[hi]))
    refine⟨F',hR2,fun b=>?_⟩
    rw[hF']
    constructor
    ·intro h
     rcases h with h | ⟨i,hi,bi',h1,h2⟩
     ·rcases (hfro b).1 h with h | ⟨i,hi,bi',h1,h2⟩
      ·exact .inl h
      ·simp at hi;subst hi;exact .inr ⟨i,by simp,bi',h1,h2⟩
     ·exact .inr ⟨i,by simp[hi],bi',h1,h2⟩
    ·intro h
     rcases h with h | ⟨i,hi,bi',h1,h2⟩
     ·exact .inl ((hfro b).2 (.inl h))
     ·simp only[List.mem_cons] at hi
      rcases hi with rfl | hi
      ·exact .inl ((hfro b).2 (.inr ⟨i,by simp,bi',h1,h2⟩))
      ·exact .inr ⟨i,hi,bi',h1,h2⟩
end Go.Eng
end
section
namespace Go.Eng
variable {β:Nat→Option BI} {F:Nat→Prop} {w:World} {cx:Cx} {fm:Nat→Option V} {hm:Nat→Option Ob} {a:Act}
def gam (ids:List Nat) (nb k:Nat):Nat:=
 match ids[k]? with
 | some id=>id
 | none=>nb+(k-ids.length)
def qG0 (ids:List Nat) (nb:Nat):Nat→List Ob→Wr
 | _,[]=>[]
 | k,o::r=>(gam ids nb k,o.ren (gam ids nb))::qG0 ids nb (k+1) r
theorem qJh (ids:List Nat) (nb:Nat) : ∀ (outs:List Ob) (k:Nat) (p:Nat×Ob),p∈qG0 ids nb k outs → ∃ j,j<outs.length∧p.1=gam ids nb (k+j)
 | [],_,p,h=>by simp[qG0] at h
 | o::r,k,p,h=>by
  simp only[qG0,List.mem_cons] at h
  rcases h with rfl | h
  ·exact⟨0,by simp,rfl⟩
  ·obtain⟨j,h1,h2⟩:=qJh ids nb r (k+1) p h
   exact⟨j+1,by simp;omega,by rw[h2];congr 1;omega⟩
theorem qB9 : ∀ {W:Wr} {hm:Nat→Option Ob} {id:Nat},(∀ p∈W,p.1≠id)→upd hm W id=hm id
 | [],_,_,_=>rfl
 | (i,o)::r,hm,id,h=>by
  rw[upd,qB9 (fun p hp=>h p (by simp[hp]))]
  rw[if_neg (fun e=>h (i,o) (by simp) e.symm)]
theorem zAz {ids:List Nat} {nb:Nat} : ∀ {outs:List Ob} {hm:Nat→Option Ob} {k:Nat},(∀ i j,i<k+outs.length→j<k+outs.length→gam ids nb i=gam ids nb j→i=j)→
  ∀ {j:Nat} {o:Ob},outs[j]?=some o→upd hm (qG0 ids nb k outs) (gam ids nb (k+j))=some (o.ren (gam ids nb))
 | [],_,_,_,j,o,h=>by simp at h
 | p::r,hm,k,hinj,j,o,h=>by
  simp only[qG0,upd]
  cases j with
  | zero=>
   simp at h;subst h
   rw[qB9 (fun q hq=>by
    obtain⟨i,h1,h2⟩:=qJh ids nb r (k+1) q hq
    intro e
    rw[h2] at e
    have:=hinj _ _ (by simp;omega) (by simp) e
    omega)]
   simp
  | succ j=>
   simp at h
   have:=zAz (hm:=fun i=>if i=gam ids nb k then some (p.ren (gam ids nb)) else hm i) (k:=k+1) (fun a b ha hb=>hinj a b (by simp at ha ⊢;omega) (by simp at hb ⊢;omega)) h
   rw[show k+(j+1)=k+1+j by omega]
   exact this
theorem qBe {l:List Nat} (h:l.Nodup) {i j:Nat} (hi:i<l.length) (hj:j<l.length) (e:l[i]=l[j]):i=j:=by
 unfold List.Nodup at h
 rw[List.pairwise_iff_getElem] at h
 rcases Nat.lt_trichotomy i j with h1 | h1 | h1
 ·exact absurd e (h i j hi hj h1)
 ·exact h1
 ·exact absurd e.symm (h j i hj hi h1)
theorem Rel.called {FA:Nat→Prop} {hmA:Nat→Option Ob} (R:Rel cx β FA fm hmA a w) {ids:List Nat} (hnd:ids.Nodup) (hlive : ∀ (k id:Nat),ids[k]?=some id → ∃ z es full,hmA id=some (.live z es true full))
  {βp:Nat→Option BI} {F':Nat→Prop} {w':World} {outs:List Ob} {nb:Nat} (fits:zIr βp F' w' outs) (old : ∀ (k id:Nat),ids[k]?=some id→βp k=β id)
  (new : ∀ (k:Nat) (bi:BI) (b:Nat),ids.length≤k→βp k=some bi→bi.blk=some b→w.heap.size≤b) (hF : ∀ b,b<w.heap.size→(F' b↔FA b)) (hFw : ∀ b,F' b→b<w'.heap.size)
  (hos:w'.os=w.os) (htp:w'.tape=w.tape) (hout:w'.output=w.output) (hsz:w.heap.size≤w'.heap.size)
  (frame : ∀ b,b<w.heap.size→(∀ (k id:Nat) (bi:BI),ids[k]?=some id→β id=some bi→bi.blk≠some b)→w'.heap[b]?=w.heap[b]?)
  (hlen:ids.length≤outs.length) (fresh : ∀ j,j<outs.length-ids.length→hmA (nb+j)=none) :
  ∃ βn,Rel cx βn F' fm (upd hmA (qG0 ids nb 0 outs)) a w'∧(∀ k bi,βp k=some bi→βn (gam ids nb k)=some bi)∧(∀ i bi,β i=some bi→βn i=some bi):=by
 have gold : ∀ k id,ids[k]?=some id→gam ids nb k=id:=fun k id h=>by simp[gam,h]
 have gnew : ∀ k,ids.length≤k→gam ids nb k=nb+(k-ids.length):=fun k h=>by simp[gam,List.getElem?_eq_none h]
 have glt : ∀ k,k<ids.length → ∃ id,ids[k]?=some id:=fun k h=>⟨ids[k],by simp[h]⟩
 have ginj : ∀ i j,i<0+outs.length→j<0+outs.length→gam ids nb i=gam ids nb j→i=j:=by
  intro i j hi hj h
  rcases Nat.lt_or_ge i ids.length with h1 | h1<;>rcases Nat.lt_or_ge j ids.length with h2 | h2
  ·obtain⟨x,hx⟩:=glt i h1
   obtain⟨y,hy⟩:=glt j h2
   rw[gold i x hx,gold j y hy] at h
   subst h
   have e1:ids[i]=x:=by simpa [h1] using hx
   have e2:ids[j]=x:=by simpa [h2] using hy
   exact qBe hnd h1 h2 (e1.trans e2.symm)
  ·obtain⟨x,hx⟩:=glt i h1
   obtain⟨z,es,full,hl⟩:=hlive i x hx
   rw[gold i x hx,gnew j h2] at h
   rw[h,fresh _ (by omega)] at hl;cases hl
  ·obtain⟨y,hy⟩:=glt j h2
   obtain⟨z,es,full,hl⟩:=hlive j y hy
   rw[gold j y hy,gnew i h1] at h
   rw[←h,fresh _ (by omega)] at hl;cases hl
  ·rw[gnew i h1,gnew j h2] at h;omega
 let inr:Nat→Prop:=fun id=>nb≤id∧id<nb+(outs.length-ids.length)
 have hdec : ∀ id,Decidable (inr id):=fun id=>by unfold inr;infer_instance
 let βn:Nat→Option BI:=fun id=>if nb≤id∧id<nb+(outs.length-ids.length) then βp (ids.length+(id-nb)) else β id
 have bnew : ∀ id,inr id→βn id=βp (ids.length+(id-nb)):=fun id h=>if_pos h
 have bold : ∀ id,¬ inr id→βn id=β id:=fun id h=>if_neg h
 have inrNone : ∀ id,inr id→hmA id=none:=by
  intro id h
  have:=fresh (id-nb) (by have:=h.1;have:=h.2;omega)
  rwa [show nb+(id-nb)=id by have:=h.1;omega] at this
 have bext : ∀ i bi,β i=some bi→βn i=some bi:=by
  intro i bi h
  rw[bold i (fun hi=>by rw[R.dom i (inrNone i hi)] at h;cases h)]
  exact h
 have bgam : ∀ k bi,βp k=some bi→βn (gam ids nb k)=some bi:=by
  intro k bi h
  have hk:k<outs.length:=by
   rcases Nat.lt_or_ge k outs.length with h1 | h1
   ·exact h1
   ·rw[fits.dom k h1] at h;cases h
  rcases Nat.lt_or_ge k ids.length with h1 | h1
  ·obtain⟨id,hid⟩:=glt k h1
   rw[gold k id hid]
   exact bext id bi (by rw[←old k id hid];exact h)
  ·rw[gnew k h1,bnew _ ⟨by omega,by omega⟩,show ids.length+(nb+(k-ids.length)-nb)=k by omega]
   exact h
 have key : ∀ id,(∃ k o,outs[k]?=some o∧gam ids nb k=id∧upd hmA (qG0 ids nb 0 outs) id=some (o.ren (gam ids nb)))∨((∀ k,k<outs.length→gam ids nb k≠id)∧upd hmA (qG0 ids nb 0 outs) id=hmA id):=by
  intro id
  by_cases h : ∃ k,k<outs.length∧gam ids nb k=id
  ·obtain⟨k,hk,hg⟩:=h
   left
   have:=zAz (hm:=hmA) (ids:=ids) (nb:=nb) (outs:=outs) (k:=0) ginj (j:=k) (o:=outs[k]) (by simp[hk])
   rw[Nat.zero_add,hg] at this
   exact⟨k,outs[k],by simp[hk],hg,this⟩
  ·right
   have hne : ∀ k,k<outs.length→gam ids nb k≠id:=fun k hk e=>h ⟨k,hk,e⟩
   refine⟨hne,qB9 (fun p hp=>?_)⟩
   obtain⟨j,h1,h2⟩:=qJh ids nb outs 0 p hp
   rw[h2,Nat.zero_add]
   exact hne j h1
 have hFA : ∀ b,FA b→F' b:=fun b hb=>(hF b (R.Fw b hb)).2 hb
 have hFblk : ∀ b,FA b→w'.heap[b]?=w.heap[b]?:=by
  intro b hb
  refine frame b (R.Fw b hb) (fun k id bi hk hbi hbk=>?_)
  obtain⟨z,es,full,hl⟩:=hlive k id hk
  exact R.notF hl hbi hbk hb
 have where_ : ∀ id o bi b,upd hmA (qG0 ids nb 0 outs) id=some o→o≠ .dead→βn id=some bi→bi.blk=some b→
   (inr id∧w.heap.size≤b∧βp (ids.length+(id-nb))=some bi)∨(¬ inr id∧β id=some bi∧b<w.heap.size ∧ ∃ o',hmA id=some o'∧o'≠ .dead):=by
  intro id o bi b ho hd hb hbk
  by_cases hi:inr id
  ·rw[bnew id hi] at hb
   exact .inl ⟨hi,new _ bi b (by omega) hb hbk,hb⟩
  ·rw[bold id hi] at hb
   refine .inr ⟨hi,hb,R.blt id bi b hb hbk,?_⟩
   rcases key id with⟨k,o2,hk,hg,hu⟩ | ⟨hne,hu⟩
   ·have hkl:k<outs.length:=(List.getElem?_eq_some_iff.1 hk).1
    rcases Nat.lt_or_ge k ids.length with h1 | h1
    ·obtain⟨x,hx⟩:=glt k h1
     rw[gold k x hx] at hg
     subst hg
     obtain⟨z,es,full,hl⟩:=hlive k x hx
     exact⟨_,hl,by simp⟩
    ·rw[gnew k h1] at hg
     exact absurd ⟨by omega,by omega⟩ hi
   ·rw[hu] at ho;exact⟨o,ho,hd⟩
 refine⟨βn,⟨R.tsz,R.dfr,fun t v hv=>?_,fun id o ho=>?_,fun id hn=>?_,fun i j bi bj b oi oj h1 h2 h3 h4 h5 h6 h7 h8=>?_,hos.trans R.os,htp.trans R.tape,hout.trans R.output,Nat.le_trans R.size hsz,fun b hb hib=>?_,fun id z es full bi b h1 h2 h3=>?_,fun b hib hFb=>?_,R.inw,hFw,fun b hb=>?_,fun id bi b h1 h2=>?_,fun g cs hg=>(R.gl g cs hg).mono bext hFA hFblk,fun k bi h=>bext _ _ (R.ext0 k bi h),fun g cs hg=>(R.gs g cs hg).mono (hFblk g (jC3 (R.gl g cs hg)))⟩,bgam,bext⟩
 ·obtain⟨x,h1,h2⟩:=R.fr t v hv
  exact⟨x,h1,h2.mono bext hFA hFblk⟩
 ·rcases key id with⟨k,o2,hk,hg,hu⟩ | ⟨hne,hu⟩
  ·rw[hu] at ho;cases ho
   obtain⟨bi,h1,h2,_⟩:=fits.ok k o2 hk
   refine⟨bi,by rw[←hg];exact bgam k bi h1,?_⟩
   exact qCq.ren (β:=βn) (ρ:=gam ids nb) (h2.mono (β':=fun k=>βn (gam ids nb k)) bgam (fun _ h=>h) (fun _ _=>rfl) (fun _ _ _=>⟨rfl,fun h=>h⟩))
  ·rw[hu] at ho
   obtain⟨bi,h1,h2⟩:=R.hp id o ho
   refine⟨bi,bext id bi h1,h2.mono bext hFA hFblk (fun b hbk hd=>⟨frame b (R.blt id bi b h1 hbk) (fun k id' bi' hk hbi' hbk'=>?_),fun h=>(hF b (R.blt id bi b h1 hbk)).1 h⟩)⟩
   obtain⟨z,es,full,hl⟩:=hlive k id' hk
   have:=R.inj id' id bi' bi b _ o hbi' h1 hbk' hbk hl ho (by simp) hd
   have hkl:k<ids.length:=(List.getElem?_eq_some_iff.1 hk).1
   exact hne k (by omega) (by rw[gold k id' hk];exact this)
 ·rcases key id with⟨k,o2,hk,hg,hu⟩ | ⟨hne,hu⟩
  ·rw[hu] at hn;cases hn
  ·rw[hu] at hn
   rw[bold id (fun hi=>by
    have:=hne (ids.length+(id-nb)) (by have:=hi.1;have:=hi.2;omega)
    rw[gnew _ (by omega)] at this
    have h1:=hi.1
    omega)]
   exact R.dom id hn
 ·rcases where_ i oi bi b h5 h7 h1 h3 with⟨a1,a2,a3⟩ | ⟨a1,a2,a3,o1,a4,a5⟩<;>rcases where_ j oj bj b h6 h8 h2 h4 with⟨b1,b2,b3⟩ | ⟨b1,b2,b3,o2,b4,b5⟩
  ·have:=fits.inj _ _ bi bj b a3 b3 h3 h4
   have e1:=a1.1
   have e2:=b1.1
   omega
  ·omega
  ·omega
  ·exact R.inj i j bi bj b o1 o2 a2 b2 h3 h4 a4 b4 a5 b5
 ·rw[frame b (Nat.lt_of_lt_of_le hb R.size) (fun k id bi hk hbi hbk=>?_)]
  ·exact R.ext b hb hib
  ·obtain⟨z,es,full,hl⟩:=hlive k id hk
   rcases R.old id z es full bi b hl hbi hbk with h | h
   ·omega
   ·exact hib h.2
 ·rcases where_ id _ bi b h1 (by simp) h2 h3 with⟨a1,a2,a3⟩ | ⟨a1,a2,a3,o1,a4,a5⟩
  ·exact .inl (Nat.le_trans R.size a2)
  ·rcases key id with⟨k,o2,hk,hg,hu⟩ | ⟨hne,hu⟩
   ·have hkl:k<outs.length:=(List.getElem?_eq_some_iff.1 hk).1
    rcases Nat.lt_or_ge k ids.length with h4 | h4
    ·obtain⟨x,hx⟩:=glt k h4
     rw[gold k x hx] at hg
     subst hg
     obtain⟨z',es',full',hl⟩:=hlive k x hx
     exact R.old x z' es' full' bi b hl a2 h3
    ·rw[gnew k h4] at hg
     exact absurd ⟨by omega,by omega⟩ a1
   ·rw[hu] at h1
    exact R.old id z es full bi b h1 a2 h3
 ·have:=R.inw b hib
  exact R.inF b hib ((hF b (by have:=R.size;omega)).1 hFb)
 ·exact (hF b (by have:=R.size;omega)).trans (R.F0 b hb)
 ·by_cases hi:inr id
  ·rw[bnew id hi] at h1
   exact (fits.blt _ bi b h1 h2).1
  ·rw[bold id hi] at h1
   have:=R.blt id bi b h1 h2
   omega
end Go.Eng
end
section
namespace Go.Eng
variable {β:Nat→Option BI} {F:Nat→Prop} {w:World} {cx:Cx} {fm:Nat→Option V} {hm:Nat→Option Ob} {a:Act}
abbrev FnS:=List V→List Ob→Option (V×List Ob)
abbrev Tab:=List (FuncId×FnS)
def Tab.look:Tab→FuncId→Option FnS
 | [],_=>none
 | (g,s)::r,f=>if g=f then some s else Tab.look r f
def qL5 (P:Program) (f:FuncId) (vals:Array Value) (w:World) (R:Ending→World→Prop):Prop:=
 (∃ g,(callFunc f vals).run P w = .ok (.enter g vals) w∧Calls P g vals w R)∨(∃ x w',(callFunc f vals).run P w = .ok (.value x) w'∧R (.returned x) w')
theorem qL5.mono {P:Program} {f:FuncId} {vals:Array Value} {w:World} {R R':Ending→World→Prop} (h:qL5 P f vals w R) (hr : ∀ e w',R e w'→R' e w'):qL5 P f vals w R':=by
 rcases h with⟨g,h1,h2⟩ | ⟨x,w',h1,h2⟩
 ·exact .inl ⟨g,h1,h2.mono hr⟩
 ·exact .inr ⟨x,w',h1,hr _ _ h2⟩
def zT3 (P:Program) (G:Nat→Option (List T)) (f:FuncId) (as:List V) (ins:List Ob) (r:V) (outs:List Ob):Prop:=
 ∀ (w:World) (β:Nat→Option BI) (F:Nat→Prop) (vals:Array Value),zDl G F w→zIr β F w ins→wU (qL β F w) as vals.toList→
  qL5 P f vals w (fun e w' => ∃ x β' F',e = .returned x∧qLh w β F ins r outs x β' F' w')
theorem zA4.e {P:Program} {G:Nat→Option (List T)} {f:FuncId} {as:List V} {ins:List Ob} {r:V} {outs:List Ob} (hc : ∀ args w,(callFunc f args).run P w = .ok (.enter f args) w) (h:zA4 P G f as ins r outs):zT3 P G f as ins r outs:=
 fun w β F vals h1 h2 h3=> .inl ⟨f,hc vals w,h w β F vals h1 h2 h3⟩
def FOk (P:Program) (G:Nat→Option (List T)) (f:FuncId) (s:FnS):Prop := ∀ as ins r outs,s as ins=some (r,outs)→zT3 P G f as ins r outs
theorem FOk.of {P:Program} {G:Nat→Option (List T)} {f:FuncId} {s:FnS} (hc : ∀ args w,(callFunc f args).run P w = .ok (.enter f args) w) (h : ∀ as ins r outs,s as ins=some (r,outs)→zA4 P G f as ins r outs):FOk P G f s:=
 fun as ins r outs hs=>(h as ins r outs hs).e hc
def qBm (P:Program) (G:Nat→Option (List T)) (tab:Tab):Prop := ∀ f s,tab.look f=some s→FOk P G f s
theorem qBm.nil {P:Program} {G:Nat→Option (List T)}:qBm P G []:=fun _ _ h=>by cases h
theorem qBm.cons {P:Program} {G:Nat→Option (List T)} {f:FuncId} {s:FnS} {tab:Tab} (h:FOk P G f s) (ht:qBm P G tab):qBm P G ((f,s)::tab):=by
 intro g s' hg
 unfold Tab.look at hg
 split at hg
 ·cases hg;subst_vars;exact h
 ·exact ht g s' hg
def qW7 {α:Type}:Nat→Nat→Q α→Q α
 | _,0,k=>k
 | nb,n+1,k=> .free nb (qW7 (nb+1) n k)
theorem qUl {α:Type} : ∀ {n nb:Nat} {q:Q α} {x:α} {l:List Nat},(qW7 nb n q).run hm=some (x,l)→(∀ j,j<n→hm (nb+j)=none) ∧ ∃ l',q.run hm=some (x,l')
 | 0,nb,q,x,l,h=>⟨by intro j hj;omega,l,h⟩
 | n+1,nb,q,x,l,h=>by
  obtain⟨h0,l',h1,_⟩:=vZ h
  obtain⟨h2,h3⟩:=qUl h1
  refine⟨fun j hj=>?_,h3⟩
  cases j with
  | zero=>exact h0
  | succ j=>rw[show nb+(j+1)=nb+1+j by omega];exact h2 j (by omega)
def qO8 (tab:Tab) (f:FuncId) (keep:Bool) (vs:List V) (nb:Nat):Q (V×Wr):=
 (qMt keep vs).bind fun cp=>
  (Q.of ((tab.look f).bind fun s=>s (qC6 (fun r=>cp.ids.idxOf r) cp.as) (cp.obs.map (Ob.ren fun r=>cp.ids.idxOf r)))).bind fun p=>
   Q.assert (cp.ids.length≤p.2.length∧(keep=true∨p.1.flat=true∧qW4 p.2=true))
    (qW7 nb (p.2.length-cp.ids.length) (.ret (p.1.ren (gam cp.ids nb),(if keep then cp.fw else [])++qG0 cp.ids nb 0 p.2)))
theorem qQ3 : ∀ {W W':Wr} {hm:Nat→Option Ob},upd hm (W++W')=upd (upd hm W) W'
 | [],_,_=>rfl
 | (i,o)::r,W',hm=>by simp only[List.cons_append,upd];exact qQ3
theorem qLs (cs:List V):(V.mk cs).cells=cs:=by
 unfold V.mk
 split
 ·rename_i ts h;rw[qA4 h];rfl
 ·rfl
theorem qTn (R:Rel cx β F fm hm a w) {n:Nat} {x x':V} {fz l fz':List Nat} (h:(zE n x).run hm=some ((x',fz),l)) (hsub : ∀ i∈fz,i∈fz') (hz:x.cells≠[])
  (hx : ∀ (j:Nat) (y:V),x.cells[j]?=some y → ∃ u,qL β F w y u∧u.oneCell'=true):x'.cells.length=x.cells.length∧
  ∀ (j:Nat) (y y':V) (u:Value),x.cells[j]?=some y→x'.cells[j]?=some y'→qL β F w y u→u.oneCell'=true→qL β (qLg β F fz') w y' u∧y'.noSl=true ∧ ∀ r∈y'.refs,r∈x'.refs:=by
 have one:x.cells=[x]→x'.cells.length=x.cells.length∧
  ∀ (j:Nat) (y y':V) (u:Value),x.cells[j]?=some y→x'.cells[j]?=some y'→qL β F w y u→u.oneCell'=true→qL β (qLg β F fz') w y' u∧y'.noSl=true ∧ ∀ r∈y'.refs,r∈x'.refs:=by
  intro hc
  obtain⟨u,hu,ho⟩:=hx 0 x (by rw[hc];rfl)
  have h1:=vE R h hu hsub
  have h2:=h1.one_cells ho
  rw[hc,h2]
  refine⟨rfl,fun j y y' u' hy hy' hr _=>?_⟩
  cases j with
  | succ j=>simp at hy
  | zero=>
   simp at hy hy';subst hy hy'
   exact⟨vE R h hr hsub,qH0 h,fun _ h=>h⟩
 cases x with
 | t y=>
  cases n<;>(
   obtain⟨h1,_⟩:=qB h
   cases h1
   refine⟨rfl,fun j y1 y' u hy hy' hr _=>?_⟩
   rw[hy] at hy';cases hy'
   refine⟨hr.mono (fun _ _ h=>h) (fun _ h=> .inl h) (fun _ _=>rfl),?_⟩
   obtain⟨c,hc,rfl⟩:=wP hy
   exact⟨rfl,by simp[V.refs]⟩)
 | agg cs=>
  cases n with
  | zero=>cases h
  | succ n=>
   simp only[zE] at h
   obtain⟨p,l1,l2,hp,h,_⟩:=qW h
   obtain⟨h1,_⟩:=qB h
   cases h1
   obtain⟨g1,g2⟩:=yE hp
   rw[qLs]
   refine⟨g1,fun j y y' u hy hy' hr _=>?_⟩
   obtain⟨fzi,li,m1,m2⟩:=g2 j y y' hy hy'
   refine⟨vE R m1 hr (fun i hi=>hsub i (m2 i hi)),qH0 m1,fun r hr=>?_⟩
   unfold V.mk
   split
   ·rename_i ts hts
    have:=List.mem_of_getElem? hy'
    rw[qA4 hts] at this
    simp only[List.mem_map] at this
    obtain⟨t,_,rfl⟩:=this
    simp[V.refs] at hr
   ·exact qBh (List.mem_of_getElem? hy') hr
 | nil=>exact one rfl
 | ref id i f=>exact one rfl
 | bd g id i f=>exact one rfl
 | bq=>exact one rfl
 | ro cs=>exact one rfl
 | sl id off len=>exact one rfl
 | tup cs=>exact one rfl
 | fn f cs=>exact one rfl
theorem zF8 (R:Rel cx β F fm hm a w) {F1:Nat→Prop} {fz':List Nat} (hF1 : ∀ b,F1 b↔qLg β F fz' b) {z:Nat} {es es':List V} {full:Bool} {bi:BI} {fz l:List Nat} (h:(qA7 es).run hm=some ((es',fz),l)) (hsub : ∀ i∈fz,i∈fz')
  (hok:qCq β F w bi (.live z es true full)) (hnF : ∀ b,bi.blk=some b → ¬ F1 b) {ids:List Nat} (hrefs : ∀ r∈kH es',r∈ids) :
  qCq (qGb ids β) F1 w bi ((Ob.live z es' true full).ren (fun r=>ids.idxOf r)):=by
 have hF:F1=qLg β F fz':=by funext b;exact propext (hF1 b)
 subst hF
 unfold qCq at hok
 obtain⟨g1,g2,g3⟩:=hok
 have hlen:es'.length=es.length:=by
  unfold qA7 at h
  split at h
  ·obtain⟨e,_⟩:=qB h;cases e;rfl
  ·exact (yE h).1
 simp only[Ob.ren,zF,qCq,List.length_map,hlen]
 refine⟨g1,g2,?_⟩
 cases hb:bi.blk with
 | none=>
  simp only[hb] at g3 ⊢
  refine⟨?_,g3.2⟩
  rw[g3.1] at hlen
  simp at hlen
  rw[hlen];rfl
 | some b=>
  simp only[hb] at g3 ⊢
  obtain⟨c,e,fzz,k1,k2,k3,k4,k5,k6,k7⟩:=g3
  refine⟨c,e,fzz,k1,k2,k3,k4,k5,fun i y hy=>?_,by simpa using hnF b hb⟩
  rw[List.getElem?_map,Option.map_eq_some_iff] at hy
  obtain⟨x',hx',rfl⟩:=hy
  have hi:i<es.length:=by rw[←hlen];exact (List.getElem?_eq_some_iff.1 hx').1
  obtain⟨m1,m2⟩:=k6 i es[i] (by simp[hi])
  have key:x'.cells.length=es[i].cells.length ∧ ∀ (j:Nat) (y y':V) (u:Value),es[i].cells[j]?=some y→x'.cells[j]?=some y'→qL β F w y u→u.oneCell'=true→qL β (qLg β F fz') w y' u∧y'.noSl=true ∧ ∀ r∈y'.refs,r∈kH es':=by
   unfold qA7 at h
   split at h
   ·rename_i ts hts
    obtain⟨e,_⟩:=qB h
    cases e
    have:x'=es[i]:=by rw[List.getElem?_eq_getElem hi] at hx';exact (Option.some.inj hx').symm
    subst this
    refine⟨rfl,fun j y y' u hy hy' hr _=>?_⟩
    rw[hy] at hy';cases hy'
    refine⟨hr.mono (fun _ _ h=>h) (fun _ h=> .inl h) (fun _ _=>rfl),?_⟩
    have hm1:es[i]∈es:=by simp
    have heq:=qA4 hts
    have hm2:es[i]∈ts.map V.t:=by rw[←heq];exact hm1
    simp only[List.mem_map] at hm2
    obtain⟨t,_,ht⟩:=hm2
    rw[←ht] at hy
    obtain⟨c,_,rfl⟩:=wP hy
    exact⟨rfl,by simp[V.refs]⟩
   ·obtain⟨h1,h2⟩:=yE h
    obtain⟨fzi,li,n1,n2⟩:=h2 i es[i] x' (by simp[hi]) hx'
    by_cases hz:es[i].cells=[]
    ·
     cases hx0:es[i] with
     | t y=>
      rw[hx0] at n1
      obtain⟨e,_⟩:=qB (x:=(V.t y,([]:List Nat))) n1
      cases e
      rw[hx0] at hz
      rw[hz];simp
     | agg cs=>
      rw[hx0] at n1 hz
      simp only[zE] at n1
      obtain⟨p,l1,l2,hp,n1,_⟩:=qW n1
      obtain⟨e,_⟩:=qB n1
      cases e
      rw[qLs,(yE hp).1]
      have:cs=[]:=hz
      subst this
      simp[V.cells]
     | _=>rw[hx0] at hz;simp[V.cells] at hz
    ·obtain⟨q1,q2⟩:=qTn R n1 (fz':=fz') (fun i hi=>hsub i (n2 i hi)) hz (fun j y hy=>let ⟨u,_,b,d⟩:=m2 j y hy;⟨u,b,d⟩)
     refine⟨q1,fun j y y' u hy hy' hr ho=>?_⟩
     obtain⟨s1,s2,s3⟩:=q2 j y y' u hy hy' hr ho
     exact⟨s1,s2,fun r hr=>qBh (List.mem_of_getElem? hx') (s3 r hr)⟩
  rw[qEs,zF,List.length_map,key.1]
  refine⟨m1,fun j y hy=>?_⟩
  rw[List.getElem?_map,Option.map_eq_some_iff] at hy
  obtain⟨y',hy',rfl⟩:=hy
  have hj:j<es[i].cells.length:=by rw[←key.1];exact (List.getElem?_eq_some_iff.1 hy').1
  obtain⟨u,hu,hr,ho⟩:=m2 j (es[i].cells[j]'hj) (by simp[hj])
  obtain⟨s1,s2,s3⟩:=key.2 j (es[i].cells[j]'hj) y' u (by simp[hj]) hy' hr ho
  exact⟨u,hu,qU6 s1 s2 (fun r hr=>hrefs r (s3 r hr)),ho⟩
end Go.Eng
end
section
namespace Go.Eng
variable {β:Nat→Option BI} {F:Nat→Prop} {w:World} {cx:Cx} {fm:Nat→Option V} {hm:Nat→Option Ob} {a:Act}
theorem zUu (R:Rel cx β F fm hm a w):zDl cx.gl F w:=by
 refine⟨R.Fw,fun g cs hg=>?_,R.gs⟩
 have:=R.gl g cs hg
 cases this with
 | ro _ a news ha hn h1 hF hw h=>exact .ro cs _ news ha hn h1 hF hw h
theorem qWw (R:Rel cx β F fm hm a w) {n:Nat} {vs as:List V} {fz l fz':List Nat} (h:(qA8 (zE n) vs).run hm=some ((as,fz),l)) (hsub : ∀ i∈fz,i∈fz') {vals:List Value} (hv:wU (qL β F w) vs vals) {ids:List Nat} (hr : ∀ r∈kH as,r∈ids) :
  wU (qL (qGb ids β) (qLg β F fz') w) (qC6 (fun r=>ids.idxOf r) as) vals:=by
 obtain⟨g1,g2⟩:=yE h
 rw[zF]
 have hlen:=hv.length
 have key : ∀ (as0:List V) (vals0:List Value),as0.length=vals0.length→(∀ (i:Nat) (c:V) (u:Value),as0[i]?=some c→vals0[i]?=some u→qL (qGb ids β) (qLg β F fz') w (c.ren fun r=>ids.idxOf r) u)→
   wU (qL (qGb ids β) (qLg β F fz') w) (as0.map (V.ren fun r=>ids.idxOf r)) vals0:=by
  intro as0
  induction as0 with
  | nil=>intro vals0 hl _;cases vals0 with
   | nil=>exact .nil
   | cons _ _=>simp at hl
  | cons c r ih=>intro vals0 hl h;cases vals0 with
   | nil=>simp at hl
   | cons u vals0=>
    exact .cons (h 0 c u rfl rfl) (ih vals0 (by simpa using hl) (fun i c u hc hu=>h (i+1) c u (by simpa using hc) (by simpa using hu)))
 refine key as vals (by rw[g1,hlen]) (fun i c u hc hu=>?_)
 have hi:i<vs.length:=by rw[←g1];exact (List.getElem?_eq_some_iff.1 hc).1
 obtain⟨fzi,li,m1,m2⟩:=g2 i vs[i] c (by simp[hi]) hc
 obtain⟨x,hx,hrx⟩:=hv.get i u hu
 have:x=vs[i]:=by rw[List.getElem?_eq_getElem hi] at hx;exact (Option.some.inj hx).symm
 subst this
 exact qU6 (vE R m1 hrx (fun j hj=>hsub j (m2 j hj))) (qH0 m1) (fun r hr'=>hr r (qBh (List.mem_of_getElem? hc) hr'))
theorem zAe (R:Rel cx β F fm hm a w) {n:Nat} {vs as:List V} {fz0 l1:List Nat} (hp:(qA8 (zE 4) vs).run hm=some ((as,fz0),l1)) {todo ids:List Nat} {obs:List Ob} {fzq l2:List Nat}
  (hq:(xN n todo [] [] []).run hm=some ((ids,obs,fzq),l2)) (htodo : ∀ r∈kH as,r∈todo) (hdis:(ids.all fun i => !(fz0++fzq).contains i)=true) {fw:Wr} {l3:List Nat} (hfw:(qRt (fz0++fzq)).run hm=some (fw,l3))
  {vals:List Value} (hv:wU (qL β F w) vs vals) :
  ∃ F1,Rel cx β F1 fm (upd hm fw) a w∧(∀ b,F b→F1 b)∧
   ids.Nodup∧ids.length=obs.length∧(∀ p∈fw,hm p.1≠none)∧
   (∀ (k id:Nat),ids[k]?=some id → ∃ z es full,hm id=some (.live z es true full)∧upd hm fw id=some (.live z es true full))∧
   zIr (qGb ids β) F1 w (obs.map (Ob.ren fun r=>ids.idxOf r))∧wU (qL (qGb ids β) F1 w) (qC6 (fun r=>ids.idxOf r) as) vals:=by
 obtain⟨k1,k2,k3,k4,k5,_,_⟩:=qJe hq (by simp) rfl (by intro k id o hk;simp at hk) (by simp)
 obtain⟨F1,R1,hF1⟩:=Rel.freezeAll hfw R (fun id _=> .inl rfl)
 obtain⟨n1,n2⟩:=qZv hfw
 have hnot : ∀ (k id:Nat),ids[k]?=some id→id ∉ fz0++fzq:=by
  intro k id hk
  have:=List.all_eq_true.1 hdis id (List.mem_of_getElem? hk)
  simpa using this
 have hkeepid : ∀ (k id:Nat),ids[k]?=some id→upd hm fw id=hm id:=fun k id hk=>qB9 (fun q hq e=>hnot k id hk (by rw[←e];exact (n2 q hq).1))
 have hob : ∀ (k id:Nat),ids[k]?=some id → ∃ o z es es' full fzk lk,obs[k]?=some o∧hm id=some (.live z es true full)∧o = .live z es' true full∧(qA7 es).run hm=some ((es',fzk),lk) ∧ ∀ j∈fzk,j∈fzq:=by
  intro k id hk
  have hkl:k<obs.length:=by rw[←k2];exact (List.getElem?_eq_some_iff.1 hk).1
  obtain⟨z,es,es',full,fzk,lk,g1,g2,g3,g4⟩:=k3 k id obs[k] hk (by simp[hkl])
  exact⟨_,z,es,es',full,fzk,lk,by simp[hkl],g1,g2,g3,g4⟩
 have hlive : ∀ (k id:Nat),ids[k]?=some id → ∃ z es full,hm id=some (.live z es true full)∧upd hm fw id=some (.live z es true full):=by
  intro k id hk
  obtain⟨o,z,es,es',full,fzk,lk,_,g1,_⟩:=hob k id hk
  exact⟨z,es,full,g1,by rw[hkeepid k id hk];exact g1⟩
 have hFeq:F1=qLg β F (fz0++fzq):=by funext b;exact propext (hF1 b)
 refine⟨F1,R1,fun b hb=>(hF1 b).2 (.inl hb),k1,k2,fun q hq=>?_,hlive,⟨fun k o ho=>?_,fun k hk=>?_,fun i j bi bj b h1 h2 h3 h4=>?_,fun k bi b h1 h2=>?_⟩,?_⟩
 ·obtain⟨_,z,es,full,h,_⟩:=n2 q hq
  rw[h];simp
 ·rw[List.getElem?_map,Option.map_eq_some_iff] at ho
  obtain⟨o',ho',rfl⟩:=ho
  have hkl:k<ids.length:=by rw[k2];exact (List.getElem?_eq_some_iff.1 ho').1
  obtain⟨o2,z,es,es',full,fzk,lk,g0,g1,g2,g3,g4⟩:=hob k ids[k] (by simp[hkl])
  rw[ho'] at g0;cases g0
  obtain⟨bi,hb,hok⟩:=R.hp _ _ g1
  have hnF : ∀ b,bi.blk=some b → ¬ F1 b:=by
   intro b hbk
   obtain⟨z',es2,full',_,h2⟩:=hlive k ids[k] (by simp[hkl])
   exact R1.notF h2 hb hbk
  refine⟨bi,by simp[qGb,hkl,hb],?_,?_⟩
  ·rw[g2]
   exact zF8 R hF1 g3 (fun i hi=>by simp[g4 i hi]) hok hnF (fun r hr=>k4 o' (List.mem_of_getElem? ho') r (by rw[g2];exact hr))
  ·rw[g2];exact⟨z,_,full,rfl⟩
 ·rw[List.length_map,←k2] at hk
  simp[qGb,List.getElem?_eq_none hk]
 ·unfold qGb at h1 h2
  rw[Option.bind_eq_some_iff] at h1 h2
  obtain⟨x,hx,h1⟩:=h1
  obtain⟨y,hy,h2⟩:=h2
  obtain⟨z1,e1,f1,m1,_⟩:=hlive i x hx
  obtain⟨z2,e2,f2,m2,_⟩:=hlive j y hy
  have:=R.inj x y bi bj b _ _ h1 h2 h3 h4 m1 m2 (by simp) (by simp)
  subst this
  have hi:i<ids.length:=(List.getElem?_eq_some_iff.1 hx).1
  have hj:j<ids.length:=(List.getElem?_eq_some_iff.1 hy).1
  exact qBe k1 hi hj (by rw[List.getElem?_eq_getElem hi] at hx;rw[List.getElem?_eq_getElem hj] at hy;rw[Option.some.inj hx,Option.some.inj hy])
 ·unfold qGb at h1
  rw[Option.bind_eq_some_iff] at h1
  obtain⟨x,hx,h1⟩:=h1
  obtain⟨z1,e1,f1,m1,m2⟩:=hlive k x hx
  exact⟨R.blt x bi b h1 h2,R1.notF m2 h1 h2⟩
 ·rw[hFeq]
  exact qWw R hp (fun i hi=>by simp[hi]) hv (fun r hr=>k5 r (htodo r hr))
theorem zGl (R:Rel cx β F fm hm a w) {keep:Bool} {vs:List V} {cp:CP} {l:List Nat} (h:(qMt keep vs).run hm=some (cp,l)) {vals:List Value} (hv:wU (qL β F w) vs vals) :
  ∃ F1,Rel cx β F1 fm (upd hm cp.fw) a w∧(∀ b,F b→F1 b)∧(keep=false → ∀ (k id:Nat),cp.ids[k]?=some id → ∃ z es full,hm id=some (.live z es true full))∧
   cp.ids.Nodup∧cp.ids.length=cp.obs.length∧(∀ p∈cp.fw,hm p.1≠none)∧
   (∀ (k id:Nat),cp.ids[k]?=some id → ∃ z es full,hm id=some (.live z es true full)∧upd hm cp.fw id=some (.live z es true full))∧
   zIr (qGb cp.ids β) F1 w (cp.obs.map (Ob.ren fun r=>cp.ids.idxOf r))∧wU (qL (qGb cp.ids β) F1 w) (qC6 (fun r=>cp.ids.idxOf r) cp.as) vals:=by
 unfold qMt at h
 obtain⟨p,l1,l2,hp,h,_⟩:=qW h
 obtain⟨q,l3,l4,hq,h,_⟩:=qW h
 obtain⟨⟨_,hdis⟩,h⟩:=qF h
 obtain⟨fw,l5,l6,hfw,h,_⟩:=qW h
 obtain⟨e,_⟩:=qB h
 cases e
 obtain⟨F1,g1,g2,g3,g4,g5,g6,g7,g8⟩:=zAe R hp hq (fun r h=>h) hdis hfw hv
 exact⟨F1,g1,g2,fun _ k id hk=>let ⟨z,es,full,h,_⟩:=g6 k id hk;⟨z,es,full,h⟩,g3,g4,g5,g6,g7,g8⟩
theorem zE1 {obs:List Ob} (h:qW4 obs=true) {k:Nat} {o:Ob} (ho:obs[k]?=some o):o.flat=true:=List.all_eq_true.1 h o (List.mem_of_getElem? ho)
theorem zA8 (R:Rel cx β F fm hm a w) {tab:Tab} (ht:qBm cx.P cx.gl tab) {f:FuncId} {keep:Bool} {vs:List V} {nb:Nat} {v:V} {W:Wr} {l:List Nat} (h:(qO8 tab f keep vs nb).run hm=some ((v,W),l)) {vals:Array Value} (hv:wU (qL β F w) vs vals.toList) :
  qL5 cx.P f vals w (fun e w' => ∃ x β' F',e = .returned x∧Rel cx β' F' fm (upd hm W) a w'∧qL β' F' w' v x):=by
 unfold qO8 at h
 obtain⟨cp,l1,l2,hcp,h,_⟩:=qW h
 obtain⟨p,hp,h⟩:=qC h
 obtain⟨⟨hlen,hflat⟩,h⟩:=qF h
 obtain⟨hfree,l',h⟩:=qUl h
 obtain⟨e,_⟩:=qB h
 cases e
 obtain⟨r,outs⟩:=p
 rw[Option.bind_eq_some_iff] at hp
 obtain⟨s,hs,hp⟩:=hp
 obtain⟨F1,R1,hFF1,hlive0,hnd,hlo,hfwl,hlive,fits,hargs⟩:=zGl R hcp hv
 simp only at hlen hflat hfree ⊢
 refine (ht f s hs _ _ r outs hp w (qGb cp.ids β) F1 vals (zUu R1) fits hargs).mono ?_
 rintro e w' ⟨x,βp,F',rfl,post⟩
 have hold : ∀ (k id:Nat),cp.ids[k]?=some id→βp k=β id:=by
  intro k id hk
  have hkl:k<cp.ids.length:=(List.getElem?_eq_some_iff.1 hk).1
  rw[post.old k (by rw[List.length_map,←hlo];exact hkl)]
  simp[qGb,hk]
 have hframe : ∀ b,b<w.heap.size→(∀ (k id:Nat) (bi:BI),cp.ids[k]?=some id→β id=some bi→bi.blk≠some b)→w'.heap[b]?=w.heap[b]?:=by
  intro b hb hk
  refine post.frame b hb (fun k bi hkb=>?_)
  unfold qGb at hkb
  rw[Option.bind_eq_some_iff] at hkb
  obtain⟨id,h1,h2⟩:=hkb
  exact hk k id bi h1 h2
 have hnew : ∀ (k:Nat) (bi:BI) (b:Nat),cp.ids.length≤k→βp k=some bi→bi.blk=some b→w.heap.size≤b:=by
  intro k bi b hk h1 h2
  exact post.new k bi b (by rw[List.length_map,←hlo];exact hk) h1 h2
 cases keep with
 | true=>
  obtain⟨βn,R2,hg,_⟩:=Rel.called R1 hnd (fun k id hk=>let ⟨z,es,full,_,h2⟩:=hlive k id hk;⟨z,es,full,h2⟩) post.fits hold hnew post.F post.Fw post.os post.tape post.output post.size hframe hlen (nb:=nb)
   (fun j hj=>by
    rw[qB9 (fun q hq e=>hfwl q hq (by rw[e];exact hfree j hj))]
    exact hfree j hj)
  refine⟨x,βn,F',rfl,?_,?_⟩
  ·simp only[if_true,qQ3];exact R2
  ·exact qL.ren (β:=βn) (ρ:=gam cp.ids nb) (post.res.mono (β':=fun k=>βn (gam cp.ids nb k)) hg (fun _ h=>h) (fun _ _=>rfl))
 | false=>
  have hfl:r.flat=true∧qW4 outs=true:=by simpa using hflat
  let F2:Nat→Prop:=fun b=>(b<w.heap.size∧F b)∨(w.heap.size≤b∧F' b)
  have hF2o : ∀ b,b<w.heap.size→(F2 b↔F b):=fun b hb=>⟨fun h=>by
   rcases h with h | h
   ·exact h.2
   ·omega,fun h=> .inl ⟨hb,h⟩⟩
  have hblkF2 : ∀ (k:Nat) (bi:BI) (b:Nat),βp k=some bi→bi.blk=some b → ¬ F2 b:=by
   intro k bi b h1 h2 hF2
   rcases hF2 with⟨hb,hF⟩ | ⟨hb,hF⟩
   ·rcases Nat.lt_or_ge k cp.ids.length with hk | hk
    ·obtain⟨z,es,full,hl⟩:=hlive0 rfl k cp.ids[k] (by simp[hk])
     exact R.notF hl (by rw[←hold k cp.ids[k] (by simp[hk])];exact h1) h2 hF
    ·have:=hnew k bi b hk h1 h2;omega
   ·exact (post.fits.blt k bi b h1 h2).2 hF
  have fits2:zIr βp F2 w' outs:=by
   refine⟨fun k o ho=>?_,post.fits.dom,post.fits.inj,fun k bi b h1 h2=>⟨(post.fits.blt k bi b h1 h2).1,hblkF2 k bi b h1 h2⟩⟩
   obtain⟨bi,h1,h2,z,es,full,rfl⟩:=post.fits.ok k o ho
   have hfo:=zE1 hfl.2 ho
   exact⟨bi,h1,h2.flat hfo (fun b hb=>hblkF2 k bi b h1 hb),z,es,full,rfl⟩
  obtain⟨βn,R2,hg,_⟩:=Rel.called R hnd (fun k id hk=>let ⟨z,es,full,h1,_⟩:=hlive k id hk;⟨z,es,full,h1⟩) fits2 hold hnew hF2o (fun b hb=>by
    rcases hb with⟨h1,_⟩ | ⟨_,h2⟩
    ·have:=post.size;omega
    ·exact post.Fw b h2) post.os post.tape post.output post.size hframe hlen (nb:=nb) hfree
  refine⟨x,βn,F2,rfl,?_,?_⟩
  ·simpa using R2
  ·exact qL.ren (β:=βn) (ρ:=gam cp.ids nb) ((post.res.flat hfl.1).mono (β':=fun k=>βn (gam cp.ids nb k)) hg (fun _ h=>h) (fun _ _=>rfl))
end Go.Eng
end
section
namespace Go.Eng
variable {β:Nat→Option BI} {F:Nat→Prop} {w:World} {cx:Cx} {fm:Nat→Option V} {hm:Nat→Option Ob} {a:Act}
inductive qCp where
 | tmp (t:Nat)
 | cst (v:V)
 | glob (g:Nat)
 deriving Inhabited
inductive AK where
 | op (ao:AO)
 | call (f:FuncId) (keep:Bool)
 | callv (keep:Bool)
 deriving Inhabited
structure zM where
 dst:Option Nat
 k:AK
 args:List qCp
 guard:Option (Nat×Bool)
 deriving Inhabited
abbrev Gl:=Nat→Option (List T)
def qCp.val (gl:Gl) (fm:Nat→Option V):qCp→Option V
 | .tmp t=>fm t
 | .cst v=>some v
 | .glob g=>(gl g).map .ro
def kJ (gl:Gl) (fm:Nat→Option V):List qCp→Option (List V)
 | []=>some []
 | x::r=>(x.val gl fm).bind fun v=>(kJ gl fm r).map (v :: ·)
def AK.q (tab:Tab) (nb:Nat):AK→List V→Q (V×Wr)
 | .op ao,vs=>sem ao vs nb
 | .call f keep,vs=>qO8 tab f keep vs nb
 | .callv keep,.fn f caps::rest=>qO8 tab f keep (rest++caps) nb
 | .callv keep,.bd g id i f::rest=>qO8 tab g keep (.ref id i f::rest) nb
 | .callv _,_=> .fail
def zM.go (tab:Tab) (gl:Gl) (o:zM) (fm:Nat→Option V) (nb:Nat):Q (V×Wr):=
 (Q.of (kJ gl fm o.args)).bind fun vs=>o.k.q tab nb vs
def qCj (fm:Nat→Option V):Option (Nat×Bool)→Option Bool
 | none=>some true
 | some (t,want)=>match fm t with
  | some (.t (.bool b))=>some (b==want)
  | some (.tup [])=>some false
  | _=>none
def zM.q (tab:Tab) (gl:Gl) (o:zM) (fm:Nat→Option V) (nb:Nat):Q (V×Wr):=
 (Q.of (qCj fm o.guard)).bind fun g=>if g then o.go tab gl fm nb else .ret (.tup [],[])
def qPi (fm:Nat→Option V) (d:Option Nat) (v:V):Nat→Option V:=fun t=>if d=some t then some v else fm t
def zK7:Operand→Option qCp
 | .tmp t=>some (.tmp t)
 | .const v=>(V.ofConst v).map .cst
 | .global g=>some (.glob g)
 | .func f=>some (.cst (.fn f []))
def zAb:List Operand→Option (List qCp)
 | []=>some []
 | x::r=>(zK7 x).bind fun y=>(zAb r).map (y :: ·)
def zFx (P:Program) (keep:Bool):Op→Option (AK×List Operand)
 | .call { callee:= .value (.func f),args,.. }=>some (.call f keep,args.toList)
 | .call { callee:= .value (.tmp t),args,.. }=>some (.callv keep,.tmp t::args.toList)
 | op=>(zDt P op).map fun p=>(.op (if keep then p.1.cut else p.1),p.2)
def qXa (ops:Array Oper):Option (Nat×Bool)→Option (Option (Nat×Bool))
 | none=>some none
 | some (j,want)=>((ops[j]?).bind (·.dst)).map fun t=>some (t,want)
def zUn (nt:Nat):Option Nat→Bool
 | some d=>decide (d<nt)
 | none=>true
def zKf (P:Program) (keep:Bool) (op:Op):Option (AK×List qCp):=(zFx P keep op).bind fun p=>(zAb p.2).map fun xs=>(p.1,xs)
def zT6 (P:Program) (nt:Nat) (ops:Array Oper) (keep:Bool) (o:Oper):Option zM:=
 (qXa ops o.guard).bind fun g=>
  if zUn nt o.dst=true then some (match zKf P keep o.op with | some p=>⟨o.dst,p.1,p.2,g⟩ | none=>⟨o.dst,.op .bad,[],g⟩) else none
theorem qN4 (R:Rel cx β F fm hm a w) {x:Operand} {y:qCp} (h:zK7 x=some y) {v:V} (hv:y.val cx.gl fm=some v):qL β F w v (a.eval x):=by
 cases x with
 | tmp t=>
  cases h
  obtain⟨x,h1,h2⟩:=R.fr t v hv
  have:a.eval (.tmp t)=x:=by simp[Act.eval,h1]
  rw[this];exact h2
 | const c=>
  simp only[zK7,Option.map_eq_some_iff] at h
  obtain⟨u,hu,rfl⟩:=h
  cases hv
  exact kF hu
 | global g=>
  cases h
  simp only[qCp.val,Option.map_eq_some_iff] at hv
  obtain⟨cs,hcs,rfl⟩:=hv
  exact R.gl g cs hcs
 | func f=>
  cases h
  cases hv
  exact .fn f [] #[] rfl (by intro i c u hc;simp at hc)
theorem qQr (R:Rel cx β F fm hm a w) : ∀ {xs:List Operand} {ys:List qCp} {vs:List V},zAb xs=some ys→kJ cx.gl fm ys=some vs→wU (fun x v=>qL β F w v (a.eval x)) xs vs
 | [],ys,vs,h,hv=>by cases h;cases hv;exact .nil
 | x::r,ys,vs,h,hv=>by
  simp only[zAb,Option.bind_eq_some_iff,Option.map_eq_some_iff] at h
  obtain⟨y,hy,zs,hz,rfl⟩:=h
  simp only[kJ,Option.bind_eq_some_iff,Option.map_eq_some_iff] at hv
  obtain⟨v,hv,us,hu,rfl⟩:=hv
  exact .cons (qN4 R hy hv) (qQr R hz hu)
theorem qRc {xs:List Operand} {vs:List V} {a:Act} (h:wU (fun x v=>qL β F w v (a.eval x)) xs vs):wU (qL β F w) vs (xs.map a.eval):=by
 induction h with
 | nil=>exact .nil
 | cons h _ ih=>exact .cons h ih
theorem zIw {α γ:Type} {R:α→γ→Prop} {xs xs':List α} {ys ys':List γ} (h:wU R xs ys) (h':wU R xs' ys'):wU R (xs++xs') (ys++ys'):=by
 induction h with
 | nil=>exact h'
 | cons h _ ih=>exact .cons h ih
theorem qWi {vs:List V} {us:List Value} (hl:us.length=vs.length) (h : ∀ (i:Nat) (c:V) (u:Value),vs[i]?=some c→us[i]?=some u→qL β F w c u):wU (qL β F w) vs us:=by
 induction vs generalizing us with
 | nil=>cases us with
  | nil=>exact .nil
  | cons _ _=>simp at hl
 | cons c r ih=>cases us with
  | nil=>simp at hl
  | cons u us=>exact .cons (h 0 c u rfl rfl) (ih (by simpa using hl) (fun i c u hc hu=>h (i+1) c u (by simpa using hc) (by simpa using hu)))
theorem Rel.put (R:Rel cx β F fm hm a w) {d:Option Nat} (hd : ∀ t,d=some t→t<cx.nt) {v:V} {x:Value} (hx:qL β F w v x):Rel cx β F (qPi fm d v) hm (a.put d x) w:=by
 cases d with
 | none=>
  have:qPi fm none v=fm:=by funext t;simp[qPi]
  rw[this];exact R
 | some t=>
  refine⟨by simp[Act.put,R.tsz],R.dfr,fun t' v' hv'=>?_,R.hp,R.dom,R.inj,R.os,R.tape,R.output,R.size,R.ext,R.old,R.inF,R.inw,R.Fw,R.F0,R.blt,R.gl,R.ext0,R.gs⟩
  unfold qPi at hv'
  split at hv'
  ·rename_i h
   cases h;cases hv'
   exact⟨x,by simp[Act.put,R.tsz,hd _ rfl],hx⟩
  ·rename_i h
   obtain⟨y,h1,h2⟩:=R.fr t' v' hv'
   exact⟨y,by simp only[Act.put];rw[Array.getElem?_setIfInBounds_ne (fun e=>h (by rw[e]))];exact h1,h2⟩
theorem qXc (R:Rel cx β F fm hm a w) {ops:Array Oper} {o:Oper} {g:Option (Nat×Bool)} (hg:qXa ops o.guard=some g) {b:Bool} (hb:qCj fm g=some b):Region.wanted o (yielded ops a.tmps)=b:=by
 unfold Region.wanted
 cases ho:o.guard with
 | none=>
  rw[ho] at hg;cases hg;cases hb;rfl
 | some p=>
  obtain⟨j,want⟩:=p
  rw[ho] at hg
  simp only[qXa,Option.map_eq_some_iff] at hg
  obtain⟨t,ht,rfl⟩:=hg
  simp only[qCj] at hb
  simp only[yielded,ht,Option.bind_some]
  cases hf:fm t with
  | none=>rw[hf] at hb;cases hb
  | some v=>
   obtain⟨x,h1,h2⟩:=R.fr t v hf
   rw[h1]
   rw[hf] at hb
   split at hb
   ·rename_i b' h
    cases h;cases hb
    rw[h2.bool_inv]
    cases b'<;>cases want<;>rfl
   ·rename_i h
    cases h;cases hb
    cases h2 with
    | tup _ vs hl _=>
     simp only
     cases want<;>rfl
   ·cases hb
theorem qQ6 (R:Rel cx β F fm hm a w) {tab:Tab} (ht:qBm cx.P cx.gl tab) {ops:Array Oper} {i:Nat} {o:Oper} {ao:zM} {keep:Bool} (ho:ops[i]?=some o) (hag:zT6 cx.P cx.nt ops keep o=some ao)
  {nb:Nat} {v:V} {W:Wr} {l:List Nat} (hq:(ao.q tab cx.gl fm nb).run hm=some ((v,W),l)) {K:Act→World→Prop} {Qx:Exit→Act→World→Prop}
  (hK : ∀ β' F' a' w',Rel cx β' F' (qPi fm ao.dst v) (upd hm W) a' w'→K a' w'):wpOp cx.P ops Qx i K a w:=by
 unfold zT6 at hag
 simp only[Option.bind_eq_some_iff] at hag
 obtain⟨g,hg,hag⟩:=hag
 split at hag
 ·rename_i hd
  have hag:=Option.some.inj hag
  obtain⟨kd,ys,hkx,rfl⟩ : ∃ kd ys,(zKf cx.P keep o.op=some (kd,ys)∨kd = .op .bad)∧ao=⟨o.dst,kd,ys,g⟩:=by
   cases hk:zKf cx.P keep o.op with
   | none=>rw[hk] at hag;exact⟨_,_,.inr rfl,hag.symm⟩
   | some p=>rw[hk] at hag;exact⟨p.1,p.2,.inl rfl,hag.symm⟩
  simp only at hq hK
  have hd' : ∀ t,o.dst=some t→t<cx.nt:=by
   intro t e
   rw[e] at hd
   simpa [zUn] using hd
  unfold zM.q at hq
  obtain⟨b,hb,hq⟩:=qC hq
  have hw:=qXc R hg hb
  unfold wpOp
  simp only[ho,hw]
  cases b with
  | false=>
   simp only[Bool.false_eq_true,if_false] at hq ⊢
   obtain⟨e,_⟩:=qB hq
   cases e
   exact hK β F _ _ (R.put hd' (.tup [] #[] rfl (by intro i c u hc;simp at hc)))
  | true=>
   simp only[if_true] at hq ⊢
   refine .inl ?_
   unfold zM.go at hq
   obtain⟨vs,hvs,hq2⟩:=qC hq
   clear hq
   rcases hkx with hkx | hbad
   case inr=>rw[hbad] at hq2;cases hq2
   unfold zKf at hkx
   simp only[Option.bind_eq_some_iff,Option.map_eq_some_iff] at hkx
   obtain⟨⟨kd',xs⟩,hkd,ys',hys,hkeq⟩:=hkx
   simp only[Prod.mk.injEq] at hkeq
   obtain⟨rfl,rfl⟩:=hkeq
   have hall:=qQr R hys hvs
   simp only at hall hkd hq2
   unfold Oper.wp
   have call : ∀ {f:FuncId} {us:List V} {vals:Array Value},execOp a.eval o=callFunc f vals→(qO8 tab f keep us nb).run hm=some ((v,W),l)→wU (qL β F w) us vals.toList→o.upon cx.P a K Qx ((execOp a.eval o).run cx.P w):=by
    intro f us vals he hq hv
    rw[he]
    rcases zA8 R ht hq hv with⟨g,h1,h2⟩ | ⟨x,w',h1,x',β',F',e,R',hx⟩
    ·rw[h1]
     simp only[Oper.upon]
     refine h2.mono ?_
     rintro e w' ⟨x,β',F',rfl,R',hx⟩
     exact hK β' F' _ _ (R'.put hd' hx)
    ·cases e
     rw[h1]
     exact hK β' F' _ _ (R'.put hd' hx)
   have plain:(zDt cx.P o.op).map (fun p=>(AK.op (if keep then p.1.cut else p.1),p.2))=some (kd',xs)→o.upon cx.P a K Qx ((execOp a.eval o).run cx.P w):=by
    intro h
    simp only[Option.map_eq_some_iff] at h
    obtain⟨⟨ao,zs⟩,hao,e⟩:=h
    simp only[Prod.mk.injEq] at e
    obtain⟨rfl,rfl⟩:=e
    have hq3:(sem (if keep then ao.cut else ao) vs nb).run hm=some ((v,W),l):=hq2
    have fin:zNe cx β F fm hm a w v W (execOp a.eval o):=by
     rcases AO.cut_or ao with⟨z,b,rfl,hc⟩ | hc
     ·cases keep
      ·exact qR4 R hao hall hq3
      ·rw[if_pos rfl,hc] at hq3
       exact qUx R hao hall hq3
     ·have e:(if keep then ao.cut else ao)=ao:=by rw[hc,ite_self]
      rw[e] at hq3
      exact qR4 R hao hall hq3
    obtain⟨n,w',β',x,h1,h2,h3,h4,h5⟩:=fin
    rw[h1]
    rcases h2 with rfl | ⟨rfl,rfl⟩
    ·exact hK β' F _ _ (h3.put hd' h4)
    ·exact hK β' F _ _ (h3.put hd' h4)
   obtain⟨dst,op,ty,pos,after,guard⟩:=o
   cases op with
   | call c=>
    obtain⟨callee,args,ts⟩:=c
    cases callee with
    | value fo=>
     cases fo with
     | tmp t=>
      simp only[zFx,Option.some.injEq,Prod.mk.injEq] at hkd
      obtain⟨rfl,rfl⟩:=hkd
      cases hall with
      | cons hx hrest=>
       rename_i u us
       cases u<;>simp only[AK.q] at hq2<;>(try (cases hq2;done))
       ·rename_i f caps
        generalize h0:a.eval (.tmp t)=y0 at hx
        cases hx with
        | fn _ _ cvs hl hc=>
         refine call (vals:=args.map a.eval++cvs) ?_ hq2 ?_
         ·simp only[execOp,resolve,h0,Deferred.ofValue]
          simp[invoke,pure_bind]
         ·have h1:=qRc hrest
          have h2:wU (qL β F w) caps cvs.toList:=qWi (by simpa using hl) (fun i c u hc' hu=>hc i c u hc' (by simpa using hu))
          simpa using zIw h1 h2
       ·rename_i g id i fo
        generalize h0:a.eval (.tmp t)=y0 at hx
        cases hx with
        | bd _ _ _ _ b sz room hb=>
         refine call (vals := #[.pointer (some ⟨b,i*sz+fo,none⟩)]++args.map a.eval) ?_ hq2 ?_
         ·simp only[execOp,resolve,h0,Deferred.ofValue]
          simp[invoke,pure_bind]
         ·have h1:=qRc hrest
          have h2:qL β F w (.ref id i fo) (.pointer (some ⟨b,i*sz+fo,none⟩)):= .ref id i fo b sz room hb
          simpa using wU.cons h2 h1
     | func f=>
      simp only[zFx,Option.some.injEq,Prod.mk.injEq] at hkd
      obtain⟨rfl,rfl⟩:=hkd
      refine call (vals:=args.map a.eval) ?_ hq2 ?_
      ·have:execOp a.eval ⟨dst,.call ⟨.value (.func f),args,ts⟩,ty,pos,after,guard⟩=callFunc f (#[]++args.map a.eval ++ #[]):=rfl
       rw[this];simp
      ·simpa using qRc hall
     | const c=>exact plain hkd
     | global g=>exact plain hkd
    | invoke r m=>exact plain hkd
    | builtin b=>exact plain hkd
   | _=>exact plain hkd
 ·cases hag
end Go.Eng
end
section
namespace Go.Eng
variable {β:Nat→Option BI} {F:Nat→Prop} {w:World} {cx:Cx} {fm:Nat→Option V} {hm:Nat→Option Ob} {a:Act}
inductive Lex (tab:Tab) (gl:Gl):List zM→Nat→(Nat→Option V)→(Nat→Option Ob)→List (V×Wr×List Nat)→(Nat→Option V)→(Nat→Option Ob)→Prop
 | nil {nb:Nat} {fm:Nat→Option V} {hm:Nat→Option Ob}:Lex tab gl [] nb fm hm [] fm hm
 | cons {o:zM} {r:List zM} {nb:Nat} {fm fm':Nat→Option V} {hm hm':Nat→Option Ob} {v:V} {W:Wr} {l:List Nat} {tr:List (V×Wr×List Nat)}
   (h:(o.q tab gl fm nb).run hm=some ((v,W),l)) (t:Lex tab gl r (nb+16) (qPi fm o.dst v) (upd hm W) tr fm' hm'):Lex tab gl (o::r) nb fm hm ((v,W,l)::tr) fm' hm'
def zA0 (P:Program) (nt:Nat) (ops:Array Oper):Nat→List zM→Prop
 | i,[]=>ops.size=i
 | i,ao::r=>(∃ o keep,ops[i]?=some o∧zT6 P nt ops keep o=some ao)∧zA0 P nt ops (i+1) r
theorem zFz {tab:Tab} (ht:qBm cx.P cx.gl tab) {ops:Array Oper} {Qx:Exit→Act→World→Prop} : ∀ {aos:List zM} {i nb:Nat} {β:Nat→Option BI} {F:Nat→Prop} {fm fm':Nat→Option V} {hm hm':Nat→Option Ob} {tr:List (V×Wr×List Nat)} {a:Act} {w:World},
  zA0 cx.P cx.nt ops i aos→Lex tab cx.gl aos nb fm hm tr fm' hm'→Rel cx β F fm hm a w→(∀ β' F' a' w',Rel cx β' F' fm' hm' a' w'→Qx .normal a' w') → ∀ l,l=(List.range ops.size).drop i→wpOps cx.P ops Qx l a w
 | [],i,nb,β,F,fm,fm',hm,hm',tr,a,w,hag,hl,R,hQ,l,hl'=>by
  cases hl
  have:l=[]:=by
   rw[hl',List.drop_eq_nil_iff,List.length_range,hag]
   exact Nat.le_refl _
  subst this
  exact hQ β F a w R
 | ao::r,i,nb,β,F,fm,fm',hm,hm',tr,a,w,hag,hl,R,hQ,l,hl'=>by
  cases hl with
  | cons h t=>
   obtain⟨⟨o,keep,ho,hk⟩,hag'⟩:=hag
   have hi:i<ops.size:=(Array.getElem?_eq_some_iff.1 ho).1
   have:l=i::(List.range ops.size).drop (i+1):=by
    rw[hl',List.drop_eq_getElem_cons (by simpa using hi)]
    simp
   subst this
   rw[wpOps_cons]
   exact qQ6 R ht ho hk h (fun β' F' a' w' R'=>zFz ht hag' t R' hQ _ rfl)
def SF (D:Nat→Option Nat) (v:Nat→V) (sel:Nat→Bool) (fm:Nat→Option V):Nat→(Nat→Option V)
 | 0=>fm
 | n+1=>if sel n then qPi (SF D v sel fm n) (D n) (v n) else SF D v sel fm n
def SH (W:Nat→Wr) (sel:Nat→Bool) (hm:Nat→Option Ob):Nat→(Nat→Option Ob)
 | 0=>hm
 | n+1=>if sel n then upd (SH W sel hm n) (W n) else SH W sel hm n
def yZ (W:Wr):List Nat:=W.map (·.1)
theorem qSo : ∀ {W:Wr} {hm hm':Nat→Option Ob} {id:Nat},id∈yZ W→upd hm W id=upd hm' W id
 | [],_,_,_,h=>by simp[yZ] at h
 | (i,o)::r,hm,hm',id,h=>by
  simp only[upd]
  by_cases hr:id∈yZ r
  ·exact qSo hr
  ·have hi:id=i:=by
    simp only[yZ,List.map_cons,List.mem_cons] at h hr
    rcases h with h | h
    ·exact h
    ·exact absurd h hr
   have miss : ∀ p∈r,p.1≠id:=fun p hp e=>hr (by simp only[yZ,List.mem_map];exact⟨p,hp,e⟩)
   rw[qB9 miss,qB9 miss,if_pos hi,if_pos hi]
theorem xR {W:Wr} {hm:Nat→Option Ob} {id:Nat} (h:id ∉ yZ W):upd hm W id=hm id:=
 qB9 (fun p hp e=>h (by simp only[yZ,List.mem_map];exact⟨p,hp,e⟩))
theorem zMz {W W':Wr} {hm:Nat→Option Ob} (h : ∀ id,id∈yZ W→id ∉ yZ W'):upd (upd hm W) W'=upd (upd hm W') W:=by
 funext id
 by_cases h1:id∈yZ W
 ·rw[xR (h id h1),qSo (hm:=hm) (hm':=upd hm W') h1]
 ·by_cases h2:id∈yZ W'
  ·rw[qSo (hm:=upd hm W) (hm':=hm) h2,xR h1]
  ·rw[xR h2,xR h1,xR h1,xR h2]
theorem zGn {fm:Nat→Option V} {d e:Option Nat} {v u:V} (h : ∀ t,d=some t→e≠some t):qPi (qPi fm d v) e u=qPi (qPi fm e u) d v:=by
 funext t
 unfold qPi
 by_cases h1:d=some t
 ·have:=h t h1
  simp[h1,this]
 ·simp[h1]
section
variable {D:Nat→Option Nat} {v:Nat→V} {W:Nat→Wr} {sel sel':Nat→Bool}
theorem qQ8 {t:Nat} : ∀ {n:Nat},(∀ j,j<n→D j=some t→sel j=sel' j)→SF D v sel fm n t=SF D v sel' fm n t
 | 0,_=>rfl
 | n+1,h=>by
  have ih:=qQ8 (n:=n) (fun j hj=>h j (by omega))
  simp only[SF]
  by_cases hd:D n=some t
  ·have e:=h n (by omega) hd
   rw[e]
   split
   ·simp[qPi,hd]
   ·exact ih
  ·split<;>split<;>simp[qPi,hd,ih]
theorem zNg {t i:Nat} : ∀ {n:Nat},i≤n→(∀ j,i≤j→j<n→D j=some t→sel j=false)→SF D v sel fm n t=SF D v sel fm i t
 | 0,h,_=>by rw[Nat.le_zero.1 h]
 | n+1,h,hs=>by
  rcases Nat.lt_or_ge n i with h1 | h1
  ·rw[show i=n+1 by omega]
  ·rw[←zNg (n:=n) h1 (fun j h2 h3=>hs j h2 (by omega))]
   simp only[SF]
   split
   ·rename_i hsn
    by_cases hd:D n=some t
    ·rw[hs n h1 (by omega) hd] at hsn;cases hsn
    ·simp[qPi,hd]
   ·rfl
theorem qRa {id:Nat} : ∀ {n:Nat},(∀ j,j<n→id∈yZ (W j)→sel j=sel' j)→SH W sel hm n id=SH W sel' hm n id
 | 0,_=>rfl
 | n+1,h=>by
  have ih:=qRa (n:=n) (fun j hj=>h j (by omega))
  simp only[SH]
  by_cases hd:id∈yZ (W n)
  ·have e:=h n (by omega) hd
   rw[e]
   split
   ·exact qSo hd
   ·exact ih
  ·split<;>split<;>simp only[xR hd,ih]
theorem zNi {id i:Nat} : ∀ {n:Nat},i≤n→(∀ j,i≤j→j<n→id∈yZ (W j)→sel j=false)→SH W sel hm n id=SH W sel hm i id
 | 0,h,_=>by rw[Nat.le_zero.1 h]
 | n+1,h,hs=>by
  rcases Nat.lt_or_ge n i with h1 | h1
  ·rw[show i=n+1 by omega]
  ·rw[←zNi (n:=n) h1 (fun j h2 h3=>hs j h2 (by omega))]
   simp only[SH]
   split
   ·rename_i hsn
    by_cases hd:id∈yZ (W n)
    ·rw[hs n h1 (by omega) hd] at hsn;cases hsn
    ·exact xR hd
   ·rfl
def wT (sel:Nat→Bool) (i:Nat):Nat→Bool:=fun j=>if j=i then true else sel j
theorem zNf {i:Nat} (hi:sel i=false) : ∀ {n:Nat},(∀ j,i<j→j<n→sel j=true → ∀ t,D i=some t→D j≠some t)→SF D v (wT sel i) fm n=if i<n then qPi (SF D v sel fm n) (D i) (v i) else SF D v sel fm n
 | 0,_=>by simp[SF]
 | n+1,h=>by
  have ih:=zNf (n:=n) hi (fun j h1 h2=>h j h1 (by omega))
  simp only[SF]
  rw[ih]
  by_cases hn:n=i
  ·subst hn
   simp[wT,hi]
  ·have e:wT sel i n=sel n:=by simp[wT,hn]
   rw[e]
   by_cases hlt:i<n
   ·have hlt':i<n+1:=by omega
    rw[if_pos hlt,if_pos hlt']
    split
    ·rename_i hs
     exact zGn (h n hlt (by omega) hs)
    ·rfl
   ·have hlt' : ¬ i<n+1:=by omega
    rw[if_neg hlt,if_neg hlt']
theorem zNh {i:Nat} (hi:sel i=false) : ∀ {n:Nat},(∀ j,i<j→j<n→sel j=true → ∀ id,id∈yZ (W i)→id ∉ yZ (W j))→SH W (wT sel i) hm n=if i<n then upd (SH W sel hm n) (W i) else SH W sel hm n
 | 0,_=>by simp[SH]
 | n+1,h=>by
  have ih:=zNh (n:=n) hi (fun j h1 h2=>h j h1 (by omega))
  simp only[SH]
  rw[ih]
  by_cases hn:n=i
  ·subst hn
   simp[wT,hi]
  ·have e:wT sel i n=sel n:=by simp[wT,hn]
   rw[e]
   by_cases hlt:i<n
   ·have hlt':i<n+1:=by omega
    rw[if_pos hlt,if_pos hlt']
    split
    ·rename_i hs
     exact zMz (h n hlt (by omega) hs)
    ·rfl
   ·have hlt' : ¬ i<n+1:=by omega
    rw[if_neg hlt,if_neg hlt']
end
def zM.slots (o:zM):List Nat:=
 (o.args.filterMap fun | .tmp t=>some t | _=>none)++(match o.guard with | some (t,_)=>[t] | none=>[])
theorem qKz {gl:Gl} {fm fm':Nat→Option V} : ∀ {xs:List qCp},(∀ t,qCp.tmp t∈xs→fm t=fm' t)→kJ gl fm xs=kJ gl fm' xs
 | [],_=>rfl
 | x::r,h=>by
  have ih:=qKz (gl:=gl) (xs:=r) (fun t ht=>h t (by simp[ht]))
  have:x.val gl fm=x.val gl fm':=by
   cases x with
   | tmp t=>exact h t (by simp)
   | _=>rfl
  simp only[kJ,this,ih]
theorem zRa {tab:Tab} {gl:Gl} {o:zM} {fm fm':Nat→Option V} {nb:Nat} (h : ∀ t∈o.slots,fm t=fm' t):o.q tab gl fm nb=o.q tab gl fm' nb:=by
 have h1:kJ gl fm o.args=kJ gl fm' o.args:=qKz (fun t ht=>h t (by
  unfold zM.slots
  rw[List.mem_append]
  exact .inl (List.mem_filterMap.2 ⟨_,ht,rfl⟩)))
 have h2:qCj fm o.guard=qCj fm' o.guard:=by
  cases hg:o.guard with
  | none=>rfl
  | some p=>
   obtain⟨t,want⟩:=p
   have:=h t (by unfold zM.slots;rw[hg];simp)
   simp only[qCj,this]
 simp only[zM.q,zM.go,h1,h2]
end Go.Eng
end
section
namespace Go.Eng
variable {β:Nat→Option BI} {F:Nat→Prop} {w:World} {cx:Cx} {fm:Nat→Option V} {hm:Nat→Option Ob} {a:Act}
theorem qQ9 {D:Nat→Option Nat} {v:Nat→V} : ∀ {n:Nat} {fm:Nat→Option V},SF D v (fun _=>true) fm (n+1)=SF (fun i=>D (i+1)) (fun i=>v (i+1)) (fun _=>true) (qPi fm (D 0) (v 0)) n
 | 0,_=>rfl
 | n+1,fm=>by
  rw[SF,qQ9 (n:=n)]
  simp only[SF,if_true]
theorem qRb {W:Nat→Wr} : ∀ {n:Nat} {hm:Nat→Option Ob},SH W (fun _=>true) hm (n+1)=SH (fun i=>W (i+1)) (fun _=>true) (upd hm (W 0)) n
 | 0,_=>rfl
 | n+1,hm=>by
  rw[SH,qRb (n:=n)]
  simp only[SH,if_true]
def trV (tr:List (V×Wr×List Nat)) (i:Nat):V:=(tr.getD i (.nil,[],[])).1
def trW (tr:List (V×Wr×List Nat)) (i:Nat):Wr:=(tr.getD i (.nil,[],[])).2.1
def trL (tr:List (V×Wr×List Nat)) (i:Nat):List Nat:=(tr.getD i (.nil,[],[])).2.2
def aoD (aos:List zM) (i:Nat):Option Nat:=(aos.getD i default).dst
theorem Lex.index {tab:Tab} {gl:Gl} {aos:List zM} {nb:Nat} {fm fm':Nat→Option V} {hm hm':Nat→Option Ob} {tr:List (V×Wr×List Nat)} (h:Lex tab gl aos nb fm hm tr fm' hm') :
  (∀ i ao,aos[i]?=some ao→(ao.q tab gl (SF (aoD aos) (trV tr) (fun _=>true) fm i) (nb+16*i)).run (SH (trW tr) (fun _=>true) hm i)=some ((trV tr i,trW tr i),trL tr i))∧
   fm'=SF (aoD aos) (trV tr) (fun _=>true) fm aos.length∧hm'=SH (trW tr) (fun _=>true) hm aos.length:=by
 induction h with
 | nil=>exact⟨by intro i ao h;simp at h,rfl,rfl⟩
 | cons h _ ih=>
  rename_i o r nb fm fm' hm hm' v W l tr t
  obtain⟨h1,h2,h3⟩:=ih
  refine⟨fun i ao hi=>?_,?_,?_⟩
  ·cases i with
   | zero=>
    simp at hi;subst hi
    exact h
   | succ i=>
    simp at hi
    rw[qQ9,qRb]
    have:=h1 i ao hi
    rw[show nb+16*(i+1)=nb+16+16*i by omega]
    exact this
  ·rw[List.length_cons,qQ9];exact h2
  ·rw[List.length_cons,qRb];exact h3
def qWk (anc:List Nat):List Edge→Nat
 | []=>0
 | e::r=>if Region.binds .any e then qWk anc r ||| (1 <<< e.on) ||| anc.getD e.on 0 else qWk anc r
theorem qMi {anc:List Nat} : ∀ {es:List Edge} {x:Nat},(qWk anc es).testBit x=true → ∃ e∈es,Region.binds .any e=true∧(x=e.on∨(anc.getD e.on 0).testBit x=true)
 | [],x,h=>by simp[qWk] at h
 | e::r,x,h=>by
  unfold qWk at h
  split at h
  ·rename_i hb
   rw[Nat.testBit_or,Nat.testBit_or,Bool.or_eq_true,Bool.or_eq_true] at h
   rcases h with (h | h) | h
   ·obtain⟨e',h1,h2,h3⟩:=qMi h
    exact⟨e',by simp[h1],h2,h3⟩
   ·refine⟨e,by simp,hb,.inl ?_⟩
    rw[Nat.one_shiftLeft,Nat.testBit_two_pow] at h
    exact (of_decide_eq_true h).symm
   ·exact⟨e,by simp,hb,.inr h⟩
  ·obtain⟨e',h1,h2,h3⟩:=qMi h
   exact⟨e',by simp[h1],h2,h3⟩
def zYr:List Oper→List Nat→List Nat
 | [],acc=>acc
 | o::r,acc=>zYr r (acc++[qWk acc o.after.toList])
def zYv (xs ys:List Nat):Bool:=xs.all fun x => !ys.contains x
theorem qH4 {xs ys:List Nat} (h:zYv xs ys=true) : ∀ x,x∈xs→x ∉ ys:=by
 intro x hx hy
 have:=List.all_eq_true.1 h x hx
 simp at this
 exact this hy
def apartS (x y:zM):Bool:=
 (match x.dst with
 | some d => !y.slots.contains d&&y.dst != some d
 | none=>true) &&
 (match y.dst with
 | some d => !x.slots.contains d
 | none=>true)
def zHl (anc:List Nat) (aos:List zM):Bool:=
 (List.range aos.length).all fun j=>(List.range j).all fun i=>(anc.getD j 0).testBit i||apartS (aos.getD i default) (aos.getD j default)
def zEp (anc:List Nat) (ops:List Oper):Bool:=
 (List.range ops.length).all fun i=>(ops.getD i default).after.toList.all (fun e => !Region.binds .any e||decide (e.on<i))&&anc.getD i 0==qWk anc (ops.getD i default).after.toList
def apartW (x y:List Nat×List Nat):Bool:=zYv x.1 y.1&&zYv x.1 y.2&&zYv x.2 y.1
def chk (anc:List Nat) (tr:List (List Nat×List Nat)):Bool:=
 (List.range tr.length).all fun j=>(List.range j).all fun i=>(anc.getD j 0).testBit i||apartW (tr.getD i ([],[])) (tr.getD j ([],[]))
def cnt (sel:Nat→Bool):Nat→Nat
 | 0=>0
 | n+1=>cnt sel n+if sel n then 0 else 1
theorem zEb {sel:Nat→Bool} {i:Nat} (hi:sel i=false) : ∀ {n:Nat},cnt (wT sel i) n+(if i<n then 1 else 0)=cnt sel n
 | 0=>by simp[cnt]
 | n+1=>by
  have ih:=zEb hi (n:=n)
  simp only[cnt]
  by_cases hn:n=i
  ·subst hn
   simp[wT,hi] at ih ⊢
   omega
  ·have e:wT sel i n=sel n:=by simp[wT,hn]
   rw[e]
   by_cases hlt:i<n
   ·have:i<n+1:=by omega
    simp only[hlt,this,if_true] at ih ⊢;omega
   ·have : ¬ i<n+1:=by omega
    simp only[hlt,this,if_false] at ih ⊢;omega
theorem qZk {sel:Nat→Bool} : ∀ {n:Nat},cnt sel n=0 → ∀ i,i<n→sel i=true
 | 0,_,i,h=>by omega
 | n+1,h,i,hi=>by
  simp only[cnt] at h
  by_cases hn:i=n
  ·subst hn
   cases hs:sel i
   ·rw[hs] at h;simp at h
   ·rfl
  ·exact qZk (n:=n) (by omega) i (by omega)
theorem qMg {P:Program} {nt:Nat} {ops:Array Oper} : ∀ {aos:List zM} {i:Nat},zA0 P nt ops i aos→ops.size=i+aos.length ∧ ∀ j ao,aos[j]?=some ao → ∃ o keep,ops[i+j]?=some o∧zT6 P nt ops keep o=some ao
 | [],i,h=>⟨h,by intro j ao hj;simp at hj⟩
 | x::r,i,h=>by
  obtain⟨⟨o,keep,h1,h2⟩,h3⟩:=h
  obtain⟨g1,g2⟩:=qMg h3
  refine⟨by rw[g1,List.length_cons];omega,fun j ao hj=>?_⟩
  cases j with
  | zero=>simp at hj;subst hj;exact⟨o,keep,h1,h2⟩
  | succ j=>
   simp at hj
   rw[show i+(j+1)=i+1+j by omega]
   exact g2 j ao hj
theorem qNx {α:Type} {l:List α} {i:Nat} {d x:α} (h:l[i]?=some x):l.getD i d=x:=by simp[List.getD,h]
theorem zQc {tab:Tab} (ht:qBm cx.P cx.gl tab) {ops:Array Oper} {Qx:Exit→Act→World→Prop} {aos:List zM} {anc:List Nat} {nb:Nat} {fm':Nat→Option V} {hm':Nat→Option Ob} {tr:List (V×Wr×List Nat)}
  (hag:zA0 cx.P cx.nt ops 0 aos) (hlex:Lex tab cx.gl aos nb fm hm tr fm' hm') (hedge:zEp anc ops.toList=true) (hslot:zHl anc aos=true)
  (hw : ∀ i j,i<j→j<ops.size→(anc.getD j 0).testBit i=true∨apartW (yZ (trW tr i),trL tr i) (yZ (trW tr j),trL tr j)=true)
  (hQ : ∀ β' F' a' w',Rel cx β' F' fm' hm' a' w'→Qx .normal a' w') :
  ∀ (fuel:Nat) (listed:Array Bool) (sel:Nat→Bool) (β:Nat→Option BI) (F:Nat→Prop) (a:Act) (w:World),listed.size=ops.size→(∀ i,i<ops.size→listed.getD i true=sel i∧listed.getD i false=sel i)→cnt sel ops.size=fuel→
   (∀ i o,sel i=true→ops[i]?=some o → ∀ e∈o.after,Region.binds .any e=true→sel e.on=true)→Rel cx β F (SF (aoD aos) (trV tr) sel fm ops.size) (SH (trW tr) sel hm ops.size) a w→wpAny cx.P .any ops Qx fuel listed a w:=by
 obtain⟨hidx,hfm',hhm'⟩:=hlex.index
 obtain⟨hsize,hget⟩:=qMg hag
 simp only[Nat.zero_add] at hsize hget
 have hE1 : ∀ i o,ops[i]?=some o → ∀ e∈o.after,Region.binds .any e=true→e.on<i:=by
  intro i o ho e he hb
  have hi:i<ops.toList.length:=by simpa using (Array.getElem?_eq_some_iff.1 ho).1
  have h1:=List.all_eq_true.1 hedge i (by simpa using hi)
  rw[Bool.and_eq_true] at h1
  rw[qNx (x:=o) (by simpa using ho)] at h1
  have:=List.all_eq_true.1 h1.1 e (by simpa using he)
  simpa [hb] using this
 have hE2 : ∀ i o x,ops[i]?=some o→(anc.getD i 0).testBit x=true → ∃ e∈o.after,Region.binds .any e=true∧(x=e.on∨(anc.getD e.on 0).testBit x=true):=by
  intro i o x ho hx
  have hi:i<ops.toList.length:=by simpa using (Array.getElem?_eq_some_iff.1 ho).1
  have h1:=List.all_eq_true.1 hedge i (by simpa using hi)
  rw[Bool.and_eq_true] at h1
  rw[qNx (x:=o) (by simpa using ho)] at h1
  have:=eq_of_beq h1.2
  rw[this] at hx
  obtain⟨e,h2,h3,h4⟩:=qMi hx
  exact⟨e,by simpa using h2,h3,h4⟩
 have hclosed : ∀ (sel:Nat→Bool),(∀ i o,sel i=true→ops[i]?=some o → ∀ e∈o.after,Region.binds .any e=true→sel e.on=true) → ∀ i,i<ops.size→sel i=true → ∀ x,(anc.getD i 0).testBit x=true→sel x=true:=by
  intro sel hc i
  induction i using Nat.strongRecOn with
  | _ i ih=>
   intro hi hs x hx
   obtain⟨e,h1,h2,h3⟩:=hE2 i ops[i] x (by simp[hi]) hx
   have hlt:=hE1 i ops[i] (by simp[hi]) e h1 h2
   have hse:=hc i ops[i] hs (by simp[hi]) e h1 h2
   rcases h3 with rfl | h3
   ·exact hse
   ·exact ih e.on hlt (by omega) hse x h3
 have hS : ∀ i j,i<j→j<ops.size→(anc.getD j 0).testBit i=true∨apartS (aos.getD i default) (aos.getD j default)=true:=by
  intro i j hij hj
  have h1:=List.all_eq_true.1 hslot j (by simp;omega)
  have h2:=List.all_eq_true.1 h1 i (by simpa using hij)
  simpa using h2
 have apart : ∀ i j,i<ops.size→j<ops.size→i≠j→(anc.getD j 0).testBit i=false→(anc.getD i 0).testBit j=false→
   (∀ t,aoD aos j=some t→t ∉ (aos.getD i default).slots∧aoD aos i≠some t)∧(∀ id,id∈yZ (trW tr j)→id ∉ trL tr i∧id ∉ yZ (trW tr i)):=by
  intro i j hi hj hne h1 h2
  rcases Nat.lt_or_gt_of_ne hne with hlt | hlt
  ·have a1:apartS (aos.getD i default) (aos.getD j default)=true:=by
    rcases hS i j hlt hj with h | h
    ·rw[h1] at h;cases h
    ·exact h
   have a2:apartW (yZ (trW tr i),trL tr i) (yZ (trW tr j),trL tr j)=true:=by
    rcases hw i j hlt hj with h | h
    ·rw[h1] at h;cases h
    ·exact h
   simp only[apartW,Bool.and_eq_true] at a2
   refine⟨fun t ht=>?_,fun id hid=>⟨fun h=>qH4 a2.2 id h hid,fun h=>qH4 a2.1.1 id h hid⟩⟩
   unfold apartS at a1
   rw[Bool.and_eq_true] at a1
   unfold aoD at ht ⊢
   rw[ht] at a1
   refine⟨by simpa using a1.2,fun h=>?_⟩
   rw[h] at a1
   simp at a1
  ·have a1:apartS (aos.getD j default) (aos.getD i default)=true:=by
    rcases hS j i hlt hi with h | h
    ·rw[h2] at h;cases h
    ·exact h
   have a2:apartW (yZ (trW tr j),trL tr j) (yZ (trW tr i),trL tr i)=true:=by
    rcases hw j i hlt hi with h | h
    ·rw[h2] at h;cases h
    ·exact h
   simp only[apartW,Bool.and_eq_true] at a2
   refine⟨fun t ht=>?_,fun id hid=>⟨fun h=>qH4 a2.1.2 id hid h,fun h=>qH4 a2.1.1 id hid h⟩⟩
   unfold apartS at a1
   rw[Bool.and_eq_true] at a1
   unfold aoD at ht ⊢
   rw[ht] at a1
   simp only[Bool.and_eq_true,Bool.not_eq_true',bne_iff_ne,ne_eq] at a1
   exact⟨by simpa using a1.1.1,a1.1.2⟩
 have hall : ∀ (listed:Array Bool) (sel:Nat→Bool),listed.size=ops.size→(∀ i,i<ops.size→listed.getD i true=sel i∧listed.getD i false=sel i)→Region.ready .any ops listed=[] → ∀ i,i<ops.size→sel i=true:=by
  intro listed sel hls hl hr i
  induction i using Nat.strongRecOn with
  | _ i ih=>
   intro hi
   cases hs:sel i with
   | true=>rfl
   | false=>
    have:i∈Region.ready .any ops listed:=mem_ready.2 ⟨by rw[(hl i hi).1];exact hs,ops[i],by simp[hi],fun e he hb=>by
     have hlt:=hE1 i ops[i] (by simp[hi]) e he hb
     rw[(hl e.on (by omega)).2]
     exact ih e.on hlt (by omega)⟩
    rw[hr] at this;cases this
 have hdone : ∀ (sel:Nat→Bool) (β:Nat→Option BI) (F:Nat→Prop) (a:Act) (w:World),(∀ i,i<ops.size→sel i=true)→Rel cx β F (SF (aoD aos) (trV tr) sel fm ops.size) (SH (trW tr) sel hm ops.size) a w→Qx .normal a w:=by
  intro sel β F a w hs R
  refine hQ β F a w ?_
  have e1:SF (aoD aos) (trV tr) sel fm ops.size=fm':=by
   rw[hfm',←hsize]
   funext t
   exact qQ8 (fun j hj _=>hs j hj)
  have e2:SH (trW tr) sel hm ops.size=hm':=by
   rw[hhm',←hsize]
   funext t
   exact qRa (fun j hj _=>hs j hj)
  rw[e1,e2] at R
  exact R
 intro fuel
 induction fuel with
 | zero=>
  intro listed sel β F a w hls hl hc hcl R
  have hs:=qZk hc
  refine⟨?_,hdone sel β F a w hs R⟩
  refine List.eq_nil_iff_forall_not_mem.2 (fun i hi=>?_)
  obtain⟨h1,o,ho,_⟩:=mem_ready.1 hi
  have hi':=(Array.getElem?_eq_some_iff.1 ho).1
  rw[(hl i hi').1,hs i hi'] at h1
  cases h1
 | succ fuel ih=>
  intro listed sel β F a w hls hl hc hcl R
  refine⟨fun hr=>hdone sel β F a w (hall listed sel hls hl hr) R,fun i hi=>?_⟩
  obtain⟨h1,o,ho,hwait⟩:=mem_ready.1 hi
  have hi':=(Array.getElem?_eq_some_iff.1 ho).1
  have hsi:sel i=false:=by rw[←(hl i hi').1];exact h1
  have hafter : ∀ e∈o.after,Region.binds .any e=true→sel e.on=true:=fun e he hb=>by
   have hlt:=hE1 i o ho e he hb
   rw[←(hl e.on (by omega)).2]
   exact hwait e he hb
  have hanc : ∀ x,(anc.getD i 0).testBit x=true→sel x=true:=by
   intro x hx
   obtain⟨e,g1,g2,g3⟩:=hE2 i o x ho hx
   have hlt:=hE1 i o ho e g1 g2
   have hse:=hafter e g1 g2
   rcases g3 with rfl | g3
   ·exact hse
   ·exact hclosed sel hcl e.on (by omega) hse x g3
  have hil:i<aos.length:=by omega
  obtain⟨o',keep,ho',hk⟩:=hget i aos[i] (by simp[hil])
  rw[ho] at ho';cases ho'
  have hao:aos.getD i default=aos[i]:=qNx (by simp[hil])
  have hun : ∀ j,j<ops.size→(sel j=true∧i<j∨sel j=false∧j<i)→(∀ t,aoD aos j=some t→t ∉ (aos.getD i default).slots∧aoD aos i≠some t)∧(∀ id,id∈yZ (trW tr j)→id ∉ trL tr i∧id ∉ yZ (trW tr i)):=by
   intro j hj hcase
   rcases hcase with⟨hs,hlt⟩ | ⟨hs,hlt⟩
   ·refine apart i j hi' hj (by omega) ?_ ?_
    ·cases hb:(anc.getD j 0).testBit i with
     | false=>rfl
     | true=>have:=hclosed sel hcl j hj hs i hb;rw[hsi] at this;cases this
    ·cases hb:(anc.getD i 0).testBit j with
     | false=>rfl
     | true=>
      exfalso
      have : ∀ k,k<ops.size → ∀ x,(anc.getD k 0).testBit x=true→x<k:=by
       intro k
       induction k using Nat.strongRecOn with
       | _ k ihk=>
        intro hk x hx
        obtain⟨e,g1,g2,g3⟩:=hE2 k ops[k] x (by simp[hk]) hx
        have hlt:=hE1 k ops[k] (by simp[hk]) e g1 g2
        rcases g3 with rfl | g3
        ·exact hlt
        ·have:=ihk e.on hlt (by omega) x g3;omega
      have:=this i hi' j hb
      omega
   ·refine apart i j hi' hj (by omega) ?_ ?_
    ·cases hb:(anc.getD j 0).testBit i with
     | false=>rfl
     | true=>
      exfalso
      have : ∀ k,k<ops.size → ∀ x,(anc.getD k 0).testBit x=true→x<k:=by
       intro k
       induction k using Nat.strongRecOn with
       | _ k ihk=>
        intro hk x hx
        obtain⟨e,g1,g2,g3⟩:=hE2 k ops[k] x (by simp[hk]) hx
        have hlt:=hE1 k ops[k] (by simp[hk]) e g1 g2
        rcases g3 with rfl | g3
        ·exact hlt
        ·have:=ihk e.on hlt (by omega) x g3;omega
      have:=this j hj i hb
      omega
    ·cases hb:(anc.getD i 0).testBit j with
     | false=>rfl
     | true=>have:=hanc j hb;rw[hs] at this;cases this
  have hslotsEq : ∀ t∈aos[i].slots,SF (aoD aos) (trV tr) (fun _=>true) fm i t=SF (aoD aos) (trV tr) sel fm ops.size t:=by
   intro t htm
   rw[←hao] at htm
   rw[zNg (n:=ops.size) (i:=i) (by omega) (fun j h2 h3 hD=>by
    cases hs:sel j with
    | false=>rfl
    | true=>
     have hne:j≠i:=fun e=>by rw[e] at hs;rw[hsi] at hs;cases hs
     exact absurd htm ((hun j h3 (.inl ⟨hs,by omega⟩)).1 t hD).1)]
   refine qQ8 (fun j hj hD=>?_)
   cases hs:sel j with
   | true=>rfl
   | false=>exact absurd htm ((hun j (by omega) (.inr ⟨hs,hj⟩)).1 t hD).1
  have hheapEq : ∀ id∈trL tr i,SH (trW tr) sel hm ops.size id=SH (trW tr) (fun _=>true) hm i id:=by
   intro id hid
   rw[zNi (n:=ops.size) (i:=i) (by omega) (fun j h2 h3 hD=>by
    cases hs:sel j with
    | false=>rfl
    | true=>
     have hne:j≠i:=fun e=>by rw[e] at hs;rw[hsi] at hs;cases hs
     exact absurd hid ((hun j h3 (.inl ⟨hs,by omega⟩)).2 id hD).1)]
   refine qRa (fun j hj hD=>?_)
   cases hs:sel j with
   | true=>rfl
   | false=>exact absurd hid ((hun j (by omega) (.inr ⟨hs,hj⟩)).2 id hD).1
  have hq:=hidx i aos[i] (by simp[hil])
  rw[zRa hslotsEq] at hq
  have hq':=Q.run_local _ hq hheapEq
  refine qQ6 R ht ho hk hq' (fun β' F' a' w' R'=>?_)
  refine ih (listed.setIfInBounds i true) (wT sel i) β' F' a' w' (by simpa using hls) (fun j hj=>?_) ?_ (fun j oj hs hoj e he hb=>?_) ?_
  ·by_cases hji:j=i
   ·subst hji
    simp[wT,hls,hi']
   ·have h2:=hl j hj
    rw[getD_set_ne true (fun e=>hji e.symm),getD_set_ne false (fun e=>hji e.symm)]
    simpa [wT,hji] using h2
  ·have:=zEb hsi (n:=ops.size)
   rw[if_pos hi'] at this
   omega
  ·by_cases hji:j=i
   ·subst hji
    rw[ho] at hoj;cases hoj
    have hlt:=hE1 j o ho e he hb
    have hse:=hafter e he hb
    simp only[wT]
    split
    ·rfl
    ·exact hse
   ·have hsj:sel j=true:=by simpa [wT,hji] using hs
    have:=hcl j oj hsj hoj e he hb
    simp only[wT]
    split
    ·rfl
    ·exact this
  ·have e1:SF (aoD aos) (trV tr) (wT sel i) fm ops.size=qPi (SF (aoD aos) (trV tr) sel fm ops.size) aos[i].dst (trV tr i):=by
    rw[zNf hsi (fun j hij hj hs t hD hD'=>((hun j hj (.inl ⟨hs,hij⟩)).1 t hD').2 hD),if_pos hi']
    unfold aoD
    rw[hao]
   have e2:SH (trW tr) (wT sel i) hm ops.size=upd (SH (trW tr) sel hm ops.size) (trW tr i):=by
    rw[zNh hsi (fun j hij hj hs id hD hD'=>((hun j hj (.inl ⟨hs,hij⟩)).2 id hD').2 hD),if_pos hi']
   rw[e1,e2]
   exact R'
end Go.Eng
end
section
namespace Go.Eng
def jA {α:Type}:List (Nat×α)→Nat→Option α
 | [],_=>none
 | (k,v)::r,t=>if k=t then some v else jA r t
def zY2 {α:Type}:List (Nat×α)→Nat→α→List (Nat×α)
 | [],k,v=>[(k,v)]
 | (k',v')::r,k,v=>if k'=k then (k,v)::r else (k',v')::zY2 r k v
def zOm (fs:List (Nat×V)):Option Nat→V→List (Nat×V)
 | some d,v=>(d,v)::fs
 | none,_=>fs
theorem zF1 {fs:List (Nat×V)} {d:Option Nat} {v:V}:jA (zOm fs d v)=qPi (jA fs) d v:=by
 funext t
 cases d with
 | none=>simp[zOm,qPi]
 | some d=>
  simp only[zOm,jA,qPi,Option.some.injEq]
def qTe:List (Nat×Ob)→Wr→List (Nat×Ob)
 | hs,[]=>hs
 | hs,(i,o)::r=>qTe ((i,o)::hs) r
theorem qIe : ∀ {W:Wr} {hs:List (Nat×Ob)},jA (qTe hs W)=upd (jA hs) W
 | [],_=>rfl
 | (i,o)::r,hs=>by
  simp only[qTe,upd]
  rw[qIe]
  congr 1
  funext j
  rw[jA]
  by_cases h:i=j
  ·simp[h]
  ·simp[h,Ne.symm h]
def Q.wp {α:Type} (hs:List (Nat×Ob)) (q:Q α) (K:α→List Nat→Prop):Prop := ∃ x l,q.run (jA hs)=some (x,l)∧K x l
section
variable {α γ:Type} {hs:List (Nat×Ob)} {K:α→List Nat→Prop}
def zDb {α:Type} (hs:List (Nat×Ob)) (o:Option Ob) (id:Nat) (k:Ob→Q α) (K:α→List Nat→Prop):Prop:=
 match o with
 | some o=>(k o).wp hs (fun x l=>K x (id::l))
 | none=>False
def qQ5 {α:Type} (hs:List (Nat×Ob)) (o:Option Ob) (id:Nat) (k:Q α) (K:α→List Nat→Prop):Prop:=
 match o with
 | some _=>False
 | none=>k.wp hs (fun x l=>K x (id::l))
def qV9 {α γ:Type} (hs:List (Nat×Ob)) (o:Option γ) (f:γ→Q α) (K:α→List Nat→Prop):Prop:=
 match o with
 | some x=>(f x).wp hs K
 | none=>False
theorem Q.wp_ret {x:α}:(Q.ret x).wp hs K=K x []:=by
 apply propext
 constructor
 ·rintro⟨y,l,h,hK⟩
  obtain⟨rfl,rfl⟩:=qB h
  exact hK
 ·exact fun h=>⟨x,[],rfl,h⟩
theorem Q.wp_fail:(Q.fail:Q α).wp hs K=False:=by
 apply propext
 constructor
 ·rintro⟨y,l,h,hK⟩;cases h
 ·exact fun h=>h.elim
theorem Q.wp_get {id:Nat} {k:Ob→Q α}:(Q.get id k).wp hs K=zDb hs (jA hs id) id k K:=by
 apply propext
 constructor
 ·rintro⟨y,l,h,hK⟩
  obtain⟨o,l',h1,h2,rfl⟩:=yF h
  rw[h1]
  exact⟨y,l',h2,hK⟩
 ·intro h
  cases ho:jA hs id with
  | none=>rw[ho] at h;exact h.elim
  | some o=>
   rw[ho] at h
   obtain⟨y,l,h1,h2⟩:=h
   exact⟨y,id::l,by simp[Q.run,ho,h1],h2⟩
theorem Q.wp_free {id:Nat} {k:Q α}:(Q.free id k).wp hs K=qQ5 hs (jA hs id) id k K:=by
 apply propext
 constructor
 ·rintro⟨y,l,h,hK⟩
  obtain⟨h1,l',h2,rfl⟩:=vZ h
  rw[h1]
  exact⟨y,l',h2,hK⟩
 ·intro h
  cases ho:jA hs id with
  | some o=>rw[ho] at h;exact h.elim
  | none=>
   rw[ho] at h
   obtain⟨y,l,h1,h2⟩:=h
   exact⟨y,id::l,by simp[Q.run,ho,h1],h2⟩
theorem Q.wp_assert {b:Prop} [Decidable b] {q:Q α}:(Q.assert b q).wp hs K=(b∧q.wp hs K):=by
 apply propext
 constructor
 ·rintro⟨y,l,h,hK⟩
  obtain⟨h1,h2⟩:=qF h
  exact⟨h1,y,l,h2,hK⟩
 ·rintro⟨h1,y,l,h,hK⟩
  exact⟨y,l,by unfold Q.assert;rw[if_pos h1];exact h,hK⟩
theorem Q.wp_ite {b:Prop} [Decidable b] {p q:Q α}:(if b then p else q).wp hs K=((b→p.wp hs K)∧(¬ b→q.wp hs K)):=by
 by_cases h:b<;>simp[h]
theorem Q.wp_of_bind {o:Option γ} {f:γ→Q α}:((Q.of o).bind f).wp hs K=qV9 hs o f K:=by
 cases o with
 | none=>exact Q.wp_fail
 | some x=>rfl
theorem Q.wp_bind {q:Q γ} {f:γ→Q α}:(q.bind f).wp hs K=q.wp hs (fun x l=>(f x).wp hs (fun y l'=>K y (l++l'))):=by
 apply propext
 constructor
 ·rintro⟨y,l,h,hK⟩
  obtain⟨x,l1,l2,h1,h2,rfl⟩:=qW h
  exact⟨x,l1,h1,y,l2,h2,hK⟩
 ·rintro⟨x,l1,h1,y,l2,h2,hK⟩
  exact⟨y,l1++l2,by rw[Q.run_bind,h1];simp[h2],hK⟩
theorem zDc {id:Nat} {k:Ob→Q α}:zDb hs none id k K=False:=rfl
theorem qY4 {o:Ob} {id:Nat} {k:Q α}:qQ5 hs (some o) id k K=False:=rfl
theorem qO1 {x:γ} {f:γ→Q α}:qV9 hs (some x) f K=(f x).wp hs K:=rfl
theorem zId {f:γ→Q α}:qV9 hs none f K=False:=rfl
theorem zM8 {b:Prop} [Decidable b] {o:Option γ} {f:γ→Q α}:qV9 hs (if b then o else none) f K=(b∧qV9 hs o f K):=by
 by_cases h:b<;>simp[h,qV9]
theorem zIb {b:Prop} [Decidable b] {o:Option γ} {f:γ→Q α}:qV9 hs (if b then none else o) f K=(¬ b∧qV9 hs o f K):=by
 by_cases h:b<;>simp[h,qV9]
@[congr] theorem Q.wp_congr {q q':Q α} (h:q=q'):q.wp hs K=q'.wp hs K:=by rw[h]
@[congr] theorem zTh {o o':Option Ob} {id:Nat} {k:Ob→Q α} (h:o=o'):zDb hs o id k K=zDb hs o' id k K:=by rw[h]
@[congr] theorem zOr {o o':Option Ob} {id:Nat} {k:Q α} (h:o=o'):qQ5 hs o id k K=qQ5 hs o' id k K:=by rw[h]
@[congr] theorem zTy {o o':Option γ} {f:γ→Q α} (h:o=o'):qV9 hs o f K=qV9 hs o' f K:=by rw[h]
end
inductive AE where
 | normal
 | exit (id:Nat)
 | ret
 deriving DecidableEq
def AE.ex:AE→Exit
 | .normal=> .normal
 | .exit id=> .exit id
 | .ret=> .ret
inductive AC where
 | skip
 | ret
 | exit (id:Nat)
 | seq (a b:AC)
 | cond (c:qCp) (a b:AC)
 | condb (c:qCp) (a b:AC)
 | block (id:Nat) (a:AC)
 | loop (a:AC)
 | reg (nb:Nat) (anc:Option (List Nat)) (ops:List zM)
 deriving Inhabited
abbrev Fs:=List (Nat×V)
abbrev Hs:=List (Nat×Ob)
abbrev qBs:=AE→Fs→Hs→Prop
def zDk (tab:Tab) (gl:Gl):List zM→Nat→Fs→Hs→List (List Nat×List Nat)→(Fs→Hs→List (List Nat×List Nat)→Prop)→Prop
 | [],_,fs,hs,acc,K=>K fs hs acc
 | o::r,nb,fs,hs,acc,K=>(o.q tab gl (jA fs) nb).wp hs (fun p l=>zDk tab gl r (nb+16) (zOm fs o.dst p.1) (qTe hs p.2) (acc++[(yZ p.2,l)]) K)
def qGn (v:Option V) (A B:Prop):Prop:=
 match v with
 | some (.t (.bool b))=>(b=true→A)∧(b=false→B)
 | _=>False
def qK2 (v:Option V) (A B:Prop):Prop:=
 match v with
 | some .bq=>A∧B
 | v=>qGn v A B
@[congr] theorem zPf {v v':Option V} {A B:Prop} (h:v=v'):qGn v A B=qGn v' A B:=by rw[h]
theorem zBb {A B:Prop}:qGn (some (.t (.bool true))) A B=A:=by simp[qGn]
@[congr] theorem zPd {v v':Option V} {A B:Prop} (h:v=v'):qK2 v A B=qK2 v' A B:=by rw[h]
theorem zJh {A B:Prop}:qK2 (some .bq) A B=(A∧B):=by simp[qK2]
theorem zPe {x:T} {A B:Prop}:qK2 (some (.t x)) A B=qGn (some (.t x)) A B:=by simp[qK2]
theorem qWv {A B:Prop}:qGn (some (.t (.bool false))) A B=B:=by simp[qGn]
def qQ (fs:Fs) (hs:Hs) (fs':Fs) (hs':Hs):Prop:=
 ∀ (cx:Cx) (β:Nat→Option BI) (F:Nat→Prop) (a:Act) (w:World),Rel cx β F (jA fs) (jA hs) a w → ∃ β' F',Rel cx β' F' (jA fs') (jA hs') a w
theorem qQ.refl {fs:Fs} {hs:Hs}:qQ fs hs fs hs:=fun _ β F _ _ R=>⟨β,F,R⟩
theorem qQ.trans {fs fs' fs'':Fs} {hs hs' hs'':Hs} (h:qQ fs hs fs' hs') (h':qQ fs' hs' fs'' hs''):qQ fs hs fs'' hs'':=fun cx β F a w R=>
 let ⟨β',F',R'⟩:=h cx β F a w R
 h' cx β' F' a w R'
def zIs (B:Fs→Hs→qBs→Prop) (fs:Fs) (hs:Hs) (Qx:qBs):Prop:=
 ∃ (ι:Type) (I:ι→Fs×Hs) (μ:ι→Nat) (i0:ι),qQ fs hs (I i0).1 (I i0).2∧
  ∀ i,B (I i).1 (I i).2 (fun e fs' hs'=>match e with | .normal => ∃ j,μ j<μ i∧qQ fs' hs' (I j).1 (I j).2 | e=>Qx e fs' hs')
@[congr] theorem zOs {B:Fs→Hs→qBs→Prop} {fs:Fs} {hs:Hs} {Qx:qBs}:zIs B fs hs Qx=zIs B fs hs Qx:=rfl
def jEe (tab:Tab) (gl:Gl) (nb:Nat) (anc:Option (List Nat)) (ops:List zM) (fs:Fs) (hs:Hs) (Qx:qBs):Prop:=
 zDk tab gl ops nb fs hs [] (fun fs' hs' acc=>(match anc with | none=>True | some l=>chk l acc=true)∧Qx .normal fs' hs')
def AC.wp (tab:Tab) (gl:Gl):AC→Fs→Hs→qBs→Prop
 | .skip,fs,hs,Qx=>Qx .normal fs hs
 | .ret,fs,hs,Qx=>Qx .ret fs hs
 | .exit id,fs,hs,Qx=>Qx (.exit id) fs hs
 | .seq a b,fs,hs,Qx=>a.wp tab gl fs hs (fun e fs' hs'=>match e with | .normal=>b.wp tab gl fs' hs' Qx | e=>Qx e fs' hs')
 | .cond c a b,fs,hs,Qx=>qGn (c.val gl (jA fs)) (a.wp tab gl fs hs Qx) (b.wp tab gl fs hs Qx)
 | .condb c a b,fs,hs,Qx=>qK2 (c.val gl (jA fs)) (a.wp tab gl fs hs Qx) (b.wp tab gl fs hs Qx)
 | .block id a,fs,hs,Qx=>a.wp tab gl fs hs (fun e fs' hs'=>match e with | .exit id'=>(if id'=id then Qx .normal fs' hs' else Qx (.exit id') fs' hs') | e=>Qx e fs' hs')
 | .loop a,fs,hs,Qx=>zIs (fun fs hs K=>a.wp tab gl fs hs K) fs hs Qx
 | .reg nb anc ops,fs,hs,Qx=>jEe tab gl nb anc ops fs hs Qx
@[congr] theorem AC.wp_congr {tab:Tab} {gl:Gl} {c:AC} {fs fs':Fs} {hs hs':Hs} {Qx:qBs} (h1:fs=fs') (h2:hs=hs'):c.wp tab gl fs hs Qx=c.wp tab gl fs' hs' Qx:=by rw[h1,h2]
@[congr] theorem zTx {tab:Tab} {gl:Gl} {os:List zM} {nb nb':Nat} {fs fs':Fs} {hs hs':Hs} {acc:List (List Nat×List Nat)} {K:Fs→Hs→List (List Nat×List Nat)→Prop} (h0:nb=nb') (h1:fs=fs') (h2:hs=hs') :
  zDk tab gl os nb fs hs acc K=zDk tab gl os nb' fs' hs' acc K:=by rw[h0,h1,h2]
def zI2 (P:Program) (nt:Nat) (ops:Array Oper) (keeps:List Nat):Nat→List Oper→Option (List zM)
 | _,[]=>some []
 | i,o::r=>(zT6 P nt ops (keeps.contains i) o).bind fun x=>(zI2 P nt ops keeps (i+1) r).map (x :: ·)
def zQa (hints:List (Nat×List Nat)) (id:Nat):List Nat:=(jA hints id).getD []
def ann (P:Program) (nt:Nat) (hints:List (Nat×List Nat)):Code→Option AC
 | .skip=>some .skip
 | .label _=>some .skip
 | .ret=>some .ret
 | .exit id=>some (.exit id)
 | .seq a b=>(ann P nt hints a).bind fun x=>(ann P nt hints b).map fun y=> .seq x y
 | .cond c a b=>(zK7 c).bind fun o=>(ann P nt hints a).bind fun x=>(ann P nt hints b).map fun y=>match jA hints 900000 with | some _=> .condb o x y | none=> .cond o x y
 | .block id a=>(ann P nt hints a).map fun x=> .block id x
 | .loop a=>(ann P nt hints a).map fun x=> .loop x
 | .region id ops draw=>(zI2 P nt ops (zQa hints id) 0 ops.toList).bind fun aos=>
  if draw then (if zEp (zYr ops.toList []) ops.toList&&zHl (zYr ops.toList []) aos then some (.reg (4096*(id+1)) (some (zYr ops.toList [])) aos) else none)
  else some (.reg (4096*(id+1)) none aos)
 | _=>none
theorem qMk {P:Program} {nt:Nat} {ops:Array Oper} {keeps:List Nat} : ∀ {l:List Oper} {i:Nat} {aos:List zM},zI2 P nt ops keeps i l=some aos→l=ops.toList.drop i→i≤ops.size→zA0 P nt ops i aos
 | [],i,aos,h,hl,hi=>by
  cases h
  have:=congrArg List.length hl
  simp at this
  simp only[zA0];omega
 | o::r,i,aos,h,hl,hi=>by
  simp only[zI2,Option.bind_eq_some_iff,Option.map_eq_some_iff] at h
  obtain⟨x,hx,xs,hxs,rfl⟩:=h
  have hlt:i<ops.size:=by
   have:=congrArg List.length hl
   simp at this
   omega
  have h0:ops.toList.drop i=ops.toList[i]'(by simpa using hlt)::ops.toList.drop (i+1):=List.drop_eq_getElem_cons (by simpa using hlt)
  rw[h0] at hl
  simp only[List.cons.injEq] at hl
  refine⟨⟨o,keeps.contains i,?_,hx⟩,qMk hxs hl.2 hlt⟩
  rw[hl.1];simp[hlt]
variable {β:Nat→Option BI} {F:Nat→Prop} {w:World} {cx:Cx} {a:Act}
theorem qSq {tab:Tab} {gl:Gl} : ∀ {aos:List zM} {nb:Nat} {fs:Fs} {hs:Hs} {acc:List (List Nat×List Nat)} {K:Fs→Hs→List (List Nat×List Nat)→Prop},zDk tab gl aos nb fs hs acc K→
  ∃ tr fs' hs',Lex tab gl aos nb (jA fs) (jA hs) tr (jA fs') (jA hs')∧tr.length=aos.length∧K fs' hs' (acc++tr.map fun p=>(yZ p.2.1,p.2.2))
 | [],nb,fs,hs,acc,K,h=>⟨[],fs,hs,.nil,rfl,by simpa [zDk] using h⟩
 | o::r,nb,fs,hs,acc,K,h=>by
  obtain⟨⟨v,W⟩,l,hq,h⟩:=h
  obtain⟨tr,fs',hs',h1,h2,h3⟩:=qSq h
  refine⟨(v,W,l)::tr,fs',hs',.cons hq (by rw[←zF1,←qIe];exact h1),by simp[h2],?_⟩
  simpa using h3
theorem zJf {anc:List Nat} {tr:List (V×Wr×List Nat)} (h:chk anc (tr.map fun p=>(yZ p.2.1,p.2.2))=true) : ∀ i j,i<j→j<tr.length→(anc.getD j 0).testBit i=true∨apartW (yZ (trW tr i),trL tr i) (yZ (trW tr j),trL tr j)=true:=by
 intro i j hij hj
 have h1:=List.all_eq_true.1 h j (by simpa using hj)
 have h2:=List.all_eq_true.1 h1 i (by simpa using hij)
 rw[Bool.or_eq_true] at h2
 rcases h2 with h2 | h2
 ·exact .inl h2
 ·refine .inr ?_
  have e : ∀ k,k<tr.length→(tr.map fun p=>(yZ p.2.1,p.2.2)).getD k ([],[])=(yZ (trW tr k),trL tr k):=by
   intro k hk
   simp[trW,trL,List.getD,hk]
  rw[e i (by omega),e j hj] at h2
  exact h2
theorem qS8 {P:Program} {Qx:Exit→Act→World→Prop} {a:Act} {w:World} {c:Code} {ι:Type} (I:ι→Act→World→Prop) (μ:ι→Nat) (i0:ι) (h₀:I i0 a w)
  (round : ∀ i a w,I i a w→c.wp P (Exit.then (fun a' w' => ∃ j,μ j<μ i∧I j a' w') Qx) a w):(Code.loop c).wp P Qx a w:=by
 intro b k cs
 have key : ∀ n i a w,μ i=n→I i a w → ∃ e a' w',Qx e a' w'∧Arrives P (lone (b.at a (.code c :: .inLoop c::k)) cs w) b k cs e a' w':=by
  intro n
  induction n using Nat.strongRecOn with
  | _ n ih=>
   intro i a w hn hI
   obtain⟨e,a₁,w₁,hq,harr⟩:=round i a w hI b (.inLoop c::k) cs
   cases e with
   | normal=>
    obtain⟨j,hlt,hI₁⟩:=hq
    obtain⟨e₂,a₂,w₂,hq₂,harr₂⟩:=ih (μ j) (hn▸hlt) j a₁ w₁ rfl hI₁
    exact⟨e₂,a₂,w₂,hq₂,.of_steps (Steps.trans harr (.one step_inLoop)) harr₂⟩
   | exit id=>exact⟨_,a₁,w₁,hq,.pass (x:= .inLoop c) rfl (fun _ _=> .inl (by simp)) harr⟩
   | goto l=>exact⟨_,a₁,w₁,hq,.pass (x:= .inLoop c) rfl (fun _ _=> .inl (by simp)) harr⟩
   | ret=>exact⟨_,a₁,w₁,hq,.pass (x:= .inLoop c) rfl (fun _ _=> .inl (by simp)) harr⟩
   | panic ch=>exact⟨_,a₁,w₁,hq,.pass (x:= .inLoop c) rfl (fun _ _=> .inl (by simp)) harr⟩
   | outgrown=>exact⟨_,a₁,w₁,hq,.pass (x:= .inLoop c) rfl (fun _ _=> .inl (by simp)) harr⟩
 obtain⟨e,a',w',hq,harr⟩:=key _ i0 a w rfl h₀
 exact⟨e,a',w',hq,.of_steps (.one step_loop) harr⟩
theorem AC.sound {tab:Tab} (ht:qBm cx.P cx.gl tab) (hmx:cx.P.follows .mixedOrders=true) {hints:List (Nat×List Nat)} : ∀ {c:Code} {ac:AC},ann cx.P cx.nt hints c=some ac→
  ∀ {fs:Fs} {hs:Hs} {Qa:qBs} {Qx:Exit→Act→World→Prop} {β:Nat→Option BI} {F:Nat→Prop} {a:Act} {w:World},ac.wp tab cx.gl fs hs Qa→Rel cx β F (jA fs) (jA hs) a w→
   (∀ e fs' hs' β' F' a' w',Qa e fs' hs'→Rel cx β' F' (jA fs') (jA hs') a' w'→Qx e.ex a' w')→c.wp cx.P Qx a w:=by
 intro c
 induction c with
 | skip=>intro ac h fs hs Qa Qx β F a w hw R hQ;cases h;exact wp_skip (hQ .normal _ _ _ _ _ _ hw R)
 | label l=>intro ac h fs hs Qa Qx β F a w hw R hQ;cases h;exact wp_label (hQ .normal _ _ _ _ _ _ hw R)
 | ret=>intro ac h fs hs Qa Qx β F a w hw R hQ;cases h;exact wp_ret (hQ .ret _ _ _ _ _ _ hw R)
 | exit id=>intro ac h fs hs Qa Qx β F a w hw R hQ;cases h;exact wp_exit (hQ (.exit id) _ _ _ _ _ _ hw R)
 | seq x y ihx ihy=>
  intro ac h fs hs Qa Qx β F a w hw R hQ
  simp only[ann,Option.bind_eq_some_iff,Option.map_eq_some_iff] at h
  obtain⟨cx',hx,cy,hy,rfl⟩:=h
  refine wp_seq (ihx hx hw R (fun e fs' hs' β' F' a' w' hq R'=>?_))
  cases e with
  | normal=>exact ihy hy hq R' hQ
  | exit id=>exact hQ (.exit id) _ _ _ _ _ _ hq R'
  | ret=>exact hQ .ret _ _ _ _ _ _ hq R'
 | cond o x y ihx ihy=>
  intro ac h fs hs Qa Qx β F a w hw R hQ
  simp only[ann,Option.bind_eq_some_iff,Option.map_eq_some_iff] at h
  obtain⟨o',ho,cx',hx,cy,hy,h⟩:=h
  have key : ∀ {Qa:qBs},qGn (o'.val cx.gl (jA fs)) (cx'.wp tab cx.gl fs hs Qa) (cy.wp tab cx.gl fs hs Qa)→(∀ e fs' hs' β' F' a' w',Qa e fs' hs'→Rel cx β' F' (jA fs') (jA hs') a' w'→Qx e.ex a' w')→(Code.cond o x y).wp cx.P Qx a w:=by
   intro Qa hw hQ
   simp only[qGn] at hw
   split at hw
   ·rename_i v b hv
    have:=qN4 R ho hv
    refine wp_cond_split (this.bool_inv) (fun e=>ihx hx (hw.1 e) R hQ) (fun e=>ihy hy (hw.2 e) R hQ)
   ·exact hw.elim
  cases hm:jA hints 900000 with
  | none=>
   rw[hm] at h
   subst h
   exact key hw hQ
  | some l=>
   rw[hm] at h
   subst h
   simp only[AC.wp,qK2] at hw
   split at hw
   ·rename_i v hv
    have:=qN4 R ho hv
    generalize he:a.eval o=y0 at this
    cases this with
    | bq b=>exact wp_cond_split he (fun _=>ihx hx hw.1 R hQ) (fun _=>ihy hy hw.2 R hQ)
   ·exact key hw hQ
 | block id x ih=>
  intro ac h fs hs Qa Qx β F a w hw R hQ
  simp only[ann,Option.map_eq_some_iff] at h
  obtain⟨x',hx,rfl⟩:=h
  refine wp_block (ih hx hw R (fun e fs' hs' β' F' a' w' hq R'=>?_))
  cases e with
  | normal=>exact hQ .normal _ _ _ _ _ _ hq R'
  | exit id'=>
   simp only[AE.ex,Exit.inBlock]
   simp only at hq
   split
   ·rename_i h1;rw[if_pos h1] at hq;exact hQ .normal _ _ _ _ _ _ hq R'
   ·rename_i h1;rw[if_neg h1] at hq;exact hQ (.exit id') _ _ _ _ _ _ hq R'
  | ret=>exact hQ .ret _ _ _ _ _ _ hq R'
 | loop x ih=>
  intro ac h fs hs Qa Qx β F a w hw R hQ
  simp only[ann,Option.map_eq_some_iff] at h
  obtain⟨x',hx,rfl⟩:=h
  obtain⟨ι,I,μ,i0,h0,hr⟩:=hw
  refine qS8 (fun i a w => ∃ β F,Rel cx β F (jA (I i).1) (jA (I i).2) a w) μ i0 (h0 cx β F a w R) (fun i a w ⟨β1,F1,R1⟩=>?_)
  refine ih hx (hr i) R1 (fun e fs' hs' β' F' a' w' hq R'=>?_)
  cases e with
  | normal=>
   obtain⟨j,h1,h2⟩:=hq
   exact⟨j,h1,h2 cx β' F' a' w' R'⟩
  | exit id=>exact hQ (.exit id) _ _ _ _ _ _ hq R'
  | ret=>exact hQ .ret _ _ _ _ _ _ hq R'
 | region id ops draw=>
  intro ac h fs hs Qa Qx β F a w hw R hQ
  simp only[ann,Option.bind_eq_some_iff] at h
  obtain⟨aos,haos,h⟩:=h
  have hag:=qMk haos rfl (Nat.zero_le _)
  cases draw with
  | false=>
   simp only[Bool.false_eq_true,if_false] at h
   cases h
   obtain⟨tr,fs',hs',h1,h2,_,h3⟩:=qSq hw
   exact wp_region (zFz ht hag h1 R (fun β' F' a' w' R'=>hQ .normal _ _ _ _ _ _ h3 R') _ rfl)
  | true=>
   simp only[if_true] at h
   split at h
   ·rename_i hb
    cases h
    rw[Bool.and_eq_true] at hb
    obtain⟨tr,fs',hs',h1,h2,h4,h3⟩:=qSq hw
    simp only[List.nil_append] at h4
    have hsz:ops.size=aos.length:=by
     have:=(qMg hag).1
     omega
    refine wp_region_any hmx ?_
    refine zQc ht hag h1 hb.1 hb.2 (fun i j hij hj=>zJf h4 i j hij (by omega)) (fun β' F' a' w' R'=>hQ .normal _ _ _ _ _ _ h3 R') ops.size _ (fun _=>false) β F a _ (by simp) (fun i hi=>by simp[hi]) ?_ (fun i o h=>by cases h) ?_
    ·have : ∀ n,cnt (fun _=>false) n=n:=by
      intro n
      induction n with
      | zero=>rfl
      | succ n ih=>simp[cnt,ih]
     exact this _
    ·have e1 : ∀ n,SF (aoD aos) (trV tr) (fun _=>false) (jA fs) n=jA fs:=by
      intro n
      induction n with
      | zero=>rfl
      | succ n ih=>simp[SF,ih]
     have e2 : ∀ n,SH (trW tr) (fun _=>false) (jA hs) n=jA hs:=by
      intro n
      induction n with
      | zero=>rfl
      | succ n ih=>simp[SH,ih]
     rw[e1,e2]
     exact R.drew
   ·cases h
 | rangeFunc f ps x y _ _=>intro ac h;cases h
 | scope x _=>intro ac h;cases h
 | goto l=>intro ac h;cases h
 | refuse s=>intro ac h;cases h
end Go.Eng
end
section
namespace Go.Eng
theorem qJf {hm:Nat→Option Ob} : ∀ {n:Nat} {todo ids:List Nat} {obs:List Ob} {fz ids':List Nat} {obs':List Ob} {fz' l:List Nat},(xN n todo ids obs fz).run hm=some ((ids',obs',fz'),l) → ∃ s,ids'=ids++s
 | n,[],ids,obs,fz,ids',obs',fz',l,h=>by
  have h':(Q.ret (ids,obs,fz):Q _).run hm=some ((ids',obs',fz'),l):=by cases n<;>exact h
  obtain⟨e,_⟩:=qB h'
  cases e
  exact⟨[],by simp⟩
 | 0,_::_,ids,obs,fz,ids',obs',fz',l,h=>by cases h
 | n+1,id::todo,ids,obs,fz,ids',obs',fz',l,h=>by
  simp only[xN] at h
  split at h
  ·exact qJf h
  ·obtain⟨o,l',ho,hs2,_⟩:=yF h
   cases o with
   | dead=>cases hs2
   | live z es wr full=>
    cases wr with
    | false=>cases hs2
    | true=>
     obtain⟨p,l1,l2,hp,hs3,_⟩:=qW hs2
     obtain⟨s,hs⟩:=qJf hs3
     exact⟨id::s,by rw[hs];simp⟩
theorem qKr {hm:Nat→Option Ob} : ∀ {m n s:Nat} {rest:List Nat} {obs:List Ob} {fz ids':List Nat} {obs':List Ob} {fz' l:List Nat},(xN n (List.range' s m++rest) (List.range s) obs fz).run hm=some ((ids',obs',fz'),l) → ∃ t,ids'=List.range (s+m)++t
 | 0,n,s,rest,obs,fz,ids',obs',fz',l,h=>by
  obtain⟨t,ht⟩:=qJf h
  exact⟨t,ht⟩
 | m+1,n,s,rest,obs,fz,ids',obs',fz',l,h=>by
  cases n with
  | zero=>rw[List.range'_succ] at h;cases h
  | succ n=>
   rw[List.range'_succ,List.cons_append] at h
   simp only[xN] at h
   split at h
   ·rename_i hc
    simp at hc
   ·obtain⟨o,l',ho,hs2,_⟩:=yF h
    cases o with
    | dead=>cases hs2
    | live z es wr full=>
     cases wr with
     | false=>cases hs2
     | true=>
      obtain⟨p,l1,l2,hp,hs3,_⟩:=qW hs2
      rw[←List.range_succ,List.append_assoc] at hs3
      obtain⟨t,ht⟩:=qKr hs3
      exact⟨t,by rw[ht];congr 2;omega⟩
def zOi:List V→V
 | [x]=>x
 | xs=> .tup xs
def zY0 (n:Nat) (vs:List V):Q (V×List Ob):=
 (qA8 (zE 4) vs).bind fun p=>(xN (12+n) (List.range n++kH p.1) [] [] []).bind fun q=>
  Q.assert ((q.1.all fun i => !(p.2++q.2.2).contains i)=true) ((qRt (p.2++q.2.2)).bind fun _=> .ret (zOi (qC6 (fun r=>q.1.idxOf r) p.1),q.2.1.map (Ob.ren fun r=>q.1.idxOf r)))
def rsQ (fs:Fs):List (Nat×Option (Nat×Bool))→Q (List V)
 | []=> .ret []
 | (t,none)::r=>(Q.of (jA fs t)).bind fun v=>(rsQ fs r).bind fun vs=> .ret (v::vs)
 | (t,some (n,agg))::r=>(Q.of (jA fs t)).bind fun v=>(qJm n agg [v]).bind fun p=>(rsQ fs r).bind fun vs=> .ret (p.1::vs)
def jK (rs:List (Nat×Option (Nat×Bool))) (n:Nat) (R:V→List Ob→Prop):qBs:=fun e fs hs=>
 match e with
 | .exit _=>False
 | _=>((rsQ fs rs).bind fun vs=>zY0 n vs).wp hs (fun p _=>R p.1 p.2)
def qE {α:Type}:Nat→List α→List (Nat×α)
 | _,[]=>[]
 | i,x::r=>(i,x)::qE (i+1) r
theorem qBd {α:Type} : ∀ {l:List α} {i t:Nat},jA (qE i l) t=if i≤t then l[t-i]? else none
 | [],i,t=>by simp[qE,jA]
 | x::r,i,t=>by
  simp only[qE,jA]
  by_cases h:i=t
  ·subst h;simp
  ·rw[if_neg h,qBd]
   by_cases h1:i≤t
   ·have h2:i+1≤t:=by omega
    rw[if_pos h1,if_pos h2,show t-i=(t-(i+1))+1 by omega]
    simp
   ·have h2 : ¬ i+1≤t:=by omega
    rw[if_neg h1,if_neg h2]
def qU8 (vs:List Value):Value:=match vs with
 | [x]=>x
 | xs=> .tuple xs.toArray
def qJl (P:Program):List ResultVar→Option (List (Nat×Option (Nat×Bool)))
 | []=>some []
 | .tmp t::r=>(qJl P r).map fun l=>(t,none)::l
 | .cell a t::r=>match P.info? t,P.underlying t with
  | some i,some d=>if yI d∨i.size=1 then (qJl P r).map fun l=>(a,some (i.size,yI d))::l else none
  | _,_=>none
def zOh (tmps:Array Value):ResultVar→Sem Value
 | .tmp t=>pure (tmps.getD t undef)
 | .cell a t=>do loadVar t (←asAddr (tmps.getD a undef))
theorem qLv {cx:Cx} {β:Nat→Option BI} {F:Nat→Prop} {fs:Fs} {hs:Hs} {a:Act} {w:World} (R:Rel cx β F (jA fs) (jA hs) a w) : ∀ {rv:List ResultVar} {rs:List (Nat×Option (Nat×Bool))} {vs:List V} {l:List Nat},qJl cx.P rv=some rs→(rsQ fs rs).run (jA hs)=some (vs,l)→
  ∃ xs,(rv.mapM (zOh a.tmps)).run cx.P w = .ok xs w∧wU (qL β F w) vs xs
 | [],rs,vs,l,h,hq=>by
  cases h
  obtain⟨rfl,_⟩:=qB hq
  exact⟨[],by simp,.nil⟩
 | .tmp t::r,rs,vs,l,h,hq=>by
  simp only[qJl,Option.map_eq_some_iff] at h
  obtain⟨rs',hrs,rfl⟩:=h
  simp only[rsQ] at hq
  obtain⟨v,hv,hq⟩:=qC hq
  obtain⟨us,l1,l2,hu,hq,_⟩:=qW hq
  obtain⟨rfl,_⟩:=qB hq
  obtain⟨x,h1,h2⟩:=R.fr t v hv
  obtain⟨xs,h3,h4⟩:=qLv R hrs hu
  refine⟨x::xs,?_,.cons h2 h4⟩
  rw[List.mapM_cons,Sem.run_bind]
  have e:(zOh a.tmps (.tmp t)).run cx.P w = .ok x w:=by simp[zOh,h1]
  rw[e,Result.andThen]
  simp only[Sem.run_bind,h3,Result.andThen]
  simp
 | .cell t ty::r,rs,vs,l,h,hq=>by
  simp only[qJl] at h
  split at h
  ·rename_i i d hi hd
   split at h
   ·rename_i hcond
    simp only[Option.map_eq_some_iff] at h
    obtain⟨rs',hrs,rfl⟩:=h
    simp only[rsQ] at hq
    obtain⟨v,hv,hq⟩:=qC hq
    obtain⟨⟨u,W⟩,l0,l3,hl,hq,_⟩:=qW hq
    obtain⟨us,l1,l2,hu,hq,_⟩:=qW hq
    obtain⟨rfl,_⟩:=qB hq
    obtain⟨x,h1,h2⟩:=R.fr t v hv
    obtain⟨xs,h3,h4⟩:=qLv R hrs hu
    have hx:a.eval (.tmp t)=x:=by simp[Act.eval,h1]
    have han:qI7 cx.P ty (.tmp t)=some (.load i.size (yI d),[.tmp t]):=by simp[qI7,hi,hd,hcond]
    obtain⟨_,y,h5,h6⟩:=zG1 (nb:=0) R han (vs:=[v]) (.cons (by rw[hx];exact h2) .nil) (by simpa [sem] using hl)
    rw[hx] at h5
    have hptr : ∃ ad,x = .pointer (some ad):=by
     cases v<;>simp only[qJm] at hl<;>(try (cases hl;done))
     ·cases h2;exact⟨_,rfl⟩
     ·cases h2;exact⟨_,rfl⟩
    obtain⟨ad,rfl⟩:=hptr
    refine⟨y::xs,?_,.cons h6 h4⟩
    rw[List.mapM_cons,Sem.run_bind]
    have e:(zOh a.tmps (.cell t ty)).run cx.P w = .ok y w:=by
     have e0:a.tmps.getD t undef = .pointer (some ad):=by simp[h1]
     rw[←h5]
     simp only[zOh,e0,Instr.loadAt,Instr.sureAddr,asAddr]
    rw[e,Result.andThen]
    simp only[Sem.run_bind,h3,Result.andThen]
    simp
   ·cases h
  ·cases h
theorem qOg {P:Program} {fn:Func} {tmps:Array Value} {w:World} {xs:List Value} (h:(fn.results.toList.mapM (zOh tmps)).run P w = .ok xs w):(results fn tmps).run P w = .ok (qU8 xs) w:=by
 have e:results fn tmps=(do
   let vs ←fn.results.mapM (zOh tmps)
   pure (if h:vs.size=1 then vs[0] else .tuple vs)):=by
  unfold results
  congr 1
 rw[e,Array.mapM_eq_mapM_toList,Sem.run_bind]
 have k2:(Functor.map List.toArray (fn.results.toList.mapM (zOh tmps))).run P w = .ok xs.toArray w:=by
  rw[map_eq_pure_bind,Sem.run_bind,h,Result.andThen]
  simp
 rw[k2,Result.andThen]
 cases xs with
 | nil=>simp[qU8]
 | cons t r=>cases r with
  | nil=>simp[qU8]
  | cons t2 r=>simp[qU8]
theorem qU9 {β:Nat→Option BI} {F:Nat→Prop} {w:World} {vs:List V} {us:List Value} (h:wU (qL β F w) vs us):qL β F w (zOi vs) (qU8 us):=by
 have tup:qL β F w (.tup vs) (.tuple us.toArray):=by
  refine .tup vs _ (by simpa using h.length.symm) (fun i c u hc hu=>?_)
  obtain⟨y,h1,h2⟩:=h.get' i c hc
  have:us[i]?=some u:=by simpa using hu
  rw[this] at h1;cases h1
  exact h2
 cases h with
 | nil=>exact tup
 | cons h1 t=>cases t with
  | nil=>exact h1
  | cons h2 t=>exact tup
theorem zHn {P:Program} {G:Gl} {tab:Tab} {f:FuncId} {fn:Func} {c:Code} {ac:AC} {hints:List (Nat×List Nat)} {rs:List (Nat×Option (Nat×Bool))} (hf:P.funcs[f]?=some fn) (hb:fn.body=some c) (hann:ann P fn.ntmps hints c=some ac) (hmx:P.follows .mixedOrders=true)
  (ht:qBm P G tab) (hrs:qJl P fn.results.toList=some rs) {as:List V} {ins:List Ob} {r:V} {outs:List Ob} (hn:as.length≤fn.ntmps) (hi:ins.length≤100)
  (h:ac.wp tab G (qE 0 as) (qE 0 ins) (jK rs ins.length (fun r' outs'=>r'=r∧outs'=outs))):zA4 P G f as ins r outs:=by
 intro w β F vals env fits hargs
 have hd0 : ∀ k bi,β k=some bi→k<100:=by
  intro k bi h
  rcases Nat.lt_or_ge k ins.length with h1 | h1
  ·omega
  ·rw[fits.dom k h1] at h;cases h
 let cx:Cx := { P,w0:=w,F0:=F,inb:=fun b => ∃ k bi,β k=some bi∧bi.blk=some b,nt:=fn.ntmps,gl:=G,β0:=β,d0:=hd0 }
 have hlen:as.length=vals.size:=by simpa using hargs.length
 have lookAs : ∀ t v,jA (qE 0 as) t=some v→as[t]?=some v:=by
  intro t v h;simpa [qBd] using h
 have lookIns : ∀ t v,jA (qE 0 ins) t=some v→ins[t]?=some v:=by
  intro t v h;simpa [qBd] using h
 have R0:Rel cx β F (jA (qE 0 as)) (jA (qE 0 ins)) { tmps:=vals++Array.replicate (fn.ntmps-vals.size) undef,defers:=[] } w:=by
  refine⟨by simp[cx];omega,rfl,fun t v hv=>?_,fun id o ho=>?_,fun id hn=>?_,fun i j bi bj b oi oj h1 h2 h3 h4 _ _ _ _=>fits.inj i j bi bj b h1 h2 h3 h4,rfl,rfl,rfl,Nat.le_refl _,fun _ _ _=>rfl,fun id z es full bi b h1 h2 h3=> .inr ⟨?_,id,bi,h2,h3⟩,fun b hb=>?_,fun b hb=>?_,env.Fw,fun _ _=>Iff.rfl,fun id bi b h1 h2=>(fits.blt id bi b h1 h2).1,fun g cs hg=>?_,fun _ _ h=>h,env.gs⟩
  ·obtain⟨x,h1,h2⟩:=hargs.get' t v (lookAs t v hv)
   refine⟨x,?_,h2⟩
   have hlt:t<vals.size:=by
    have:=(List.getElem?_eq_some_iff.1 (lookAs t v hv)).1
    omega
   rw[Array.getElem?_append_left hlt]
   simpa using h1
  ·obtain⟨bi,h1,h2,_⟩:=fits.ok id o (lookIns id o ho)
   exact⟨bi,h1,h2⟩
  ·refine fits.dom id ?_
   rcases Nat.lt_or_ge id ins.length with h1 | h1
   ·rw[qBd] at hn
    simp[h1] at hn
   ·exact h1
  ·have:=(List.getElem?_eq_some_iff.1 (lookIns id _ h1)).1
   omega
  ·obtain⟨k,bi,h1,h2⟩:=hb
   exact (fits.blt k bi b h1 h2).2
  ·obtain⟨k,bi,h1,h2⟩:=hb
   exact (fits.blt k bi b h1 h2).1
  ·exact (env.gl g cs hg).mono (fun _ _ h=>by cases h) (fun _ h=>h) (fun _ _=>rfl)
 refine calls_of_wp hf hb (AC.sound (cx:=cx) ht hmx hann h R0 (fun e fs hs βR FR a w' hq R=>?_))
 have fin:((rsQ fs rs).bind fun vs=>zY0 ins.length vs).wp hs (fun p _=>p.1=r∧p.2=outs)→a.defers=[] ∧ ∃ v,(results fn a.tmps).run P w' = .ok v w' ∧ ∃ x β' F',Ending.returned v = .returned x∧qLh w β F ins r outs x β' F' w':=by
  intro hq
  rw[Q.wp_bind] at hq
  obtain⟨vs,l0,hvs,⟨r',outs'⟩,l,hrun,e1,e2⟩:=hq
  obtain⟨xs,hxs,hall⟩:=qLv (cx:=cx) R hrs hvs
  refine⟨R.dfr,_,qOg hxs,?_⟩
  ·simp only at e1 e2
   subst e1 e2
   unfold zY0 at hrun
   obtain⟨p,l1,l2,hp,hrun,_⟩:=qW hrun
   obtain⟨q,l3,l4,hqq,hrun,_⟩:=qW hrun
   obtain⟨hdis,hrun⟩:=qF hrun
   obtain⟨fw,l5,l6,hfw,hrun,_⟩:=qW hrun
   obtain⟨e,_⟩:=qB hrun
   simp only[Prod.mk.injEq] at e
   obtain⟨rfl,rfl⟩:=e
   obtain⟨ids,obs,fzq⟩:=q
   obtain⟨t,htt⟩:=qKr (s:=0) (m:=ins.length) (n:=12+ins.length) (rest:=kH p.1) (by simpa [List.range_eq_range'] using hqq)
   have hidk : ∀ k,k<ins.length→ids[k]?=some k:=by
    intro k hk
    rw[htt,List.getElem?_append_left (by simpa using hk)]
    simp[hk]
   obtain⟨F1,R1,hFF,hnd,hlo,hfwl,hlive,fits',hres⟩:=zAe R hp hqq (fun r h=>by simp[h]) hdis hfw hall
   have hβk : ∀ k bi,β k=some bi→βR k=some bi:=R1.ext0
   have hklt : ∀ k bi,β k=some bi→k<ins.length:=by
    intro k bi h
    rcases Nat.lt_or_ge k ins.length with h1 | h1
    ·exact h1
    ·rw[fits.dom k h1] at h;cases h
   refine⟨_,qGb ids βR,F1,rfl,fits',qU9 hres,fun k hk=>?_,fun k bi b hk h1 h2=>?_,fun b hb=>R1.F0 b hb,R1.Fw,R1.os,R1.tape,R1.output,R1.size,fun b hb hk=>R1.ext b hb (fun ⟨k,bi,h1,h2⟩=>hk k bi h1 h2)⟩
   ·obtain⟨bi,h1,_⟩:=fits.ok k ins[k] (by simp[hk])
    simp[qGb,hidk k hk,hβk k bi h1,h1]
   ·unfold qGb at h1
    rw[Option.bind_eq_some_iff] at h1
    obtain⟨id,hid,h1⟩:=h1
    obtain⟨z,es,full,_,hl⟩:=hlive k id hid
    rcases R1.old id z es full bi b hl h1 h2 with h | ⟨_,k0,bi0,g1,g2⟩
    ·exact h
    ·exfalso
     have hk0:=hklt k0 bi0 g1
     obtain⟨z0,es0,full0,_,hl0⟩:=hlive k0 k0 (hidk k0 hk0)
     have e:=R1.inj id k0 bi bi0 b _ _ h1 (hβk k0 bi0 g1) h2 g2 hl hl0 (by simp) (by simp)
     subst e
     have hi1:k<ids.length:=(List.getElem?_eq_some_iff.1 hid).1
     have hi2:id<ids.length:=(List.getElem?_eq_some_iff.1 (hidk id hk0)).1
     have:=qBe hnd hi1 hi2 (by
      have a1:=hid
      have a2:=hidk id hk0
      rw[List.getElem?_eq_getElem hi1] at a1
      rw[List.getElem?_eq_getElem hi2] at a2
      rw[Option.some.inj a1,Option.some.inj a2])
     omega
 cases e with
 | normal=>exact fin hq
 | ret=>exact fin hq
 | exit id=>exact hq.elim
end Go.Eng
end
section
namespace Go.Eng
variable {tab:Tab} {gl:Gl} {fs:Fs} {hs:Hs} {Qx:qBs}
theorem zYg:AC.skip.wp tab gl fs hs Qx=Qx .normal fs hs:=Eq.trans (Eq.refl _) rfl
theorem jBq:AC.ret.wp tab gl fs hs Qx=Qx .ret fs hs:=Eq.trans (Eq.refl _) rfl
theorem zYe {id:Nat}:(AC.exit id).wp tab gl fs hs Qx=Qx (.exit id) fs hs:=Eq.trans (Eq.refl _) rfl
def zTv (tab:Tab) (gl:Gl) (b:AC) (Qx:qBs):qBs:=fun e fs' hs'=>match e with | .normal=>b.wp tab gl fs' hs' Qx | e=>Qx e fs' hs'
def qMp (id:Nat) (Qx:qBs):qBs:=fun e fs' hs'=>match e with | .exit id'=>(if id'=id then Qx .normal fs' hs' else Qx (.exit id') fs' hs') | e=>Qx e fs' hs'
theorem jBr {a b:AC}:(AC.seq a b).wp tab gl fs hs Qx=a.wp tab gl fs hs (zTv tab gl b Qx):=Eq.trans (Eq.refl _) rfl
theorem qX0 {b:AC}:zTv tab gl b Qx .normal fs hs=b.wp tab gl fs hs Qx:=Eq.trans (Eq.refl _) rfl
theorem zHb {b:AC} {id:Nat}:zTv tab gl b Qx (.exit id) fs hs=Qx (.exit id) fs hs:=Eq.trans (Eq.refl _) rfl
theorem zMk {b:AC}:zTv tab gl b Qx .ret fs hs=Qx .ret fs hs:=Eq.trans (Eq.refl _) rfl
theorem zTe {id:Nat} {a:AC}:(AC.block id a).wp tab gl fs hs Qx=a.wp tab gl fs hs (qMp id Qx):=Eq.trans (Eq.refl _) rfl
theorem qRl {id:Nat}:qMp id Qx .normal fs hs=Qx .normal fs hs:=Eq.trans (Eq.refl _) rfl
theorem zA7 {id:Nat}:qMp id Qx .ret fs hs=Qx .ret fs hs:=Eq.trans (Eq.refl _) rfl
theorem qWq {id id':Nat}:qMp id Qx (.exit id') fs hs=if id'=id then Qx .normal fs hs else Qx (.exit id') fs hs:=Eq.trans (Eq.refl _) rfl
theorem zYd {c:qCp} {a b:AC}:(AC.cond c a b).wp tab gl fs hs Qx=qGn (c.val gl (jA fs)) (a.wp tab gl fs hs Qx) (b.wp tab gl fs hs Qx):=Eq.trans (Eq.refl _) rfl
theorem zTf {c:qCp} {a b:AC}:(AC.condb c a b).wp tab gl fs hs Qx=qK2 (c.val gl (jA fs)) (a.wp tab gl fs hs Qx) (b.wp tab gl fs hs Qx):=Eq.trans (Eq.refl _) rfl
def qN2 (tab:Tab) (gl:Gl) (a:AC) (fs:Fs) (hs:Hs) (Qx:qBs):Prop:=zIs (fun fs hs K=>a.wp tab gl fs hs K) fs hs Qx
theorem zYf {a:AC}:(AC.loop a).wp tab gl fs hs Qx=qN2 tab gl a fs hs Qx:=Eq.trans (Eq.refl _) rfl
@[congr] theorem zQi {a:AC} {fs':Fs} {hs':Hs} (h1:fs=fs') (h2:hs=hs'):qN2 tab gl a fs hs Qx=qN2 tab gl a fs' hs' Qx:=by rw[h1,h2]
def zWk (anc:Option (List Nat)) (Qx:qBs):Fs→Hs→List (List Nat×List Nat)→Prop:=fun fs' hs' acc=>(match anc with | none=>True | some l=>chk l acc=true)∧Qx .normal fs' hs'
theorem zGq {acc:List (List Nat×List Nat)}:zWk none Qx fs hs acc=Qx .normal fs hs:=by simp[zWk]
theorem zGr {l:List Nat} {acc:List (List Nat×List Nat)}:zWk (some l) Qx fs hs acc=(chk l acc=true∧Qx .normal fs hs):=Eq.trans (Eq.refl _) rfl
def opK (tab:Tab) (gl:Gl) (r:List zM) (nb:Nat) (fs:Fs) (d:Option Nat) (hs:Hs) (acc:List (List Nat×List Nat)) (K:Fs→Hs→List (List Nat×List Nat)→Prop):V×Wr→List Nat→Prop:=
 fun p l=>zDk tab gl r nb (zOm fs d p.1) (qTe hs p.2) (acc++[(yZ p.2,l)]) K
theorem zQx {r:List zM} {nb:Nat} {d:Option Nat} {acc:List (List Nat×List Nat)} {K:Fs→Hs→List (List Nat×List Nat)→Prop} {v:V} {W:Wr} {l:List Nat} :
  opK tab gl r nb fs d hs acc K (v,W) l=zDk tab gl r nb (zOm fs d v) (qTe hs W) (acc++[(yZ W,l)]) K:=Eq.trans (Eq.refl _) rfl
def zZq {α:Type} (id:Nat) (K:α→List Nat→Prop):α→List Nat→Prop:=fun x l=>K x (id::l)
theorem zKn {α:Type} {id:Nat} {K:α→List Nat→Prop} {x:α} {l:List Nat}:zZq id K x l=K x (id::l):=Eq.trans (Eq.refl _) rfl
def zY7 {α:Type} (l:List Nat) (K:α→List Nat→Prop):α→List Nat→Prop:=fun x l'=>K x (l++l')
theorem zI3 {α:Type} {l l':List Nat} {K:α→List Nat→Prop} {x:α}:zY7 l K x l'=K x (l++l'):=Eq.trans (Eq.refl _) rfl
def zZa {α γ:Type} (hs:Hs) (f:γ→Q α) (K:α→List Nat→Prop):γ→List Nat→Prop:=fun x l=>(f x).wp hs (zY7 l K)
theorem zDz {α γ:Type} {f:γ→Q α} {K:α→List Nat→Prop} {x:γ} {l:List Nat}:zZa hs f K x l=(f x).wp hs (zY7 l K):=Eq.trans (Eq.refl _) rfl
theorem qY5 {α:Type} {o:Ob} {id:Nat} {k:Ob→Q α} {K:α→List Nat→Prop}:zDb hs (some o) id k K=(k o).wp hs (zZq id K):=Eq.trans (Eq.refl _) rfl
theorem qV8 {α:Type} {id:Nat} {k:Q α} {K:α→List Nat→Prop}:qQ5 hs none id k K=k.wp hs (zZq id K):=Eq.trans (Eq.refl _) rfl
theorem jBp {nb:Nat} {anc:Option (List Nat)} {o:zM} {os:List zM}:(AC.reg nb anc (o::os)).wp tab gl fs hs Qx =
  (o.q tab gl (jA fs) nb).wp hs (opK tab gl os (nb+16) fs o.dst hs [] (zWk anc Qx)):=Eq.trans (Eq.refl _) rfl
theorem zH6 {nb:Nat} {anc:Option (List Nat)}:(AC.reg nb anc []).wp tab gl fs hs Qx=zWk anc Qx fs hs []:=Eq.trans (Eq.refl _) rfl
theorem zM5 {nb:Nat} {acc:List (List Nat×List Nat)} {K:Fs→Hs→List (List Nat×List Nat)→Prop}:zDk tab gl [] nb fs hs acc K=K fs hs acc:=Eq.trans (Eq.refl _) rfl
theorem zH1 {o:zM} {r:List zM} {nb:Nat} {acc:List (List Nat×List Nat)} {K:Fs→Hs→List (List Nat×List Nat)→Prop} :
  zDk tab gl (o::r) nb fs hs acc K=(o.q tab gl (jA fs) nb).wp hs (opK tab gl r (nb+16) fs o.dst hs acc K):=Eq.trans (Eq.refl _) rfl
theorem zFw:yZ []=[]:=Eq.trans (Eq.refl _) rfl
theorem zBr {p:Nat×Ob} {r:Wr}:yZ (p::r)=p.1::yZ r:=Eq.trans (Eq.refl _) rfl
theorem zKo {α:Type} {t:Nat}:jA ([]:List (Nat×α)) t=none:=Eq.trans (Eq.refl _) rfl
theorem zF0 {α:Type} {k t:Nat} {v:α} {r:List (Nat×α)}:jA ((k,v)::r) t=if k=t then some v else jA r t:=Eq.trans (Eq.refl _) rfl
theorem zMm {α:Type} {k:Nat} {v:α}:zY2 [] k v=[(k,v)]:=Eq.trans (Eq.refl _) rfl
theorem zHc {α:Type} {k k':Nat} {v v':α} {r:List (Nat×α)}:zY2 ((k',v')::r) k v=if k'=k then (k,v)::r else (k',v')::zY2 r k v:=Eq.trans (Eq.refl _) rfl
theorem zHe {d:Nat} {v:V}:zOm fs (some d) v=(d,v)::fs:=Eq.trans (Eq.refl _) rfl
theorem zHd {v:V}:zOm fs none v=fs:=Eq.trans (Eq.refl _) rfl
theorem zMy:qTe hs []=hs:=Eq.trans (Eq.refl _) rfl
theorem zHv {i:Nat} {o:Ob} {r:Wr}:qTe hs ((i,o)::r)=qTe ((i,o)::hs) r:=Eq.trans (Eq.refl _) rfl
theorem zNd {α:Type} {i:Nat}:qE i ([]:List α)=[]:=Eq.trans (Eq.refl _) rfl
theorem zIh {α:Type} {i:Nat} {x:α} {r:List α}:qE i (x::r)=(i,x)::qE (i+1) r:=Eq.trans (Eq.refl _) rfl
variable {K:V×Wr→List Nat→Prop} {nb:Nat} {fm:Nat→Option V}
theorem zRc {d:Option Nat} {k:AK} {xs:List qCp}:((⟨d,k,xs,none⟩:zM).q tab gl fm nb).wp hs K=qV9 hs (kJ gl fm xs) (fun vs=>k.q tab nb vs) K:=by
 simp only[zM.q,qCj,Q.wp_of_bind,qO1,if_true,zM.go]
def qQl (g:Option Bool) (A B:Prop):Prop:=
 match g with
 | some true=>A
 | some false=>B
 | none=>False
@[congr] theorem zNx {g g':Option Bool} {A B:Prop} (h:g=g'):qQl g A B=qQl g' A B:=by rw[h]
theorem qXb {A B:Prop}:qQl (some true) A B=A:=Eq.trans (Eq.refl _) rfl
theorem qUn {A B:Prop}:qQl (some false) A B=B:=Eq.trans (Eq.refl _) rfl
theorem zRb {d:Option Nat} {k:AK} {xs:List qCp} {t:Nat} {b:Bool}:((⟨d,k,xs,some (t,b)⟩:zM).q tab gl fm nb).wp hs K =
  qQl (qCj fm (some (t,b))) (qV9 hs (kJ gl fm xs) (fun vs=>k.q tab nb vs) K) (K (.tup [],[]) []):=by
 simp only[zM.q,Q.wp_of_bind]
 cases h:qCj fm (some (t,b)) with
 | none=>rfl
 | some g=>cases g<;>simp[qQl,qO1,zM.go,Q.wp_of_bind,Q.wp_ret]
theorem qUm {t:Nat} {b:Bool}:qCj fm (some (t,b))=match fm t with
  | some (.t (.bool c))=>some (c==b)
  | some (.tup [])=>some false
  | _=>none:=Eq.trans (Eq.refl _) rfl
theorem zM3:kJ gl fm []=some []:=Eq.trans (Eq.refl _) rfl
theorem zM4 {t:Nat} {r:List qCp}:kJ gl fm (.tmp t::r)=(fm t).bind fun v=>(kJ gl fm r).map (v :: ·):=Eq.trans (Eq.refl _) rfl
theorem zM2 {v:V} {r:List qCp}:kJ gl fm (.cst v::r)=(kJ gl fm r).map (v :: ·):=Eq.trans (Eq.refl _) rfl
theorem zHz {g:Nat} {r:List qCp}:kJ gl fm (.glob g::r)=((gl g).map V.ro).bind fun v=>(kJ gl fm r).map (v :: ·):=Eq.trans (Eq.refl _) rfl
theorem zS2 {t:Nat}:(qCp.tmp t).val gl fm=fm t:=Eq.trans (Eq.refl _) rfl
theorem zS1 {v:V}:(qCp.cst v).val gl fm=some v:=Eq.trans (Eq.refl _) rfl
theorem zZo {ao:AO} {vs:List V}:(AK.op ao).q tab nb vs=sem ao vs nb:=Eq.trans (Eq.refl _) rfl
theorem zQb {f:FuncId} {keep:Bool} {vs:List V}:(AK.call f keep).q tab nb vs=qO8 tab f keep vs nb:=Eq.trans (Eq.refl _) rfl
theorem zKh {f:FuncId} {keep:Bool} {caps rest:List V}:(AK.callv keep).q tab nb (.fn f caps::rest)=qO8 tab f keep (rest++caps) nb:=Eq.trans (Eq.refl _) rfl
theorem zKg {g id i f:Nat} {keep:Bool} {rest:List V}:(AK.callv keep).q tab nb (.bd g id i f::rest)=qO8 tab g keep (.ref id i f::rest) nb:=Eq.trans (Eq.refl _) rfl
attribute [go_sem] zKg
theorem qB5 {α β γ:Type} {q:Q α} {f:α→Q β} {g:β→Q γ}:(q.bind f).bind g=q.bind fun x=>(f x).bind g:=by
 induction q with
 | ret a=>rfl
 | fail=>rfl
 | get id k ih=>simp only[Q.bind,ih]
 | free id k ih=>simp only[Q.bind,ih]
theorem qY7 {α γ:Type} {x:γ} {f:γ→Q α} {K:α→List Nat→Prop}:((Q.ret x).bind f).wp hs K=(f x).wp hs K:=Eq.trans (Eq.refl _) rfl
theorem qWb {α γ:Type} {f:γ→Q α} {K:α→List Nat→Prop}:((Q.fail).bind f).wp hs K=False:=Q.wp_fail
theorem qWa {α β γ:Type} {q:Q α} {f:α→Q β} {g:β→Q γ} {K:γ→List Nat→Prop}:((q.bind f).bind g).wp hs K=(q.bind fun x=>(f x).bind g).wp hs K:=by rw[qB5]
theorem qY6 {α γ:Type} {id:Nat} {k:Ob→Q γ} {f:γ→Q α} {K:α→List Nat→Prop}:((Q.get id k).bind f).wp hs K=zDb hs (jA hs id) id (fun o=>(k o).bind f) K:=Q.wp_get
theorem qWc {α γ:Type} {id:Nat} {k:Q γ} {f:γ→Q α} {K:α→List Nat→Prop}:((Q.free id k).bind f).wp hs K=qQ5 hs (jA hs id) id (k.bind f) K:=Q.wp_free
theorem qP4 {α γ:Type} {b:Prop} [Decidable b] {q:Q γ} {f:γ→Q α} {K:α→List Nat→Prop}:((Q.assert b q).bind f).wp hs K=(b∧(q.bind f).wp hs K):=by
 rw[←Q.wp_assert]
 unfold Q.assert
 split<;>rfl
def wpA (b P:Prop):Prop:=b∧P
@[congr] theorem zYk {b b' P:Prop} (h:b=b'):wpA b P=wpA b' P:=by rw[h]
theorem zM7 {P:Prop}:wpA True P=P:=by simp[wpA]
theorem jBs {b P:Prop} (h:b):wpA b P=P:=by simp[wpA,h]
theorem zTg {a b P:Prop}:wpA (a∧b) P=wpA a (wpA b P):=by simp[wpA,and_assoc]
theorem zDe {α:Type} {b:Prop} [Decidable b] {q:Q α} {K:α→List Nat→Prop}:(Q.assert b q).wp hs K=wpA b (q.wp hs K):=Q.wp_assert
theorem qO2 {α γ:Type} {b:Prop} [Decidable b] {q:Q γ} {f:γ→Q α} {K:α→List Nat→Prop}:((Q.assert b q).bind f).wp hs K=wpA b ((q.bind f).wp hs K):=qP4
theorem zIc {α γ:Type} {b:Prop} [Decidable b] {o:Option γ} {f:γ→Q α} {K:α→List Nat→Prop}:qV9 hs (if b then o else none) f K=wpA b (qV9 hs o f K):=zM8
theorem zDd {α γ:Type} {b:Prop} [Decidable b] {o:Option γ} {f:γ→Q α} {K:α→List Nat→Prop}:qV9 hs (if b then none else o) f K=wpA (¬ b) (qV9 hs o f K):=zIb
theorem qLk {α γ:Type} {x:γ} {f:γ→Q α}:(Q.ret x).bind f=f x:=Eq.trans (Eq.refl _) rfl
theorem zSl {vs:List V}:sem .mov vs nb=zAr vs:=Eq.trans (Eq.refl _) rfl
theorem zMi {vs:List V}:sem .smov vs nb=qSj vs:=Eq.trans (Eq.refl _) rfl
theorem zMg {vs:List V}:sem .pick vs nb=qOm vs:=Eq.trans (Eq.refl _) rfl
theorem zSh {vs:List V}:sem .box vs nb=qVe nb vs:=Eq.trans (Eq.refl _) rfl
theorem zB4 {vs:List V}:sem .boxArr vs nb=qFe nb vs:=Eq.trans (Eq.refl _) rfl
theorem zSn {vs:List V}:sem .s2b vs nb=qQz nb vs:=Eq.trans (Eq.refl _) rfl
theorem zSe {vs:List V}:sem .b2s vs nb=zAn vs:=Eq.trans (Eq.refl _) rfl
theorem zB7 {vs:List V}:sem .sindex vs nb=qC3 vs:=Eq.trans (Eq.refl _) rfl
theorem zSi {vs:List V}:sem .len vs nb=qVf vs:=Eq.trans (Eq.refl _) rfl
theorem zMh {vs:List V}:sem .slen vs nb=qJn vs:=Eq.trans (Eq.refl _) rfl
theorem zB2 {vs:List V}:sem .appstr vs nb=xQ nb vs:=Eq.trans (Eq.refl _) rfl
theorem zSk {vs:List V}:sem .min vs nb=zAq vs:=Eq.trans (Eq.refl _) rfl
theorem zSj {vs:List V}:sem .max vs nb=zAp vs:=Eq.trans (Eq.refl _) rfl
theorem zSd {n:Nat} {k:IntKind} {neg:Bool} {vs:List V}:sem (.aeq n k neg) vs nb=qOj n k neg vs:=Eq.trans (Eq.refl _) rfl
theorem zB6 {vs:List V}:sem .nilchk vs nb=qFf vs:=Eq.trans (Eq.refl _) rfl
theorem zSm {z:Nat} {es:List V} {vs:List V}:sem (.new z es) vs nb=qVg z es nb vs:=Eq.trans (Eq.refl _) rfl
theorem zG3 {z:List V} {pl:List (Nat×Nat)} {vs:List V}:sem (.build z pl) vs nb=qIn z pl vs:=Eq.trans (Eq.refl _) rfl
theorem zB5 {z len:Nat} {zero:V} {ix:List Nat} {vs:List V}:sem (.bslice z len zero ix) vs nb=qIm z len zero ix nb vs:=Eq.trans (Eq.refl _) rfl
theorem zMd {n:Nat} {agg:Bool} {vs:List V}:sem (.load n agg) vs nb=qJm n agg vs:=Eq.trans (Eq.refl _) rfl
theorem zHa {n:Nat} {vs:List V}:sem (.store n) vs nb=qIr n vs:=Eq.trans (Eq.refl _) rfl
theorem zSg {op:BinOp} {vs:List V}:sem (.bin op) vs nb=zAo op vs:=Eq.trans (Eq.refl _) rfl
theorem zSf {neg:Bool} {vs:List V}:sem (.beq neg) vs nb=qVd neg vs:=Eq.trans (Eq.refl _) rfl
theorem zW0 {op:UnOp} {vs:List V}:sem (.un op) vs nb=zL8 op vs:=Eq.trans (Eq.refl _) rfl
theorem zL9 {k:IntKind} {vs:List V}:sem (.conv k) vs nb=qDt k vs:=Eq.trans (Eq.refl _) rfl
theorem qXz {z by_:Nat} {zero:V} {vs:List V}:sem (.mkslice z by_ zero) vs nb=zL7 z by_ zero nb vs:=Eq.trans (Eq.refl _) rfl
theorem zB8 {lo hi mx:Bool} {vs:List V}:sem (.sslice lo hi mx) vs nb=qIq lo hi mx vs:=Eq.trans (Eq.refl _) rfl
theorem zG9 {z:Nat} {lo hi mx:Bool} {vs:List V}:sem (.slice z lo hi mx) vs nb=qL0 z lo hi mx vs:=Eq.trans (Eq.refl _) rfl
theorem zB3 {n z:Nat} {lo hi mx:Bool} {vs:List V}:sem (.aslice n z lo hi mx) vs nb=qIl n z lo hi mx vs:=Eq.trans (Eq.refl _) rfl
theorem zG4 {off:Nat} {vs:List V}:sem (.faddr off) vs nb=qLx off vs:=Eq.trans (Eq.refl _) rfl
theorem zG5 {off n:Nat} {agg:Bool} {vs:List V}:sem (.field off n agg) vs nb=qLy off n agg vs:=Eq.trans (Eq.refl _) rfl
theorem zG6 {z:Nat} {vs:List V}:sem (.iaddr z) vs nb=qIo z vs:=Eq.trans (Eq.refl _) rfl
theorem zG2 {n z:Nat} {vs:List V}:sem (.aaddr n z) vs nb=qIk n z vs:=Eq.trans (Eq.refl _) rfl
theorem zG7 {n z:Nat} {agg:Bool} {vs:List V}:sem (.index n z agg) vs nb=qLz n z agg vs:=Eq.trans (Eq.refl _) rfl
theorem qXy {i:Nat} {vs:List V}:sem (.extract i) vs nb=qC2 i vs:=Eq.trans (Eq.refl _) rfl
theorem zMc {n:Nat} {vs:List V}:sem (.lenc n) vs nb=qOl n vs:=Eq.trans (Eq.refl _) rfl
theorem zB1 {z by_:Nat} {vs:List V}:sem (.append z by_) vs nb=qC1 z by_ nb vs:=Eq.trans (Eq.refl _) rfl
theorem qXx {z by_:Nat} {vs:List V}:sem (.appendt z by_) vs nb=qFo z by_ nb vs:=Eq.trans (Eq.refl _) rfl
theorem zMe {f:FuncId} {vs:List V}:sem (.mkbd f) vs nb=qSh f vs:=Eq.trans (Eq.refl _) rfl
theorem zMb {vs:List V}:sem .idsl vs nb=qSg vs:=Eq.trans (Eq.refl _) rfl
theorem zG8 {neg:Bool} {vs:List V}:sem (.nileq neg) vs nb=qIp neg vs:=Eq.trans (Eq.refl _) rfl
attribute [go_sem] zG8 qIp
attribute [go_sem] qXx zMe zMb
theorem zMa {z:Nat} {vs:List V}:sem (.copy z) vs nb=qOk z vs:=Eq.trans (Eq.refl _) rfl
theorem zMf {f:FuncId} {vs:List V}:sem (.mkfn f) vs nb=qSi f vs:=Eq.trans (Eq.refl _) rfl
theorem zW9 {k:IntKind} {n:Int}:(T.int k n).cells=[T.int k n]:=Eq.trans (Eq.refl _) rfl
theorem zSs {b:Bool}:(T.bool b).cells=[T.bool b]:=Eq.trans (Eq.refl _) rfl
theorem zXa {s:ByteArray}:(T.str s).cells=[T.str s]:=Eq.trans (Eq.refl _) rfl
theorem zSt  : T.fnil.cells=[T.fnil]:=Eq.trans (Eq.refl _) rfl
theorem zSu  : T.pnil.cells=[T.pnil]:=Eq.trans (Eq.refl _) rfl
theorem zW8 {cs:List T}:(T.agg cs).cells=cs:=Eq.trans (Eq.refl _) rfl
theorem jBc {cs:List T}:(T.sl cs).cells=[T.sl cs]:=Eq.trans (Eq.refl _) rfl
theorem zXy {k:IntKind} {n:Int}:(V.t (T.int k n)).cells=[V.t (T.int k n)]:=Eq.trans (Eq.refl _) rfl
theorem zS3 {b:Bool}:(V.t (T.bool b)).cells=[V.t (T.bool b)]:=Eq.trans (Eq.refl _) rfl
theorem zX1 {s:ByteArray}:(V.t (T.str s)).cells=[V.t (T.str s)]:=Eq.trans (Eq.refl _) rfl
theorem zS4  : (V.t T.fnil).cells=[V.t T.fnil]:=Eq.trans (Eq.refl _) rfl
theorem zS5  : (V.t T.pnil).cells=[V.t T.pnil]:=Eq.trans (Eq.refl _) rfl
theorem zS7 {cs:List T}:(V.t (T.agg cs)).cells=cs.map V.t:=Eq.trans (Eq.refl _) rfl
theorem zX2 {cs:List T}:(V.t (T.sl cs)).cells=[V.t (T.sl cs)]:=Eq.trans (Eq.refl _) rfl
theorem zXz  : V.nil.cells=[V.nil]:=Eq.trans (Eq.refl _) rfl
theorem zX0 {id i f:Nat}:(V.ref id i f).cells=[V.ref id i f]:=Eq.trans (Eq.refl _) rfl
theorem jBf {g id i f:Nat}:(V.bd g id i f).cells=[V.bd g id i f]:=Eq.trans (Eq.refl _) rfl
theorem jBg:V.bq.cells=[V.bq]:=Eq.trans (Eq.refl _) rfl
attribute [go_sem] jBg
attribute [go_sem] jBf
theorem jBi {cs:List T}:(V.ro cs).cells=[V.ro cs]:=Eq.trans (Eq.refl _) rfl
theorem jBj {id i f:Nat}:(V.sl id i f).cells=[V.sl id i f]:=Eq.trans (Eq.refl _) rfl
theorem zXx {cs:List V}:(V.agg cs).cells=cs:=Eq.trans (Eq.refl _) rfl
theorem jBh {f:FuncId} {cs:List V}:(V.fn f cs).cells=[V.fn f cs]:=Eq.trans (Eq.refl _) rfl
theorem zX4 {k:IntKind} {n:Int}:(V.t (T.int k n)).plain=true:=Eq.trans (Eq.refl _) rfl
theorem zS8 {b:Bool}:(V.t (T.bool b)).plain=true:=Eq.trans (Eq.refl _) rfl
theorem zX7 {s:ByteArray}:(V.t (T.str s)).plain=true:=Eq.trans (Eq.refl _) rfl
theorem zTa  : (V.t T.fnil).plain=true:=Eq.trans (Eq.refl _) rfl
theorem zTb  : (V.t T.pnil).plain=true:=Eq.trans (Eq.refl _) rfl
theorem zTd {cs:List T}:(V.t (T.agg cs)).plain=true:=Eq.trans (Eq.refl _) rfl
theorem zX8 {cs:List T}:(V.t (T.sl cs)).plain=true:=Eq.trans (Eq.refl _) rfl
theorem zX5  : V.nil.plain=true:=Eq.trans (Eq.refl _) rfl
theorem zX6 {id i f:Nat}:(V.ref id i f).plain=true:=Eq.trans (Eq.refl _) rfl
theorem jBk {g id i f:Nat}:(V.bd g id i f).plain=true:=Eq.trans (Eq.refl _) rfl
theorem jBl:V.bq.plain=true:=Eq.trans (Eq.refl _) rfl
attribute [go_sem] jBl
attribute [go_sem] jBk
theorem jBn {cs:List T}:(V.ro cs).plain=true:=Eq.trans (Eq.refl _) rfl
theorem jBo {id i f:Nat}:(V.sl id i f).plain=true:=Eq.trans (Eq.refl _) rfl
theorem zX3 {cs:List V}:(V.agg cs).plain=true:=Eq.trans (Eq.refl _) rfl
theorem jBm {f:FuncId} {cs:List V}:(V.fn f cs).plain=true:=Eq.trans (Eq.refl _) rfl
theorem zUa {op:BinOp} {k k':IntKind} {x y:Int}:qEq op (.int k x) (.int k' y)=qO7 op k x k' y:=Eq.trans (Eq.refl _) rfl
theorem zO9 {x y:ByteArray}:qEq .add (.str x) (.str y)=if x.size+y.size≤maxLen then some (.str (x++y)) else none:=Eq.trans (Eq.refl _) rfl
theorem zUb {x y:ByteArray}:qEq .eql (.str x) (.str y)=some (.bool (x.toList==y.toList)):=Eq.trans (Eq.refl _) rfl
theorem zUc {x y:ByteArray}:qEq .neq (.str x) (.str y)=some (.bool !(x.toList==y.toList)):=Eq.trans (Eq.refl _) rfl
theorem zXk {b:Bool}:unT .not (.bool b)=some (.bool !b):=Eq.trans (Eq.refl _) rfl
theorem zXj {k:IntKind} {n:Int}:unT .neg (.int k n)=some (.int k (k.wrap (0-n))):=Eq.trans (Eq.refl _) rfl
theorem zUw {k:IntKind} {n:Int}:yL (.t (.int k n))=some n:=Eq.trans (Eq.refl _) rfl
theorem zWy {k k':IntKind} {n:Int}:qDt k [.t (.int k' n)] = .ret (.t (.int k (k.wrap n)),[]):=Eq.trans (Eq.refl _) rfl
attribute [go_sem] zW9 zSs zXa zSt zSu zW8 jBc zXy zS3 zX1 zS4 zS5 zS7 zX2 zXz zX0 jBi jBj zXx jBh zX4 zS8 zX7 zTa zTb zTd zX8 zX5 zX6 jBn jBo zX3 jBm zUa zO9 zUb zUc zXk zXj zUw zWy
attribute [go_sem ↓] zYg jBq zYe jBr zTe zYf zYd zTf jBp zH6 qX0 zHb zMk qRl zA7 qWq zGq zGr zRc zRb zZo zQb zKh
 zQx zKn zI3 zDz Q.wp_of_bind Q.wp_ret Q.wp_fail Q.wp_get Q.wp_free zDe qY7 qWb qWa qY6 qWc qO2
attribute [go_sem] zJh zPe
attribute [go_sem] zM7 zTg zM5 zH1 zM3 zM4 zM2 zHz zS2 zS1 zKo zF0 zMm zHc zHe zHd zMy zHv zNd zIh zFw zBr
 qO1 zId zIc zDd qY5 zDc qY4 qV8 Q.wp_ite zBb qWv qXb qUn qUm
attribute [go_sem] Option.bind_some Option.map_some Option.bind_none Option.map_none true_and and_true List.nil_append List.cons_append List.append_nil
attribute [go_sem] zSd qOj zSl zMi zMg zSh zB4 zSn zSe zB7 zSi zMh zB2 zSk zSj zB6 zSm zG3 zB5 zMd zHa zSg zSf zW0 zL9 qXz zB8 zG9 zB3 zG4 zG5 zG6 zG2 zG7 qXy zMc zB1 zMa zMf
attribute [go_sem] zAr qSj qOm qVg qVe qFe qIn qIm qJm qIr zAo qVd zL8 qQz zAn zL7 qIq qL0 qIl qLx qLy qIo qIk qLz qC3 qC2 qJn qVf qOl qC1 xQ qOk zAq zAp qSi qSh qSg qFo qFf
 qO7 qK6 qA6 qK0 jK rsQ
end Go.Eng
end
section
namespace Go.Eng
mutual
def V.ids:V→List Nat
 | .ref id _ _=>[id]
 | .bd _ id _ _=>[id]
 | .sl id _ _=>[id]
 | .agg cs=>qIa cs
 | .tup cs=>qIa cs
 | .fn _ cs=>qIa cs
 | _=>[]
def qIa:List V→List Nat
 | []=>[]
 | c::r=>c.ids++qIa r
end
theorem wA : ∀ {cs:List V} {c:V} {r:Nat},c∈cs→r∈c.ids→r∈qIa cs
 | x::cs,c,r,hc,hr=>by
  simp only[qIa,List.mem_append]
  simp only[List.mem_cons] at hc
  rcases hc with rfl | hc
  ·exact .inl hr
  ·exact .inr (wA hc hr)
theorem zNy (ts:List T):qIa (ts.map .t)=[]:=by
 induction ts with
 | nil=>rfl
 | cons x r ih=>simp[qIa,V.ids,ih]
theorem qL.sub {β β':Nat→Option BI} {F:Nat→Prop} {w:World} {v:V} {x:Value} (h:qL β F w v x):(∀ i∈v.ids,∀ bi,β i=some bi→β' i=some bi)→qL β' F w v x:=by
 induction h with
 | t h=>intro _;exact .t h
 | nil=>intro _;exact .nil
 | ref id i f b sz room hb=>intro hs;exact .ref id i f b sz room (hs id (by simp[V.ids]) _ hb)
 | bd g id i f b sz room hb=>intro hs;exact .bd g id i f b sz room (hs id (by simp[V.ids]) _ hb)
 | bq b=>intro _;exact .bq b
 | ro cs a news ha hn h1 hF hw h=>intro _;exact .ro cs a news ha hn h1 hF hw h
 | sl id off len cap b sz room a hb hlc hr ha hs=>intro hsub;exact .sl id off len cap b sz room a (hsub id (by simp[V.ids]) _ hb) hlc hr ha hs
 | slv id sz room hb=>intro hsub;exact .slv id sz room (hsub id (by simp[V.ids]) _ hb)
 | agg cs vs hl h1 _ ih=>intro hs;exact .agg cs vs hl h1 (fun i c u hc hu=>ih i c u hc hu (fun k hk=>hs k (by simp only[V.ids];exact wA (List.mem_of_getElem? hc) hk)))
 | tup cs vs hl _ ih=>intro hs;exact .tup cs vs hl (fun i c u hc hu=>ih i c u hc hu (fun k hk=>hs k (by simp only[V.ids];exact wA (List.mem_of_getElem? hc) hk)))
 | fn f cs vs hl _ ih=>intro hs;exact .fn f cs vs hl (fun i c u hc hu=>ih i c u hc hu (fun k hk=>hs k (by simp only[V.ids];exact wA (List.mem_of_getElem? hc) hk)))
def Cv (hs:Hs) (ρ:Nat→Nat) (vt ks:List Nat) (v v':V):Prop:=
 ((v=v'.ren ρ ∨ ∃ l,(zE 4 v).run (jA hs)=some ((v'.ren ρ,[]),l)) ∧ ∀ i∈v'.ids,i∈ks)∨(v = .nil ∧ ∃ id,id∈vt∧v' = .sl id 0 0)
def CvO (hs:Hs) (ρ:Nat→Nat) (ks:List Nat):Ob→Ob→Prop
 | .live z es wr full,.live z' es' wr' full'=>z=z'∧wr=wr'∧(full'=true→full=true)∧(es=qC6 ρ es' ∨ ∃ l,(qA7 es).run (jA hs)=some ((qC6 ρ es',[]),l)) ∧ ∀ i∈qIa es',i∈ks
 | _,.dead=>True
 | _,_=>False
def qP6 (fs:Fs) (hs:Hs) (ρ:Nat→Nat) (vt ks:List Nat):Fs→Prop
 | []=>True
 | (t,v')::r=>(∃ v,jA fs t=some v∧Cv hs ρ vt ks v v')∧qP6 fs hs ρ vt ks r
def zTm (hs:Hs) (ρ:Nat→Nat) (ks:List Nat):Hs→Prop
 | []=>True
 | (i,o')::r=>((∃ o,jA hs (ρ i)=some o∧CvO hs ρ ks o o')∧(i<100→ρ i=i)∧(100≤i→100≤ρ i))∧zTm hs ρ ks r
def VtW:Hs→Prop
 | []=>True
 | (i,o')::r=>((∃ z full,o' = .live z [] true full)∧100≤i)∧VtW r
theorem qP6.get {fs:Fs} {hs:Hs} {ρ:Nat→Nat} {vt ks:List Nat} : ∀ {fs':Fs},qP6 fs hs ρ vt ks fs' → ∀ t v',jA fs' t=some v' → ∃ v,jA fs t=some v∧Cv hs ρ vt ks v v'
 | [],_,t,v',h=>by cases h
 | (k,u)::r,hw,t,v',h=>by
  simp only[jA] at h
  split at h
  ·cases h;subst_vars;exact hw.1
  ·exact qP6.get hw.2 t v' h
theorem zTm.get {hs:Hs} {ρ:Nat→Nat} {ks:List Nat} : ∀ {hs':Hs},zTm hs ρ ks hs' → ∀ i o',jA hs' i=some o'→(∃ o,jA hs (ρ i)=some o∧CvO hs ρ ks o o')∧(i<100→ρ i=i)∧(100≤i→100≤ρ i)
 | [],_,t,v',h=>by cases h
 | (k,u)::r,hw,t,v',h=>by
  simp only[jA] at h
  split at h
  ·cases h;subst_vars;exact hw.1
  ·exact zTm.get hw.2 t v' h
theorem VtW.get : ∀ {hs':Hs},VtW hs' → ∀ i o',jA hs' i=some o'→(∃ z full,o' = .live z [] true full)∧100≤i
 | [],_,t,v',h=>by cases h
 | (k,u)::r,hw,t,v',h=>by
  simp only[jA] at h
  split at h
  ·cases h;subst_vars;exact hw.1
  ·exact VtW.get hw.2 t v' h
def Ob.z:Ob→Nat
 | .live z _ _ _=>z
 | .dead=>0
theorem qCy {α:Type} : ∀ {l:List (Nat×α)} {i:Nat},i∈l.map (·.1) → ∃ o,jA l i=some o
 | (k,u)::r,i,h=>by
  simp only[jA]
  split
  ·exact⟨_,rfl⟩
  ·rename_i hne
   simp only[List.map_cons,List.mem_cons] at h
   rcases h with h | h
   ·exact absurd h.symm hne
   ·exact qCy h
theorem kD {α:Type} : ∀ {l:List (Nat×α)} {i:Nat} {o:α},jA l i=some o→i∈l.map (·.1)
 | (k,u)::r,i,o,h=>by
  simp only[jA] at h
  split at h
  ·subst_vars;simp
  ·simp[kD h]
theorem qId {α:Type} : ∀ {l r:List (Nat×α)} {i:Nat},jA (l++r) i=match jA l i with | some o=>some o | none=>jA r i
 | [],r,i=>rfl
 | (k,u)::l,r,i=>by
  simp only[List.cons_append,jA]
  split
  ·rfl
  ·exact qId
theorem qRu {β:Nat→Option BI} {F:Nat→Prop}:qLg β F []=F:=by
 funext b
 apply propext
 constructor
 ·intro h
  rcases h with h | ⟨i,hi,_⟩
  ·exact h
  ·simp at hi
 ·exact .inl
variable {cx:Cx} {β:Nat→Option BI} {F:Nat→Prop} {a:Act} {w:World}
theorem zBo {fm:Nat→Option V} {hm:Nat→Option Ob} (R:Rel cx β F fm hm a w) {es es':List V} {l:List Nat} (h:(qA7 es).run hm=some ((es',[]),l)) {sz:Nat} {c:Array Value} (hh:jZ β F w es sz c):es'.length=es.length∧jZ β F w es' sz c:=by
 unfold qA7 at h
 split at h
 ·obtain⟨e,_⟩:=qB h
  cases e
  exact⟨rfl,hh⟩
 ·obtain⟨g1,g2⟩:=yE h
  refine⟨g1,fun i x hx=>?_⟩
  have hi:i<es.length:=by rw[←g1];exact (List.getElem?_eq_some_iff.1 hx).1
  obtain⟨fzi,li,m1,m2⟩:=g2 i es[i] x (by simp[hi]) hx
  obtain⟨k1,k2⟩:=hh i es[i] (by simp[hi])
  by_cases hz:es[i].cells=[]
  ·
   have:x.cells=[]:=by
    cases hx0:es[i] with
    | t y=>
     rw[hx0] at m1 hz
     obtain⟨e,_⟩:=qB (x:=(V.t y,([]:List Nat))) m1
     cases e
     exact hz
    | agg cs=>
     rw[hx0] at m1 hz
     simp only[zE] at m1
     obtain⟨p,l1,l2,hp,m1,_⟩:=qW m1
     obtain⟨e,_⟩:=qB m1
     cases e
     have hcs:cs=[]:=hz
     subst hcs
     have:=(yE hp).1
     rw[qLs]
     exact List.eq_nil_of_length_eq_zero this
    | _=>rw[hx0] at hz;simp[V.cells] at hz
   rw[this]
   rw[hz] at k1
   exact⟨k1,by intro j y hy;simp at hy⟩
  ·obtain⟨q1,q2⟩:=qTn R m1 (fz':=[]) m2 hz (fun j y hy=>let ⟨u,_,b,d⟩:=k2 j y hy;⟨u,b,d⟩)
   refine⟨q1.trans k1,fun j y' hy'=>?_⟩
   have hj:j<es[i].cells.length:=by rw[←q1];exact (List.getElem?_eq_some_iff.1 hy').1
   obtain⟨u,hu,hr,ho⟩:=k2 j (es[i].cells[j]'hj) (by simp[hj])
   obtain⟨s1,_,_⟩:=q2 j (es[i].cells[j]'hj) y' u (by simp[hj]) hy' hr ho
   rw[qRu] at s1
   exact⟨u,hu,s1,ho⟩
theorem qQ.of {fs fs':Fs} {hs hv ho:Hs} (ρ:Nat→Nat) (h1:qP6 fs hs ρ (hv.map (·.1)) (ho.map (·.1)) fs') (h2:zTm hs ρ (ho.map (·.1)) ho) (h3:VtW hv) (hdis : ∀ i∈hv.map (·.1),i ∉ ho.map (·.1))
  (hinj:((ho.map (·.1)).map ρ).Nodup) (hkeep : ∀ k∈hs.map (·.1),k<100→k∈ho.map (·.1)):qQ fs hs fs' (hv++ho):=by
 intro cx β F a w R
 let β':Nat→Option BI:=fun i=>match jA hv i with
  | some o=>some ⟨none,o.z,0⟩
  | none=>match jA ho i with
   | some _=>β (ρ i)
   | none=>none
 have bv : ∀ i o,jA hv i=some o→β' i=some ⟨none,o.z,0⟩:=fun i o h=>by simp[β',h]
 have hvo : ∀ i,i∈ho.map (·.1)→jA hv i=none:=by
  intro i hi
  cases h:jA hv i with
  | none=>rfl
  | some o=>exact absurd hi (hdis i (kD h))
 have bo : ∀ i,i∈ho.map (·.1)→β' i=β (ρ i):=by
  intro i hi
  obtain⟨o,h⟩:=qCy hi
  simp[β',hvo i hi,h]
 have inj : ∀ i j,i∈ho.map (·.1)→j∈ho.map (·.1)→ρ i=ρ j→i=j:=by
  intro i j hi hj e
  obtain⟨m,hm⟩:=List.getElem?_of_mem hi
  obtain⟨n,hn⟩:=List.getElem?_of_mem hj
  have hml:m<(ho.map (·.1)).length:=(List.getElem?_eq_some_iff.1 hm).1
  have hnl:n<(ho.map (·.1)).length:=(List.getElem?_eq_some_iff.1 hn).1
  have:=qBe hinj (i:=m) (j:=n) (by simpa using hml) (by simpa using hnl) (by
   have a1:(ho.map (·.1))[m]=i:=by rw[List.getElem?_eq_getElem hml] at hm;exact Option.some.inj hm
   have a2:(ho.map (·.1))[n]=j:=by rw[List.getElem?_eq_getElem hnl] at hn;exact Option.some.inj hn
   simp only[List.getElem_map] at a1 a2 ⊢
   rw[a1,a2];exact e)
  subst this
  rw[hm] at hn;exact Option.some.inj hn
 have val : ∀ {v v':V} {x:Value},qL β F w v x→Cv hs ρ (hv.map (·.1)) (ho.map (·.1)) v v'→qL β' F w v' x:=by
  intro v v' x hx hc
  rcases hc with⟨hc,hids⟩ | ⟨rfl,id,hid,rfl⟩
  ·have h0:qL β F w (v'.ren ρ) x:=by
    rcases hc with hc | ⟨l,hc⟩
    ·rw[←hc];exact hx
    ·have:=vE R hc hx (fz':=[]) (by simp)
     rw[qRu] at this
     exact this
   have h1:=h0.unren (ρ:=ρ) rfl
   exact h1.sub (fun i hi bi hb=>by rw[bo i (hids i hi)];exact hb)
  ·obtain⟨o,ho'⟩:=qCy hid
   cases hx
   exact .slv id _ _ (bv id o ho')
 have ob : ∀ {bi:BI} {o o':Ob},qCq β F w bi o→CvO hs ρ (ho.map (·.1)) o o'→qCq β' F w bi o':=by
  intro bi o o' hok hc
  cases o' with
  | dead=>trivial
  | live z' es' wr' full'=>
   cases o with
   | dead=>exact hc.elim
   | live z es wr full=>
    obtain⟨rfl,rfl,hfull,hes,hids⟩:=hc
    have hren : ∀ {c:Array Value} {sz:Nat},jZ β F w (qC6 ρ es') sz c→jZ β' F w es' sz c:=by
     intro c sz hh
     have h1:=hh.unren
     intro i x hx
     obtain⟨k1,k2⟩:=h1 i x hx
     refine⟨k1,fun j y hy=>?_⟩
     obtain⟨u,g1,g2,g3⟩:=k2 j y hy
     refine⟨u,g1,g2.sub (fun r hr bi hb=>?_),g3⟩
     have hrx:r∈x.ids:=by
      cases x with
      | agg cs=>simp only[V.ids];exact wA (List.mem_of_getElem? hy) hr
      | t t=>
       obtain⟨c,_,rfl⟩:=wP hy
       simp[V.ids] at hr
      | _=>
       simp only[V.cells] at hy
       cases j with
       | zero=>simp at hy;subst hy;exact hr
       | succ j=>simp at hy
     rw[bo r (hids r (wA (List.mem_of_getElem? hx) hrx))]
     exact hb
    unfold qCq at hok ⊢
    obtain⟨g1,g2,g3⟩:=hok
    have hlen:es'.length=es.length ∧ ∀ {c:Array Value},jZ β F w es bi.sz c→jZ β' F w es' bi.sz c:=by
     rcases hes with rfl | ⟨l,hes⟩
     ·exact⟨by rw[zF];simp,fun hh=>hren hh⟩
     ·refine⟨?_,fun hh=>hren (zBo R hes hh).2⟩
      have:(qC6 ρ es').length=es.length:=by
       unfold qA7 at hes
       split at hes
       ·obtain⟨e,_⟩:=qB hes
        simp only[Prod.mk.injEq] at e
        rw[e.1]
       ·exact (yE hes).1
      rw[zF,List.length_map] at this
      exact this
    refine⟨g1,fun h=>by rw[hlen.1];exact g2 (hfull h),?_⟩
    cases hb:bi.blk with
    | none=>
     simp only[hb] at g3 ⊢
     refine⟨?_,g3.2⟩
     have:=hlen.1
     rw[g3.1] at this
     exact List.eq_nil_of_length_eq_zero this
    | some b=>
     simp only[hb] at g3 ⊢
     obtain⟨c,e,fz,k1,k2,k3,k4,k5,k6,k7⟩:=g3
     exact⟨c,e,fz,k1,k2,k3,by rw[hlen.1];exact k4,k5,hlen.2 k6,k7⟩
 have cases_ : ∀ id o',jA (hv++ho) id=some o'→(∃ z full,o' = .live z [] true full∧β' id=some ⟨none,z,0⟩∧100≤id)∨(id∈ho.map (·.1) ∧ ∃ o,jA hs (ρ id)=some o∧CvO hs ρ (ho.map (·.1)) o o'∧(id<100→ρ id=id)∧(100≤id→100≤ρ id)):=by
  intro id o' h
  rw[qId] at h
  split at h
  ·rename_i o hvl
   cases h
   obtain⟨⟨z,full,rfl⟩,h100⟩:=h3.get id o' hvl
   exact .inl ⟨z,full,rfl,bv id _ hvl,h100⟩
  ·obtain⟨⟨o,g1,g2⟩,g3,g4⟩:=h2.get id o' h
   exact .inr ⟨kD h,o,g1,g2,g3,g4⟩
 have notdead : ∀ {o o':Ob},CvO hs ρ (ho.map (·.1)) o o'→o'≠ .dead→o≠ .dead:=by
  intro o o' hc hd hd'
  subst hd'
  cases o' with
  | dead=>exact hd rfl
  | live _ _ _ _=>exact hc
 refine⟨β',F,R.tsz,R.dfr,fun t v' hv'=>?_,fun id o' ho'=>?_,fun id hn=>?_,fun i j bi bj b oi oj e1 e2 e3 e4 e5 e6 e7 e8=>?_,R.os,R.tape,R.output,R.size,R.ext,fun id z es full bi b e1 e2 e3=>?_,R.inF,R.inw,R.Fw,R.F0,fun id bi b e1 e2=>?_,fun g cs hg=>?_,fun k bi hk=>?_,R.gs⟩
 ·obtain⟨v,g1,g2⟩:=h1.get t v' hv'
  obtain⟨x,g3,g4⟩:=R.fr t v g1
  exact⟨x,g3,val g4 g2⟩
 ·rcases cases_ id o' ho' with⟨z,full,rfl,hb,_⟩ | ⟨hm,o,g1,g2,_⟩
  ·exact⟨_,hb,rfl,fun _=>rfl,rfl,rfl⟩
  ·obtain⟨bi,g3,g4⟩:=R.hp _ o g1
   exact⟨bi,by rw[bo id hm];exact g3,ob g4 g2⟩
 ·rw[qId] at hn
  split at hn
  ·cases hn
  ·rename_i hv0
   simp[β',hv0,hn]
 ·rcases cases_ i oi e5 with⟨z,full,rfl,hb,_⟩ | ⟨hm,o,g1,g2,_⟩
  ·rw[hb] at e1;cases e1;cases e3
  ·rcases cases_ j oj e6 with⟨z,full,rfl,hb,_⟩ | ⟨hm',o',g1',g2',_⟩
   ·rw[hb] at e2;cases e2;cases e4
   ·rw[bo i hm] at e1
    rw[bo j hm'] at e2
    exact inj i j hm hm' (R.inj _ _ bi bj b o o' e1 e2 e3 e4 g1 g1' (notdead g2 e7) (notdead g2' e8))
 ·rcases cases_ id _ e1 with⟨z',full',_,hb,_⟩ | ⟨hm,o,g1,g2,g3,g4⟩
  ·rw[hb] at e2;cases e2;cases e3
  ·rw[bo id hm] at e2
   cases o with
   | dead=>exact g2.elim
   | live z0 es0 wr0 full0=>
    obtain⟨_,rfl,_⟩:=g2
    rcases R.old _ z0 es0 full0 bi b g1 e2 e3 with h | ⟨h,h'⟩
    ·exact .inl h
    ·refine .inr ⟨?_,h'⟩
     rcases Nat.lt_or_ge id 100 with h7 | h7
     ·exact h7
     ·have:=g4 h7;omega
 ·cases hl:jA hv id with
  | some o=>rw[bv id o hl] at e1;cases e1;cases e2
  | none=>
   cases hl2:jA ho id with
   | none=>simp[β',hl,hl2] at e1
   | some o=>
    rw[bo id (kD hl2)] at e1
    exact R.blt _ bi b e1 e2
 ·have:=R.gl g cs hg
  cases this with
  | ro _ ad news ha hn h1' hF hw h=>exact .ro cs _ news ha hn h1' hF hw h
 ·have hβ:=R.ext0 k bi hk
  cases hl:jA hs k with
  | none=>rw[R.dom k hl] at hβ;cases hβ
  | some o=>
   have hk100:=cx.d0 k bi hk
   have hm:=hkeep k (kD hl) hk100
   rw[bo k hm]
   obtain⟨o',ho'⟩:=qCy hm
   rw[(h2.get k o' ho').2.1 hk100]
   exact hβ
end Go.Eng
end
section
namespace Go.Eng
variable {tab:Tab} {gl:Gl} {fs:Fs} {hs:Hs} {Qx:qBs}
def zKq {ι:Type} (I:ι→Fs×Hs) (μ:ι→Nat) (i:ι) (Qx:qBs):qBs:=fun e fs' hs'=>match e with | .normal => ∃ j,μ j<μ i∧qQ fs' hs' (I j).1 (I j).2 | e=>Qx e fs' hs'
theorem qE9 {a:AC} {ι:Type} (I:ι→Fs×Hs) (μ:ι→Nat) (i0:ι) (h0:qQ fs hs (I i0).1 (I i0).2) (h : ∀ i,a.wp tab gl (I i).1 (I i).2 (zKq I μ i Qx)):qN2 tab gl a fs hs Qx:=⟨ι,I,μ,i0,h0,h⟩
def upK (n:Nat) (fI:Nat→Fs) (hI:Nat→Hs) (i:Nat) (Qx:qBs):qBs:=fun e fs' hs'=>match e with | .normal=>i<n∧qQ fs' hs' (fI (i+1)) (hI (i+1)) | e=>Qx e fs' hs'
theorem zCq {n:Nat} {fI:Nat→Fs} {hI:Nat→Hs} {i:Nat}:upK n fI hI i Qx .normal fs hs=(i<n∧qQ fs hs (fI (i+1)) (hI (i+1))):=Eq.trans (Eq.refl _) rfl
theorem zMw {n:Nat} {fI:Nat→Fs} {hI:Nat→Hs} {i id:Nat}:upK n fI hI i Qx (.exit id) fs hs=Qx (.exit id) fs hs:=Eq.trans (Eq.refl _) rfl
theorem zSy {n:Nat} {fI:Nat→Fs} {hI:Nat→Hs} {i:Nat}:upK n fI hI i Qx .ret fs hs=Qx .ret fs hs:=Eq.trans (Eq.refl _) rfl
theorem qQe {v:Option V} {A B A' B':Prop} (hA:A→A') (hB:B→B'):qGn v A B→qGn v A' B':=by
 unfold qGn
 split
 ·exact fun h=>⟨fun e=>hA (h.1 e),fun e=>hB (h.2 e)⟩
 ·exact id
theorem zBa {v:Option V} {A B A' B':Prop} (hA:A→A') (hB:B→B'):qK2 v A B→qK2 v A' B':=by
 unfold qK2
 split
 ·exact fun h=>⟨hA h.1,hB h.2⟩
 ·exact qQe hA hB
theorem qCa {a:AC} : ∀ {fs:Fs} {hs:Hs} {Q Q':qBs},(∀ e f h,Q e f h→Q' e f h)→a.wp tab gl fs hs Q→a.wp tab gl fs hs Q':=by
 induction a with
 | skip=>intro fs hs Q Q' h hw;exact h _ _ _ hw
 | ret=>intro fs hs Q Q' h hw;exact h _ _ _ hw
 | exit id=>intro fs hs Q Q' h hw;exact h _ _ _ hw
 | seq a b iha ihb=>
  intro fs hs Q Q' h hw
  refine iha (fun e f g hq=>?_) hw
  cases e with
  | normal=>exact ihb h hq
  | exit id=>exact h _ _ _ hq
  | ret=>exact h _ _ _ hq
 | cond c a b iha ihb=>
  intro fs hs Q Q' h hw
  exact qQe (iha h) (ihb h) hw
 | condb c a b iha ihb=>
  intro fs hs Q Q' h hw
  exact zBa (iha h) (ihb h) hw
 | block id a ih=>
  intro fs hs Q Q' h hw
  refine ih (fun e f g hq=>?_) hw
  cases e with
  | normal=>exact h _ _ _ hq
  | exit id'=>
   simp only at hq ⊢
   split
   ·rename_i h1;rw[if_pos h1] at hq;exact h _ _ _ hq
   ·rename_i h1;rw[if_neg h1] at hq;exact h _ _ _ hq
  | ret=>exact h _ _ _ hq
 | loop a ih=>
  intro fs hs Q Q' h hw
  obtain⟨ι,I,μ,i0,h0,hr⟩:=hw
  refine⟨ι,I,μ,i0,h0,fun i=>ih (fun e f g hq=>?_) (hr i)⟩
  cases e with
  | normal=>exact hq
  | exit id=>exact h _ _ _ hq
  | ret=>exact h _ _ _ hq
 | reg nb anc ops=>
  intro fs hs Q Q' h hw
  have key : ∀ (ops:List zM) (nb:Nat) (fs:Fs) (hs:Hs) (acc:List (List Nat×List Nat)) (K K':Fs→Hs→List (List Nat×List Nat)→Prop),(∀ f g c,K f g c→K' f g c)→zDk tab gl ops nb fs hs acc K→zDk tab gl ops nb fs hs acc K':=by
   intro ops
   induction ops with
   | nil=>intro nb fs hs acc K K' h hw;exact h _ _ _ hw
   | cons o r ih=>
    intro nb fs hs acc K K' h hw
    obtain⟨x,l,h1,h2⟩:=hw
    exact⟨x,l,h1,ih _ _ _ _ _ _ h h2⟩
  exact key ops nb fs hs [] _ _ (fun f g c hq=>⟨hq.1,h _ _ _ hq.2⟩) hw
theorem qD {a:AC} (n:Nat) (fI:Nat→Fs) (hI:Nat→Hs) (h0:qQ fs hs (fI 0) (hI 0)) (h : ∀ i,i≤n→a.wp tab gl (fI i) (hI i) (upK n fI hI i Qx)):qN2 tab gl a fs hs Qx:=by
 refine qE9 (ι := { i:Nat // i≤n }) (fun i=>(fI i.1,hI i.1)) (fun i=>n-i.1) ⟨0,Nat.zero_le _⟩ h0 (fun i=>?_)
 refine qCa (fun e f g hq=>?_) (h i.1 i.2)
 cases e with
 | normal=>exact⟨⟨i.1+1,hq.1⟩,by simp only;have:=hq.1;omega,hq.2⟩
 | exit id=>exact hq
 | ret=>exact hq
theorem zNj {ts:List T}:qCo (ts.map .t)=some ts:=by
 induction ts with
 | nil=>rfl
 | cons x r ih=>simp[qCo,ih]
theorem zIz:qCo []=some []:=Eq.trans (Eq.refl _) rfl
theorem qMh {x:T} {r:List V}:qCo (.t x::r)=(qCo r).map (x :: ·):=Eq.trans (Eq.refl _) rfl
theorem zI0 {id i f:Nat} {r:List V}:qCo (.ref id i f::r)=none:=Eq.trans (Eq.refl _) rfl
theorem zOu {g id i f:Nat} {r:List V}:qCo (.bd g id i f::r)=none:=Eq.trans (Eq.refl _) rfl
theorem zOv {r:List V}:qCo (.bq::r)=none:=Eq.trans (Eq.refl _) rfl
attribute [go_sem] zOv
attribute [go_sem] zOu
theorem zOy {id i f:Nat} {r:List V}:qCo (.sl id i f::r)=none:=Eq.trans (Eq.refl _) rfl
theorem zDq {r:List V}:qCo (.nil::r)=none:=Eq.trans (Eq.refl _) rfl
theorem zIx {cs:List V} {r:List V}:qCo (.agg cs::r)=none:=Eq.trans (Eq.refl _) rfl
theorem zOx {cs:List T} {r:List V}:qCo (.ro cs::r)=none:=Eq.trans (Eq.refl _) rfl
theorem zOw {f:FuncId} {cs:List V} {r:List V}:qCo (.fn f cs::r)=none:=Eq.trans (Eq.refl _) rfl
theorem zKu {α γ:Type} {f:α→γ}:Option.map f none=none:=Eq.trans (Eq.refl _) rfl
theorem zVr {cs:List V}:V.mk cs=match qCo cs with | some ts=> .t (.agg ts) | none=> .agg cs:=Eq.trans (Eq.refl _) rfl
theorem zEd {g:V→Q (V×List Nat)}:qA8 g [] = .ret ([],[]):=Eq.trans (Eq.refl _) rfl
theorem qFg {g:V→Q (V×List Nat)} {c:V} {r:List V}:qA8 g (c::r)=(g c).bind fun p=>(qA8 g r).bind fun q=> .ret (p.1::q.1,p.2++q.2):=Eq.trans (Eq.refl _) rfl
theorem zEg {n:Nat} {x:T}:zE n (.t x) = .ret (.t x,[]):=by cases n<;>rfl
theorem zJl {n:Nat}:zE n .nil = .ret (.t (.sl []),[]):=by cases n<;>rfl
theorem zPi {n:Nat} {cs:List T}:zE n (.ro cs) = .ret (.ro cs,[]):=by cases n<;>rfl
theorem zJm {n id i f:Nat}:zE n (.ref id i f) = .ret (.ref id i f,[]):=by cases n<;>rfl
theorem zPg {n g id i f:Nat}:zE n (.bd g id i f) = .ret (.bd g id i f,[]):=by cases n<;>rfl
attribute [go_sem] zPg
theorem zJk {n:Nat} {cs:List V}:zE (n+1) (.agg cs)=(qA8 (zE n) cs).bind fun p=> .ret (V.mk p.1,p.2):=Eq.trans (Eq.refl _) rfl
theorem zPh {n:Nat} {f:FuncId} {cs:List V}:zE (n+1) (.fn f cs)=(qA8 (zE n) cs).bind fun p=> .ret (.fn f p.1,p.2):=Eq.trans (Eq.refl _) rfl
theorem zPj {n id off len:Nat}:zE (n+1) (.sl id off len) = .get id fun
  | .live _ es wr _=>Q.assert (off+len≤es.length)
   (match qCo es with
   | some ts=> .ret (.t (.sl ((ts.drop off).take len)),if wr then [id] else [])
   | none=>(qA8 (zE n) es).bind fun p=>match qCo p.1 with
    | some ts=> .ret (.t (.sl ((ts.drop off).take len)),if wr then id::p.2 else p.2)
    | none=> .fail)
  | .dead=> .fail:=Eq.trans (Eq.refl _) rfl
theorem zBn {n:Nat} {ids:List Nat} {obs:List Ob} {fz:List Nat}:xN n [] ids obs fz = .ret (ids,obs,fz):=by cases n<;>rfl
theorem qW8 {n id:Nat} {todo ids:List Nat} {obs:List Ob} {fz:List Nat}:xN (n+1) (id::todo) ids obs fz=if ids.contains id then xN n todo ids obs fz else
  .get id fun
   | .live z es true full=>(qA7 es).bind fun p=>xN n (todo++(match qCo es with | some _=>[] | none=>kH p.1)) (ids++[id]) (obs++[.live z p.1 true full]) (fz++p.2)
   | _=> .fail:=Eq.trans (Eq.refl _) rfl
theorem zJ3:qRt [] = .ret []:=Eq.trans (Eq.refl _) rfl
theorem zFh {id:Nat} {r:List Nat}:qRt (id::r) = .get id fun
  | .live z es true full=>Q.assert (100≤id) ((qRt r).bind fun q=> .ret ((id,.live z es false full)::q))
  | _=> .fail:=Eq.trans (Eq.refl _) rfl
theorem zBl {α:Type} {nb:Nat} {k:Q α}:qW7 nb 0 k=k:=Eq.trans (Eq.refl _) rfl
theorem zBk {α:Type} {nb n:Nat} {k:Q α}:qW7 nb (n+1) k = .free nb (qW7 (nb+1) n k):=Eq.trans (Eq.refl _) rfl
theorem zPx {ids:List Nat} {nb k:Nat}:gam ids nb k=match ids[k]? with | some id=>id | none=>nb+(k-ids.length):=Eq.trans (Eq.refl _) rfl
theorem zGe {ids:List Nat} {nb k:Nat}:qG0 ids nb k []=[]:=Eq.trans (Eq.refl _) rfl
theorem zBw {ids:List Nat} {nb k:Nat} {o:Ob} {r:List Ob}:qG0 ids nb k (o::r)=(gam ids nb k,o.ren (gam ids nb))::qG0 ids nb (k+1) r:=Eq.trans (Eq.refl _) rfl
theorem zLs {ρ:Nat→Nat} {z:Nat} {es:List V} {wr full:Bool}:(Ob.live z es wr full).ren ρ = .live z (qC6 ρ es) wr full:=Eq.trans (Eq.refl _) rfl
theorem zWl {ρ:Nat→Nat} {x:T}:(V.t x).ren ρ = .t x:=Eq.trans (Eq.refl _) rfl
theorem zLp {ρ:Nat→Nat}:V.nil.ren ρ = .nil:=Eq.trans (Eq.refl _) rfl
theorem zLq {ρ:Nat→Nat} {id i f:Nat}:(V.ref id i f).ren ρ = .ref (ρ id) i f:=Eq.trans (Eq.refl _) rfl
theorem zRt {ρ:Nat→Nat} {g id i f:Nat}:(V.bd g id i f).ren ρ = .bd g (ρ id) i f:=Eq.trans (Eq.refl _) rfl
theorem zRu {ρ:Nat→Nat}:V.bq.ren ρ = .bq:=Eq.trans (Eq.refl _) rfl
attribute [go_sem] zRu
attribute [go_sem] zRt
theorem zRw {ρ:Nat→Nat} {cs:List T}:(V.ro cs).ren ρ = .ro cs:=Eq.trans (Eq.refl _) rfl
theorem zRx {ρ:Nat→Nat} {id i f:Nat}:(V.sl id i f).ren ρ = .sl (ρ id) i f:=Eq.trans (Eq.refl _) rfl
theorem zLo {ρ:Nat→Nat} {cs:List V}:(V.agg cs).ren ρ = .agg (qC6 ρ cs):=Eq.trans (Eq.refl _) rfl
theorem zLr {ρ:Nat→Nat} {cs:List V}:(V.tup cs).ren ρ = .tup (qC6 ρ cs):=Eq.trans (Eq.refl _) rfl
theorem zRv {ρ:Nat→Nat} {f:FuncId} {cs:List V}:(V.fn f cs).ren ρ = .fn f (qC6 ρ cs):=Eq.trans (Eq.refl _) rfl
theorem zLn {ρ:Nat→Nat}:qC6 ρ []=[]:=Eq.trans (Eq.refl _) rfl
theorem zGs {ρ:Nat→Nat} {c:V} {r:List V}:qC6 ρ (c::r)=c.ren ρ::qC6 ρ r:=Eq.trans (Eq.refl _) rfl
theorem zGo:kH []=[]:=Eq.trans (Eq.refl _) rfl
theorem zBz {c:V} {r:List V}:kH (c::r)=c.refs++kH r:=Eq.trans (Eq.refl _) rfl
theorem zWj {x:T}:(V.t x).refs=[]:=Eq.trans (Eq.refl _) rfl
theorem zRq {cs:List T}:(V.ro cs).refs=[]:=Eq.trans (Eq.refl _) rfl
theorem zLj:V.nil.refs=[]:=Eq.trans (Eq.refl _) rfl
theorem zRr {id i f:Nat}:(V.sl id i f).refs=[]:=Eq.trans (Eq.refl _) rfl
theorem zLk {id i f:Nat}:(V.ref id i f).refs=[id]:=Eq.trans (Eq.refl _) rfl
theorem zRn {g id i f:Nat}:(V.bd g id i f).refs=[id]:=Eq.trans (Eq.refl _) rfl
theorem zRo:V.bq.refs=[]:=Eq.trans (Eq.refl _) rfl
attribute [go_sem] zRo
attribute [go_sem] zRn
theorem zLi {cs:List V}:(V.agg cs).refs=kH cs:=Eq.trans (Eq.refl _) rfl
theorem zLl {cs:List V}:(V.tup cs).refs=kH cs:=Eq.trans (Eq.refl _) rfl
theorem zRp {f:FuncId} {cs:List V}:(V.fn f cs).refs=kH cs:=Eq.trans (Eq.refl _) rfl
theorem zKb:qIa []=[]:=Eq.trans (Eq.refl _) rfl
theorem zFo {c:V} {r:List V}:qIa (c::r)=c.ids++qIa r:=Eq.trans (Eq.refl _) rfl
theorem zZj {x:T}:(V.t x).ids=[]:=Eq.trans (Eq.refl _) rfl
theorem zU6 {cs:List T}:(V.ro cs).ids=[]:=Eq.trans (Eq.refl _) rfl
theorem zP3:V.nil.ids=[]:=Eq.trans (Eq.refl _) rfl
theorem zU7 {id i f:Nat}:(V.sl id i f).ids=[id]:=Eq.trans (Eq.refl _) rfl
theorem zP4 {id i f:Nat}:(V.ref id i f).ids=[id]:=Eq.trans (Eq.refl _) rfl
theorem zU3 {g id i f:Nat}:(V.bd g id i f).ids=[id]:=Eq.trans (Eq.refl _) rfl
theorem zU4:V.bq.ids=[]:=Eq.trans (Eq.refl _) rfl
attribute [go_sem] zU4
attribute [go_sem] zU3
theorem zP2 {cs:List V}:(V.agg cs).ids=qIa cs:=Eq.trans (Eq.refl _) rfl
theorem zP5 {cs:List V}:(V.tup cs).ids=qIa cs:=Eq.trans (Eq.refl _) rfl
theorem zU5 {f:FuncId} {cs:List V}:(V.fn f cs).ids=qIa cs:=Eq.trans (Eq.refl _) rfl
theorem zJj {ts:List T}:qA7 (ts.map .t) = .ret (ts.map .t,[]):=by simp[qA7,zNj]
theorem zLv {x:V}:zOi [x]=x:=Eq.trans (Eq.refl _) rfl
theorem zLu:zOi [] = .tup []:=Eq.trans (Eq.refl _) rfl
theorem zLw {x y:V} {r:List V}:zOi (x::y::r) = .tup (x::y::r):=Eq.trans (Eq.refl _) rfl
theorem zKp {f g:FuncId} {s:FnS} {r:Tab}:Tab.look ((g,s)::r) f=if g=f then some s else Tab.look r f:=Eq.trans (Eq.refl _) rfl
theorem zUs {x:T}:(V.t x).flat=x.flat:=Eq.trans (Eq.refl _) rfl
theorem zJv {k:IntKind} {n:Int}:(T.int k n).flat=true:=Eq.trans (Eq.refl _) rfl
theorem zE5 {b:Bool}:(T.bool b).flat=true:=Eq.trans (Eq.refl _) rfl
theorem zJw {s:ByteArray}:(T.str s).flat=true:=Eq.trans (Eq.refl _) rfl
theorem zE2:qW4 []=true:=Eq.trans (Eq.refl _) rfl
theorem zBi {o:Ob} {r:List Ob}:qW4 (o::r)=(o.flat&&qW4 r):=Eq.trans (Eq.refl _) rfl
theorem zLy {n:Nat} {vs:List V}:zY0 n vs=(qA8 (zE 4) vs).bind fun p=>(xN (12+n) (List.range n++kH p.1) [] [] []).bind fun q=>
  Q.assert ((q.1.all fun i => !(p.2++q.2.2).contains i)=true) ((qRt (p.2++q.2.2)).bind fun _=> .ret (zOi (qC6 (fun r=>q.1.idxOf r) p.1),q.2.1.map (Ob.ren fun r=>q.1.idxOf r))):=Eq.trans (Eq.refl _) rfl
theorem zD4 {f:FuncId} {keep:Bool} {vs:List V} {nb:Nat}:qO8 tab f keep vs nb=(qMt keep vs).bind fun cp=>
  (Q.of ((tab.look f).bind fun s=>s (qC6 (fun r=>cp.ids.idxOf r) cp.as) (cp.obs.map (Ob.ren fun r=>cp.ids.idxOf r)))).bind fun p=>
   Q.assert (cp.ids.length≤p.2.length∧(keep=true∨p.1.flat=true∧qW4 p.2=true))
    (qW7 nb (p.2.length-cp.ids.length) (.ret (p.1.ren (gam cp.ids nb),(if keep then cp.fw else [])++qG0 cp.ids nb 0 p.2))):=Eq.trans (Eq.refl _) rfl
theorem qWu {keep:Bool} {vs:List V}:qMt keep vs=(qA8 (zE 4) vs).bind fun p=>(xN 12 (kH p.1) [] [] []).bind fun q=>
  Q.assert ((keep=true∨q.2.2=[])∧(q.1.all fun i => !(p.2++q.2.2).contains i)=true) ((qRt (p.2++q.2.2)).bind fun fw=> .ret ⟨p.1,q.1,q.2.1,p.2++q.2.2,fw⟩):=Eq.trans (Eq.refl _) rfl
attribute [go_sem] zCq zMw zSy zNj zIz qMh zI0 zOy zDq zIx zOx zOw zKu zVr zEd qFg zEg zJl zPi zJm zJk zPh zPj zBn qW8
 zJ3 zFh zBl zBk zPx zGe zBw zLs zWl zLp zLq zRw zRx zLo zLr zRv zLn zGs zOg zGo zBz zWj zRq zLj zRr zLk zLi zLl zRp
 zJj zLv zLu zLw zKp zUs zJv zE5 zJw zE2 zBi zLy zD4 qWu zGp
attribute [go_sem] List.length_cons List.length_nil List.map_cons List.map_nil List.getElem?_cons_zero List.getElem?_cons_succ List.getElem?_nil List.take_succ_cons List.take_zero List.take_nil List.drop_succ_cons List.drop_zero List.drop_nil List.set_cons_zero List.set_cons_succ
 List.range_zero List.all_nil List.all_cons List.length_map Bool.and_true Bool.true_and List.length_replicate
theorem zY9 {b:Bool}:(b==true)=b:=by cases b<;>rfl
theorem zY8 {b:Bool}:(b==false) = !b:=by cases b<;>rfl
attribute [go_sem] zKb zFo zZj zU6 zP3 zU7 zP4 zP2 zP5 zU5 zNy zY9 zY8 decide_true decide_false Bool.not_true Bool.not_false
end Go.Eng
end
section
namespace Go.Eng
def zCk (ρ:Nat→Nat) (ks:List Nat) (v:Option V) (v':V):Prop:=v=some (v'.ren ρ)∧(v'.ids.all fun i=>ks.contains i)=true
def qP5 (fs:Fs) (ρ:Nat→Nat) (ks:List Nat):Fs→Prop
 | []=>True
 | (t,v')::r=>zCk ρ ks (jA fs t) v'∧qP5 fs ρ ks r
def obR (ρ:Nat→Nat) (ks:List Nat):Option Ob→Ob→Prop
 | some (.live z es wr full),.live z' es' wr' full'=>z=z'∧wr=wr'∧(full'=true→full=true)∧es=qC6 ρ es'∧((qIa es').all fun i=>ks.contains i)=true
 | some _,.dead=>True
 | _,_=>False
def zTl (hs:Hs) (ρ:Nat→Nat) (ks:List Nat):Hs→Prop
 | []=>True
 | (i,o')::r=>obR ρ ks (jA hs (ρ i)) o'∧zTl hs ρ ks r
def zAa (ρ:Nat→Nat) (old new:List Nat):Bool:=
 new.all (fun i=>(decide (i<100)&&ρ i==i)||(decide (100≤i)&&decide (100≤ρ i)))&&decide ((new.map ρ).Nodup)&&old.all fun k => !decide (k<100)||new.contains k
theorem qQ.ren {fs fs':Fs} {hs ho:Hs} (ρ:Nat→Nat) (h1:qP5 fs ρ (ho.map (·.1)) fs') (h2:zTl hs ρ (ho.map (·.1)) ho) (h3:zAa ρ (hs.map (·.1)) (ho.map (·.1))=true):qQ fs hs fs' ho:=by
 simp only[zAa,Bool.and_eq_true] at h3
 obtain⟨⟨h4,h5⟩,h6⟩:=h3
 have a1 : ∀ {fs':Fs},qP5 fs ρ (ho.map (·.1)) fs'→qP6 fs hs ρ [] (ho.map (·.1)) fs':=by
  intro fs'
  induction fs' with
  | nil=>intro _;trivial
  | cons p r ih=>
   obtain⟨t,v'⟩:=p
   intro h
   obtain⟨⟨g1,g2⟩,g3⟩:=h
   refine⟨⟨_,g1,.inl ⟨.inl rfl,fun i hi=>?_⟩⟩,ih g3⟩
   have:=List.all_eq_true.1 g2 i hi
   simpa using this
 have a2 : ∀ {h':Hs},(∀ i∈h'.map (·.1),i∈ho.map (·.1))→zTl hs ρ (ho.map (·.1)) h'→zTm hs ρ (ho.map (·.1)) h':=by
  intro h'
  induction h' with
  | nil=>intro _ _;trivial
  | cons p r ih=>
   obtain⟨i,o'⟩:=p
   intro hm h
   obtain⟨g1,g2⟩:=h
   have hi:=List.all_eq_true.1 h4 i (hm i (by simp))
   have hi':(i<100∧ρ i=i)∨(100≤i∧100≤ρ i):=by simpa using hi
   refine⟨⟨?_,fun h=>by rcases hi' with h' | h';exact h'.2;omega,fun h=>by rcases hi' with h' | h';omega;exact h'.2⟩,ih (fun j hj=>hm j (by simp at hj ⊢;exact .inr hj)) g2⟩
   unfold obR at g1
   split at g1
   ·rename_i z es wr full z' es' wr' full' hl
    obtain⟨rfl,rfl,k1,k2,k3⟩:=g1
    exact⟨_,hl,rfl,rfl,k1,.inl k2,fun j hj=>by have:=List.all_eq_true.1 k3 j hj;simpa using this⟩
   ·rename_i o hl
    refine⟨_,hl,?_⟩
    cases o<;>trivial
   ·exact g1.elim
 have:=qQ.of (hs:=hs) (hv:=[]) (ho:=ho) (fs:=fs) (fs':=fs') ρ (a1 h1) (a2 (fun _ h=>h) h2) trivial (by simp) (of_decide_eq_true h5) (fun k hk hlt=>by
  have:=List.all_eq_true.1 h6 k hk
  simpa [hlt] using this)
 exact this
theorem zA3 {fs:Fs} {ρ:Nat→Nat} {ks:List Nat}:qP5 fs ρ ks []=True:=Eq.trans (Eq.refl _) rfl
theorem qWh {fs:Fs} {ρ:Nat→Nat} {ks:List Nat} {t:Nat} {v':V} {r:Fs}:qP5 fs ρ ks ((t,v')::r)=(zCk ρ ks (jA fs t) v'∧qP5 fs ρ ks r):=Eq.trans (Eq.refl _) rfl
theorem zCm {ρ:Nat→Nat} {ks:List Nat} {v v':V}:zCk ρ ks (some v) v'=(v=v'.ren ρ∧(v'.ids.all fun i=>ks.contains i)=true):=by
 simp[zCk]
theorem zCl {ρ:Nat→Nat} {ks:List Nat} {v':V}:zCk ρ ks none v'=False:=by simp[zCk]
theorem zIu {hs:Hs} {ρ:Nat→Nat} {ks:List Nat}:zTl hs ρ ks []=True:=Eq.trans (Eq.refl _) rfl
theorem zDn {hs:Hs} {ρ:Nat→Nat} {ks:List Nat} {i:Nat} {o':Ob} {r:Hs}:zTl hs ρ ks ((i,o')::r)=(obR ρ ks (jA hs (ρ i)) o'∧zTl hs ρ ks r):=Eq.trans (Eq.refl _) rfl
theorem zK2 {ρ:Nat→Nat} {ks:List Nat} {z z':Nat} {es es':List V} {wr wr' full full':Bool}:obR ρ ks (some (.live z es wr full)) (.live z' es' wr' full') =
  (z=z'∧wr=wr'∧(full'=true→full=true)∧es=qC6 ρ es'∧((qIa es').all fun i=>ks.contains i)=true):=Eq.trans (Eq.refl _) rfl
attribute [go_sem] zA3 qWh zCm zCl zIu zDn zK2 V.t.injEq T.int.injEq T.bool.injEq T.sl.injEq T.agg.injEq T.str.injEq V.ref.injEq V.bd.injEq V.sl.injEq V.agg.injEq V.fn.injEq List.cons.injEq
 List.all_nil List.contains_cons List.contains_nil Bool.or_false Bool.or_true Bool.true_or beq_self_eq_true eq_self implies_true imp_self Int.natCast_zero Int.natCast_one
end Go.Eng
end
section
namespace Go.Eng
def qK (x:UInt32):T:= .int .u32 x.toNat
def zOp (x:UInt64):T:= .int .u64 x.toNat
theorem qO3 (n:Int):IntKind.u8.wrap n=n%256:=by simp[IntKind.wrap,IntKind.bits,IntKind.signed]
theorem qI5 (n:Int):IntKind.u32.wrap n=n%4294967296:=by simp[IntKind.wrap,IntKind.bits,IntKind.signed]
theorem qL4 (n:Int):IntKind.u64.wrap n=n%18446744073709551616:=by simp[IntKind.wrap,IntKind.bits,IntKind.signed]
theorem zM9 (n:Int):IntKind.i64.wrap n=if n%18446744073709551616 ≥ 9223372036854775808 then n%18446744073709551616-18446744073709551616 else n%18446744073709551616:=by
 simp[IntKind.wrap,IntKind.bits,IntKind.signed]
theorem xB {n:Int} (h : -9223372036854775808≤n∧n<9223372036854775808):IntKind.i64.wrap n=n:=by
 rw[zM9];split<;>omega
theorem qDw {n:Int} (h:0≤n∧n<18446744073709551616):IntKind.u64.wrap n=n:=by
 rw[qL4];omega
theorem qY8 {n:Int} (h:0≤n∧n<4294967296):IntKind.u32.wrap n=n:=by
 rw[qI5];omega
theorem qBf (x:UInt32):(BitVec.ofInt 32 (x.toNat:Int))=x.toBitVec:=by
 apply BitVec.eq_of_toNat_eq
 simp
theorem qL2 (z:UInt32):T.int .u32 (IntKind.u32.wrap (z.toBitVec.toNat:Int))=qK z:=by
 rw[qI5]
 have:=z.toNat_lt
 unfold qK
 rw[UInt32.toNat_toBitVec]
 congr 1;omega
theorem zA6 {x y:UInt32}:qEq .or (qK x) (qK y)=some (qK (x ||| y)):=by
 change some (T.int .u32 (IntKind.u32.wrap ((BitVec.ofInt 32 (x.toNat:Int) ||| BitVec.ofInt 32 (y.toNat:Int)).toNat:Int)))=_
 rw[qBf,qBf,←UInt32.toBitVec_or,qL2]
theorem qWo {x y:UInt32}:qEq .and (qK x) (qK y)=some (qK (x &&& y)):=by
 change some (T.int .u32 (IntKind.u32.wrap ((BitVec.ofInt 32 (x.toNat:Int) &&& BitVec.ofInt 32 (y.toNat:Int)).toNat:Int)))=_
 rw[qBf,qBf,←UInt32.toBitVec_and,qL2]
theorem qWp {x y:UInt32}:qEq .xor (qK x) (qK y)=some (qK (x ^^^ y)):=by
 change some (T.int .u32 (IntKind.u32.wrap ((BitVec.ofInt 32 (x.toNat:Int) ^^^ BitVec.ofInt 32 (y.toNat:Int)).toNat:Int)))=_
 rw[qBf,qBf,←UInt32.toBitVec_xor,qL2]
theorem qWn {x y:UInt32}:qEq .add (qK x) (qK y)=some (qK (x+y)):=by
 change some (T.int .u32 (IntKind.u32.wrap ((x.toNat:Int)+(y.toNat:Int))))=_
 rw[qI5]
 unfold qK
 rw[UInt32.toNat_add]
 congr 2
theorem zCp {x:UInt32}:unT .xor (qK x)=some (qK (~~~ x)):=by
 change some (T.int .u32 (IntKind.u32.wrap ((BitVec.ofInt 32 (IntKind.max .u32) ^^^ BitVec.ofInt 32 (x.toNat:Int)).toNat:Int)))=_
 have:BitVec.ofInt 32 (IntKind.max .u32)=BitVec.allOnes 32:=by decide
 rw[qBf,this,←qL2]
 congr 5
theorem qMo {x:UInt32} {k:IntKind} {n:Nat} (h:n<32):qEq .shr (qK x) (.int k n)=some (qK (x >>> UInt32.ofNat n)):=by
 change (if (n:Int)<0 then none else some (T.int .u32 ((x.toNat:Int).fdiv (2^min (n:Int).toNat 32))))=_
 rw[if_neg (by omega)]
 have hm:min (n:Int).toNat 32=n:=by simp;omega
 rw[hm]
 unfold qK
 rw[UInt32.toNat_shiftRight]
 have hn:(UInt32.ofNat n).toNat%32=n:=by
  rw[UInt32.toNat_ofNat_of_lt' (by simp[UInt32.size];omega)];omega
 rw[hn,Nat.shiftRight_eq_div_pow]
 congr 2
 rw[Int.fdiv_eq_ediv_of_nonneg _ (by exact Int.pow_nonneg (by omega))]
 norm_cast
theorem qMn {x:UInt32} {k:IntKind} {n:Nat} (h:n<32):qEq .shl (qK x) (.int k n)=some (qK (x <<< UInt32.ofNat n)):=by
 change (if (n:Int)<0 then none else some (T.int .u32 (IntKind.u32.wrap ((x.toNat:Int)*2^min (n:Int).toNat 32))))=_
 rw[if_neg (by omega)]
 have hm:min (n:Int).toNat 32=n:=by simp;omega
 rw[hm,qI5]
 unfold qK
 rw[UInt32.toNat_shiftLeft]
 have hn:(UInt32.ofNat n).toNat%32=n:=by
  rw[UInt32.toNat_ofNat_of_lt' (by simp[UInt32.size];omega)];omega
 rw[hn,Nat.shiftLeft_eq]
 congr 2
theorem qRo {b:UInt8}:qDt .u32 [.t (qA b)] = .ret (.t (qK b.toUInt32),[]):=by
 change Q.ret (V.t (.int .u32 (IntKind.u32.wrap (b.toNat:Int))),([]:Wr))=_
 have:=b.toNat_lt
 rw[qI5]
 unfold qK
 rw[UInt8.toNat_toUInt32]
 have:(b.toNat:Int)%4294967296=b.toNat:=by omega
 rw[this]
theorem qWx {x:UInt32}:qDt .u8 [.t (qK x)] = .ret (.t (qA x.toUInt8),[]):=by
 change Q.ret (V.t (.int .u8 (IntKind.u8.wrap (x.toNat:Int))),([]:Wr))=_
 rw[qO3]
 unfold qA
 rw[UInt32.toNat_toUInt8]
 congr 4
theorem qWy {x:UInt64}:qDt .u8 [.t (zOp x)] = .ret (.t (qA x.toUInt8),[]):=by
 change Q.ret (V.t (.int .u8 (IntKind.u8.wrap (x.toNat:Int))),([]:Wr))=_
 rw[qO3]
 unfold qA
 rw[UInt64.toNat_toUInt8]
 congr 4
theorem zD6 {x:UInt32}:(qK x).cells=[qK x]:=Eq.trans (Eq.refl _) rfl
theorem zD7 {x:UInt64}:(zOp x).cells=[zOp x]:=Eq.trans (Eq.refl _) rfl
theorem zA9 {x:UInt8}:(qA x).cells=[qA x]:=Eq.trans (Eq.refl _) rfl
theorem zCt {x:UInt32}:(V.t (qK x)).cells=[V.t (qK x)]:=Eq.trans (Eq.refl _) rfl
theorem zCu {x:UInt64}:(V.t (zOp x)).cells=[V.t (zOp x)]:=Eq.trans (Eq.refl _) rfl
theorem qYd {x:UInt8}:(V.t (qA x)).cells=[V.t (qA x)]:=Eq.trans (Eq.refl _) rfl
theorem qHz : ∀ {bs:List UInt8},qDb (bs.map fun b=>V.t (qA b))=some bs
 | []=>rfl
 | b::r=>by
  have ih:=qHz (bs:=r)
  simp only[List.map_cons]
  show (qDb (r.map fun b=>V.t (qA b))).map (UInt8.ofNat (b.toNat:Int).toNat :: ·)=_
  rw[ih]
  simp
theorem zP0 {b:UInt8}:yL (.t (qA b))=some (b.toNat:Int):=Eq.trans (Eq.refl _) rfl
theorem zUx {b:UInt32}:yL (.t (qK b))=some (b.toNat:Int):=Eq.trans (Eq.refl _) rfl
theorem zUy {b:UInt64}:yL (.t (zOp b))=some (b.toNat:Int):=Eq.trans (Eq.refl _) rfl
theorem zS9 {b:UInt8}:(V.t (qA b)).plain=true:=Eq.trans (Eq.refl _) rfl
theorem zX9 {b:UInt32}:(V.t (qK b)).plain=true:=Eq.trans (Eq.refl _) rfl
theorem zYa {b:UInt64}:(V.t (zOp b)).plain=true:=Eq.trans (Eq.refl _) rfl
theorem zE6 {b:UInt8}:(qA b).flat=true:=Eq.trans (Eq.refl _) rfl
theorem zJy {b:UInt32}:(qK b).flat=true:=Eq.trans (Eq.refl _) rfl
theorem zJz {b:UInt64}:(zOp b).flat=true:=Eq.trans (Eq.refl _) rfl
attribute [go_sem] zP0 zUx zUy zS9 zX9 zYa zE6 zJy zJz zA9 zD6 zD7 qYd zCt zCu qRo qWx qWy zA6 qWo qWp qWn zCp
end Go.Eng
end
section
namespace Go.Eng
def d8:T→Option UInt8
 | .int .u8 n=>if 0≤n∧n<256 then some (UInt8.ofNat n.toNat) else none
 | _=>none
def d32:T→Option UInt32
 | .int .u32 n=>if 0≤n∧n<4294967296 then some (UInt32.ofNat n.toNat) else none
 | _=>none
def dL {α:Type} (d:T→Option α):List T→Option (List α)
 | []=>some []
 | x::r=>(d x).bind fun y=>(dL d r).map (y :: ·)
def dSl {α:Type} (d:T→Option α):T→Option (List α)
 | .sl es=>dL d es
 | _=>none
theorem qWz {x:UInt8}:d8 (qA x)=some x:=by
 have:=x.toNat_lt
 unfold d8 qA
 simp only
 rw[if_pos (by omega)]
 simp
theorem zEi {x:UInt32}:d32 (qK x)=some x:=by
 have:=x.toNat_lt
 unfold d32 qK
 simp only
 rw[if_pos (by omega)]
 simp
theorem zNs {α:Type} {d:T→Option α} {e:α→T} (hd : ∀ x,d (e x)=some x) : ∀ {xs:List α},dL d (xs.map e)=some xs
 | []=>rfl
 | x::r=>by simp[dL,hd,zNs hd]
def bsT (bs:List UInt8):T:= .sl (bs.map qA)
def dBs (t:T):Option (List UInt8):=dSl d8 t
theorem qUc {bs:List UInt8}:dBs (.sl (bs.map qA))=some bs:=zNs (fun _=>qWz)
end Go.Eng
end
section
namespace Go.Eng
variable {cx:Cx} {β:Nat→Option BI} {F:Nat→Prop} {a:Act} {w:World}
theorem qQ.freeze {fs:Fs} {hs:Hs} {fz:List Nat} {fw:Wr} {l:List Nat} (h:(qRt fz).run (jA hs)=some (fw,l)):qQ fs hs fs (qTe hs fw):=by
 intro cx β F a w R
 obtain⟨F1,R1,_⟩:=Rel.freezeAll h R (fun id _=> .inl rfl)
 exact⟨β,F1,by rw[qIe];exact R1⟩
def rdL (g:V→Q V):List V→Q (List V)
 | []=> .ret []
 | c::r=>(g c).bind fun x=>(rdL g r).bind fun y=> .ret (x::y)
def rdV:Nat→V→Q V
 | n+1,.sl id off len=> .get id fun
  | .live _ _ false _=>(zE (n+1) (.sl id off len)).bind fun p=>Q.assert (p.2=[]) (.ret p.1)
  | _=> .ret (.sl id off len)
 | n+1,.agg cs=>(rdL (rdV n) cs).bind fun p=> .ret (V.mk p)
 | n+1,.fn f cs=>(rdL (rdV n) cs).bind fun p=> .ret (.fn f p)
 | _,v=> .ret v
def zIp (es:List V):Q (List V):=
 match qCo es with
 | some _=> .ret es
 | none=>rdL (rdV 4) es
theorem qG1 {hm:Nat→Option Ob} {g:V→Q V} : ∀ {cs cs':List V} {l:List Nat},(rdL g cs).run hm=some (cs',l)→
  cs'.length=cs.length ∧ ∀ (i:Nat) (c c':V),cs[i]?=some c→cs'[i]?=some c' → ∃ li,(g c).run hm=some (c',li)
 | [],cs',l,h=>by
  obtain⟨e,_⟩:=qB h
  cases e
  exact⟨rfl,by intro i c c' h;simp at h⟩
 | c::r,cs',l,h=>by
  simp only[rdL] at h
  obtain⟨x,l1,l2,hx,h,_⟩:=qW h
  obtain⟨y,l3,l4,hy,h,_⟩:=qW h
  obtain⟨e,_⟩:=qB h
  cases e
  obtain⟨g1,g2⟩:=qG1 hy
  refine⟨by simp[g1],fun i a b ha hb=>?_⟩
  cases i with
  | zero=>simp at ha hb;subst ha hb;exact⟨_,hx⟩
  | succ i=>exact g2 i a b (by simpa using ha) (by simpa using hb)
theorem qDr {fm:Nat→Option V} {hm:Nat→Option Ob} (R:Rel cx β F fm hm a w) : ∀ {n:Nat} {v v':V} {l:List Nat} {x:Value},(rdV n v).run hm=some (v',l)→qL β F w v x→qL β F w v' x
 | 0,v,v',l,x,h,hx=>by
  have h':(Q.ret v).run hm=some (v',l):=by cases v<;>exact h
  obtain⟨e,_⟩:=qB h'
  cases e;exact hx
 | n+1,v,v',l,x,h,hx=>by
  cases v with
  | sl id off len=>
   simp only[rdV] at h
   obtain⟨o,l',ho,h2,_⟩:=yF h
   have keep:(Q.ret (V.sl id off len)).run hm=some (v',l')→qL β F w v' x:=by
    intro h3
    obtain⟨e,_⟩:=qB h3
    cases e;exact hx
   cases o with
   | dead=>exact keep h2
   | live z es wr full=>
    cases wr with
    | true=>exact keep h2
    | false=>
     obtain⟨p,l1,l2,hp,h3,_⟩:=qW h2
     obtain⟨hp2,h3⟩:=qF h3
     obtain⟨e,_⟩:=qB h3
     cases e
     obtain⟨p1,p2⟩:=p
     simp only at hp2 ⊢
     subst hp2
     have:=vE R hp hx (fz':=[]) (by simp)
     rw[qRu] at this
     exact this
  | agg cs=>
   simp only[rdV] at h
   obtain⟨p,l1,l2,hp,h,_⟩:=qW h
   obtain⟨e,_⟩:=qB h
   cases e
   obtain⟨g1,g2⟩:=qG1 hp
   obtain⟨us,rfl,k1,k2,k3⟩:=hx.agg_inv
   refine qL.mk (by rw[k1,g1]) k2 (fun i c' u hc' hu=>?_)
   have hi:i<cs.length:=by rw[←g1];exact (List.getElem?_eq_some_iff.1 hc').1
   obtain⟨li,m1⟩:=g2 i cs[i] c' (by simp[hi]) hc'
   exact qDr R m1 (k3 i cs[i] u (by simp[hi]) hu)
  | fn f cs=>
   simp only[rdV] at h
   obtain⟨p,l1,l2,hp,h,_⟩:=qW h
   obtain⟨e,_⟩:=qB h
   cases e
   obtain⟨g1,g2⟩:=qG1 hp
   cases hx with
   | fn _ _ us k1 k3=>
    refine .fn f _ us (by rw[k1,g1]) (fun i c' u hc' hu=>?_)
    have hi:i<cs.length:=by rw[←g1];exact (List.getElem?_eq_some_iff.1 hc').1
    obtain⟨li,m1⟩:=g2 i cs[i] c' (by simp[hi]) hc'
    exact qDr R m1 (k3 i cs[i] u (by simp[hi]) hu)
  | t y=>obtain⟨e,_⟩:=qB (x:=V.t y) h;cases e;exact hx
  | nil=>obtain⟨e,_⟩:=qB (x:=V.nil) h;cases e;exact hx
  | ro y=>obtain⟨e,_⟩:=qB (x:=V.ro y) h;cases e;exact hx
  | ref i j k=>obtain⟨e,_⟩:=qB (x:=V.ref i j k) h;cases e;exact hx
  | bd g i j k=>obtain⟨e,_⟩:=qB (x:=V.bd g i j k) h;cases e;exact hx
  | bq=>obtain⟨e,_⟩:=qB (x:=V.bq) h;cases e;exact hx
  | tup y=>obtain⟨e,_⟩:=qB (x:=V.tup y) h;cases e;exact hx
theorem zLh {fm:Nat→Option V} {hm:Nat→Option Ob} (R:Rel cx β F fm hm a w) {n:Nat} {v v':V} {l:List Nat} (h:(rdV n v).run hm=some (v',l)) (hc : ∀ (j:Nat) (y:V),v.cells[j]?=some y → ∃ u,qL β F w y u∧u.oneCell'=true) :
  v'.cells.length=v.cells.length ∧ ∀ (j:Nat) (y y':V) (u:Value),v.cells[j]?=some y→v'.cells[j]?=some y'→qL β F w y u→u.oneCell'=true→qL β F w y' u:=by
 have one:v.cells=[v]→v'.cells.length=v.cells.length ∧ ∀ (j:Nat) (y y':V) (u:Value),v.cells[j]?=some y→v'.cells[j]?=some y'→qL β F w y u→u.oneCell'=true→qL β F w y' u:=by
  intro hv
  obtain⟨u0,h1,h2⟩:=hc 0 v (by rw[hv];rfl)
  have hv':v'.cells=[v']:=(qDr R h h1).one_cells h2
  rw[hv,hv']
  refine⟨rfl,fun j y y' u hy hy' hr ho=>?_⟩
  cases j with
  | zero=>simp at hy hy';subst hy hy';exact qDr R h hr
  | succ j=>simp at hy
 have same:v'=v→v'.cells.length=v.cells.length ∧ ∀ (j:Nat) (y y':V) (u:Value),v.cells[j]?=some y→v'.cells[j]?=some y'→qL β F w y u→u.oneCell'=true→qL β F w y' u:=by
  rintro rfl
  refine⟨rfl,fun j y y' u hy hy' hr _=>?_⟩
  rw[hy] at hy';cases hy';exact hr
 cases v with
 | agg cs=>
  cases n with
  | zero=>obtain⟨e,_⟩:=qB (x:=V.agg cs) h;exact same e
  | succ n=>
   simp only[rdV] at h
   obtain⟨p,l1,l2,hp,h,_⟩:=qW h
   obtain⟨e,_⟩:=qB h
   cases e
   obtain⟨g1,g2⟩:=qG1 hp
   rw[qLs]
   refine⟨g1,fun j y y' u hy hy' hr _=>?_⟩
   obtain⟨li,m1⟩:=g2 j y y' hy hy'
   exact qDr R m1 hr
 | t y=>
  have h':(Q.ret (V.t y)).run hm=some (v',l):=by cases n<;>exact h
  obtain⟨e,_⟩:=qB h';exact same e
 | sl id off len=>exact one rfl
 | fn f cs=>exact one rfl
 | nil=>exact one rfl
 | ro y=>exact one rfl
 | ref i j k=>exact one rfl
 | bd g i j k=>exact one rfl
 | bq=>exact one rfl
 | tup y=>exact one rfl
theorem qQx {fm:Nat→Option V} {hm:Nat→Option Ob} (R:Rel cx β F fm hm a w) {es es':List V} {l:List Nat} (h:(zIp es).run hm=some (es',l)) {sz:Nat} {c:Array Value} (hh:jZ β F w es sz c):es'.length=es.length∧jZ β F w es' sz c:=by
 unfold zIp at h
 split at h
 ·obtain⟨e,_⟩:=qB h
  cases e
  exact⟨rfl,hh⟩
 ·obtain⟨g1,g2⟩:=qG1 h
  refine⟨g1,fun i x hx=>?_⟩
  have hi:i<es.length:=by rw[←g1];exact (List.getElem?_eq_some_iff.1 hx).1
  obtain⟨li,m1⟩:=g2 i es[i] x (by simp[hi]) hx
  obtain⟨k1,k2⟩:=hh i es[i] (by simp[hi])
  obtain⟨q1,q2⟩:=zLh R m1 (fun j y hy=>let ⟨u,_,b,d⟩:=k2 j y hy;⟨u,b,d⟩)
  refine⟨q1.trans k1,fun j y' hy'=>?_⟩
  have hj:j<es[i].cells.length:=by rw[←q1];exact (List.getElem?_eq_some_iff.1 hy').1
  obtain⟨u,hu,hr,ho⟩:=k2 j (es[i].cells[j]'hj) (by simp[hj])
  exact⟨u,hu,q2 j (es[i].cells[j]'hj) y' u (by simp[hj]) hy' hr ho,ho⟩
theorem qOc {hm:Nat→Option Ob} {es es':List V} {l:List Nat} (h:(zIp es).run hm=some (es',l)):es'.length=es.length:=by
 unfold zIp at h
 split at h
 ·obtain⟨e,_⟩:=qB h
  cases e;rfl
 ·exact (qG1 h).1
end Go.Eng
end
section
namespace Go.Eng
variable {cx:Cx} {β:Nat→Option BI} {F:Nat→Prop} {a:Act} {w:World}
mutual
def vEq (ρ:Nat→Nat) (vt ko:List Nat):V→V→Prop
 | .nil,.nil=>True
 | .nil,.t x=>x = .sl []
 | .nil,.sl id off len=>(vt.contains id=true∧off=0)∧len=0
 | .agg cs,.agg cs'=>qSp ρ vt ko cs cs'
 | .agg cs,.t (.agg ts)=>qSp ρ vt ko cs (ts.map .t)
 | .fn f cs,.fn f' cs'=>f=f'∧qSp ρ vt ko cs cs'
 | v,v'=>v=v'.ren ρ∧(v'.ids.all fun i=>ko.contains i)=true
def qSp (ρ:Nat→Nat) (vt ko:List Nat):List V→List V→Prop
 | [],[]=>True
 | c::r,c'::r'=>vEq ρ vt ko c c'∧qSp ρ vt ko r r'
 | _,_=>False
end
theorem qDu {ρ:Nat→Nat} {vt ko:List Nat} : ∀ {cs cs':List V},qSp ρ vt ko cs cs'→cs'.length=cs.length ∧ ∀ (i:Nat) (c c':V),cs[i]?=some c→cs'[i]?=some c'→vEq ρ vt ko c c'
 | [],[],_=>⟨rfl,by intro i c c' h;simp at h⟩
 | [],_::_,h=>by simp[qSp] at h
 | _::_,[],h=>by simp[qSp] at h
 | c::r,c'::r',h=>by
  simp only[qSp] at h
  obtain⟨h1,h2⟩:=h
  obtain⟨g1,g2⟩:=qDu h2
  refine⟨by simp[g1],fun i a b ha hb=>?_⟩
  cases i with
  | zero=>simp at ha hb;subst ha hb;exact h1
  | succ i=>exact g2 i a b (by simpa using ha) (by simpa using hb)
structure zT1 (ρ:Nat→Nat) (vt ko:List Nat) (β β':Nat→Option BI):Prop where
 o : ∀ i,i∈ko→β' i=β (ρ i)
 v : ∀ i,i∈vt → ∃ z,β' i=some ⟨none,z,0⟩
theorem qDv {ρ:Nat→Nat} {vt ko:List Nat} {β β':Nat→Option BI} (N:zT1 ρ vt ko β β') {v':V} {x:Value} (hx:qL β F w (v'.ren ρ) x) (h:(v'.ids.all fun i=>ko.contains i)=true):qL β' F w v' x:=by
 have h1:=hx.unren (ρ:=ρ) rfl
 refine h1.sub (fun i hi bi hb=>?_)
 have:=List.all_eq_true.1 h i hi
 rw[N.o i (by simpa using this)]
 exact hb
theorem qIu {ρ:Nat→Nat} {vt ko:List Nat} {β β':Nat→Option BI} (N:zT1 ρ vt ko β β') {v:V} {x:Value} (hx:qL β F w v x) : ∀ {v':V},vEq ρ vt ko v v'→qL β' F w v' x:=by
 have aggc : ∀ {cs cs':List V} {vs:Array Value},vs.size=cs.length→(∀ u∈vs,u.oneCell'=true)→(∀ (i:Nat) (c:V) (u:Value),cs[i]?=some c→vs[i]?=some u → ∀ {v':V},vEq ρ vt ko c v'→qL β' F w v' u)→
   qSp ρ vt ko cs cs'→vs.size=cs'.length ∧ ∀ (i:Nat) (c:V) (u:Value),cs'[i]?=some c→vs[i]?=some u→qL β' F w c u:=by
  intro cs cs' vs hl _ ih h
  obtain⟨g1,g2⟩:=qDu h
  refine⟨by rw[hl,g1],fun i c u hc hu=>?_⟩
  have hi:i<cs.length:=by rw[←g1];exact (List.getElem?_eq_some_iff.1 hc).1
  exact ih i cs[i] u (by simp[hi]) hu (g2 i cs[i] c (by simp[hi]) hc)
 induction hx with
 | @t y z hy=>
  intro v' h
  have h':V.t y=v'.ren ρ∧(v'.ids.all fun i=>ko.contains i)=true:=by cases v'<;>(try exact h)<;>(rename_i q;cases q<;>exact h)
  exact qDv N (by rw[←h'.1];exact .t hy) h'.2
 | nil=>
  intro v' h
  cases v' with
  | nil=>exact .nil
  | t y=>simp only[vEq] at h;subst h;exact .t .nil
  | sl id off len=>
   simp only[vEq] at h
   obtain⟨⟨h1,rfl⟩,rfl⟩:=h
   obtain⟨z,hz⟩:=N.v id (by simpa using h1)
   exact .slv id z 0 hz
  | _=>simp[vEq,V.ren] at h
 | ref id i f b sz room hb=>
  intro v' h
  have h':V.ref id i f=v'.ren ρ∧(v'.ids.all fun i=>ko.contains i)=true:=by cases v'<;>(try exact h)<;>(rename_i q;cases q<;>exact h)
  exact qDv N (by rw[←h'.1];exact .ref id i f b sz room hb) h'.2
 | bd g id i f b sz room hb=>
  intro v' h
  have h':V.bd g id i f=v'.ren ρ∧(v'.ids.all fun i=>ko.contains i)=true:=by cases v'<;>(try exact h)<;>(rename_i q;cases q<;>exact h)
  exact qDv N (by rw[←h'.1];exact .bd g id i f b sz room hb) h'.2
 | bq b=>
  intro v' h
  have h':V.bq=v'.ren ρ∧(v'.ids.all fun i=>ko.contains i)=true:=by cases v'<;>(try exact h)<;>(rename_i q;cases q<;>exact h)
  exact qDv N (by rw[←h'.1];exact .bq b) h'.2
 | ro cs a news ha hn h1 hF hw hh=>
  intro v' h
  have h':V.ro cs=v'.ren ρ∧(v'.ids.all fun i=>ko.contains i)=true:=by cases v'<;>(try exact h)<;>(rename_i q;cases q<;>exact h)
  exact qDv N (by rw[←h'.1];exact .ro cs a news ha hn h1 hF hw hh) h'.2
 | sl id off len cap b sz room a hb hlc hr ha hs=>
  intro v' h
  have h':V.sl id off len=v'.ren ρ∧(v'.ids.all fun i=>ko.contains i)=true:=by cases v'<;>(try exact h)<;>(rename_i q;cases q<;>exact h)
  exact qDv N (by rw[←h'.1];exact .sl id off len cap b sz room a hb hlc hr ha hs) h'.2
 | slv id sz room hb=>
  intro v' h
  have h':V.sl id 0 0=v'.ren ρ∧(v'.ids.all fun i=>ko.contains i)=true:=by cases v'<;>(try exact h)<;>(rename_i q;cases q<;>exact h)
  exact qDv N (by rw[←h'.1];exact .slv id sz room hb) h'.2
 | agg cs vs hl h1 hh ih=>
  intro v' h
  cases v' with
  | agg cs'=>
   simp only[vEq] at h
   obtain⟨g1,g2⟩:=aggc hl h1 ih h
   exact .agg cs' vs g1 h1 g2
  | t y=>
   cases y with
   | agg ts=>
    simp only[vEq] at h
    obtain⟨g1,g2⟩:=aggc hl h1 ih h
    refine .t (.agg ts vs (by simpa using g1) h1 (fun i c u hc hu=>?_))
    have:=g2 i (.t c) u (by rw[List.getElem?_map,hc];rfl) hu
    cases this with
    | t h=>exact h
   | _=>simp[vEq,V.ren] at h
  | _=>simp[vEq,V.ren] at h
 | tup cs vs hl hh ih=>
  intro v' h
  have h':V.tup cs=v'.ren ρ∧(v'.ids.all fun i=>ko.contains i)=true:=by cases v'<;>(try exact h)<;>(rename_i q;cases q<;>exact h)
  exact qDv N (by rw[←h'.1];exact .tup cs vs hl hh) h'.2
 | fn f cs vs hl hh ih=>
  intro v' h
  cases v' with
  | fn f' cs'=>
   simp only[vEq] at h
   obtain⟨rfl,h⟩:=h
   obtain⟨g1,g2⟩:=qDu h
   refine .fn f cs' vs (by rw[hl,g1]) (fun i c u hc hu=>?_)
   have hi:i<cs.length:=by rw[←g1];exact (List.getElem?_eq_some_iff.1 hc).1
   exact ih i cs[i] u (by simp[hi]) hu (g2 i cs[i] c (by simp[hi]) hc)
  | t y=>cases y<;>simp[vEq,V.ren] at h
  | _=>simp[vEq,V.ren] at h
theorem qNz {v y:V} {j:Nat} (hy:v.cells[j]?=some y) : ∀ r∈y.ids,r∈v.ids:=by
 intro r hr
 cases v with
 | agg cs=>simp only[V.ids];exact wA (List.mem_of_getElem? hy) hr
 | t t=>
  obtain⟨c,_,rfl⟩:=wP hy
  simp[V.ids] at hr
 | _=>
  simp only[V.cells] at hy
  cases j with
  | zero=>simp at hy;subst hy;exact hr
  | succ j=>simp at hy
theorem zHy {ρ:Nat→Nat} {vt ko:List Nat} {β β':Nat→Option BI} (N:zT1 ρ vt ko β β') {v v':V} (h:vEq ρ vt ko v v') :
  v'.cells.length=v.cells.length ∧ ∀ (j:Nat) (y y':V),v.cells[j]?=some y→v'.cells[j]?=some y' → ∀ x,qL β F w y x→qL β' F w y' x:=by
 have ren:v=v'.ren ρ∧(v'.ids.all fun i=>ko.contains i)=true→v'.cells.length=v.cells.length ∧ ∀ (j:Nat) (y y':V),v.cells[j]?=some y→v'.cells[j]?=some y' → ∀ x,qL β F w y x→qL β' F w y' x:=by
  rintro⟨rfl,hall⟩
  rw[qEs,zF]
  refine⟨by simp,fun j y y' hy hy' x hx=>?_⟩
  rw[List.getElem?_map,hy'] at hy
  cases hy
  refine qDv N hx (List.all_eq_true.2 (fun r hr=>?_))
  exact List.all_eq_true.1 hall r (qNz hy' r hr)
 have one:v.cells=[v]→v'.cells=[v']→v'.cells.length=v.cells.length ∧ ∀ (j:Nat) (y y':V),v.cells[j]?=some y→v'.cells[j]?=some y' → ∀ x,qL β F w y x→qL β' F w y' x:=by
  intro e1 e2
  rw[e1,e2]
  refine⟨rfl,fun j y y' hy hy' x hx=>?_⟩
  cases j with
  | zero=>simp at hy hy';subst hy hy';exact qIu N hx h
  | succ j=>simp at hy
 cases v with
 | nil=>
  cases v' with
  | t y=>simp only[vEq] at h;subst h;exact one rfl rfl
  | agg cs=>simp[vEq,V.ren] at h
  | _=>exact one rfl rfl
 | agg cs=>
  cases v' with
  | agg cs'=>
   simp only[vEq] at h
   obtain⟨g1,g2⟩:=qDu h
   exact⟨g1,fun j y y' hy hy' x hx=>qIu N hx (g2 j y y' hy hy')⟩
  | t y=>
   cases y with
   | agg ts=>
    simp only[vEq] at h
    obtain⟨g1,g2⟩:=qDu h
    exact⟨g1,fun j y y' hy hy' x hx=>qIu N hx (g2 j y y' hy hy')⟩
   | _=>simp[vEq,V.ren] at h
  | _=>simp[vEq,V.ren] at h
 | fn f cs=>
  cases v' with
  | fn f' cs'=>exact one rfl rfl
  | t y=>cases y<;>simp[vEq,V.ren] at h
  | _=>simp[vEq,V.ren] at h
 | t y=>exact ren (by cases v'<;>(try exact h)<;>(rename_i q;cases q<;>exact h))
 | ref i j k=>exact ren (by cases v'<;>(try exact h)<;>(rename_i q;cases q<;>exact h))
 | bd g i j k=>exact ren (by cases v'<;>(try exact h)<;>(rename_i q;cases q<;>exact h))
 | bq=>exact ren (by cases v'<;>(try exact h)<;>(rename_i q;cases q<;>exact h))
 | sl i j k=>exact ren (by cases v'<;>(try exact h)<;>(rename_i q;cases q<;>exact h))
 | ro cs=>exact ren (by cases v'<;>(try exact h)<;>(rename_i q;cases q<;>exact h))
 | tup cs=>exact ren (by cases v'<;>(try exact h)<;>(rename_i q;cases q<;>exact h))
def zPp (ρ:Nat→Nat) (vt ko:List Nat) (u es':List V):Prop:=
 match qCo u with
 | some _=>u=qC6 ρ es'∧((qIa es').all fun i=>ko.contains i)=true
 | none=>qSp ρ vt ko u es'
theorem zBd {ρ:Nat→Nat} {vt ko:List Nat} {β β':Nat→Option BI} (N:zT1 ρ vt ko β β') {u es':List V} (h:zPp ρ vt ko u es') {sz:Nat} {c:Array Value} (hh:jZ β F w u sz c):jZ β' F w es' sz c:=by
 unfold zPp at h
 split at h
 ·obtain⟨rfl,h⟩:=h
  have h1:=hh.unren
  intro i x hx
  obtain⟨k1,k2⟩:=h1 i x hx
  refine⟨k1,fun j y hy=>?_⟩
  obtain⟨u,g1,g2,g3⟩:=k2 j y hy
  refine⟨u,g1,g2.sub (fun r hr bi hb=>?_),g3⟩
  have:=List.all_eq_true.1 h r (wA (List.mem_of_getElem? hx) (qNz hy r hr))
  rw[N.o r (by simpa using this)]
  exact hb
 ·obtain⟨g1,g2⟩:=qDu h
  intro i x hx
  have hi:i<u.length:=by rw[←g1];exact (List.getElem?_eq_some_iff.1 hx).1
  obtain⟨k1,k2⟩:=hh i u[i] (by simp[hi])
  obtain⟨q1,q2⟩:=zHy (F:=F) (w:=w) N (g2 i u[i] x (by simp[hi]) hx)
  refine⟨q1.trans k1,fun j y' hy'=>?_⟩
  have hj:j<u[i].cells.length:=by rw[←q1];exact (List.getElem?_eq_some_iff.1 hy').1
  obtain⟨q,hu,hr,ho⟩:=k2 j (u[i].cells[j]'hj) (by simp[hj])
  exact⟨q,hu,q2 j (u[i].cells[j]'hj) y' (by simp[hj]) hy' q hr,ho⟩
theorem qW1 {ρ:Nat→Nat} {vt ko:List Nat} {u es':List V} (h:zPp ρ vt ko u es'):es'.length=u.length:=by
 unfold zPp at h
 split at h
 ·rw[h.1,zF];simp
 ·exact (qDu h).1
def zCh (hs:Hs) (ρ:Nat→Nat) (vt ko:List Nat) (v:Option V) (v':V):Prop:=
 match v with
 | some v=>(rdV 4 v).wp hs (fun u _=>vEq ρ vt ko u v')
 | none=>False
def qFs (fs:Fs) (hs:Hs) (ρ:Nat→Nat) (vt ko:List Nat):Fs→Prop
 | []=>True
 | (t,v')::r=>zCh hs ρ vt ko (jA fs t) v'∧qFs fs hs ρ vt ko r
def obC (hs:Hs) (ρ:Nat→Nat) (vt ko:List Nat):Option Ob→Ob→Prop
 | some (.live z es wr full),.live z' es' wr' full'=>z=z'∧wr=wr'∧(full'=true→full=true)∧(zIp es).wp hs (fun u _=>zPp ρ vt ko u es')
 | some _,.dead=>True
 | _,_=>False
def zIi (hs:Hs) (ρ:Nat→Nat) (vt ko:List Nat):Hs→Prop
 | []=>True
 | (i,o')::r=>obC hs ρ vt ko (jA hs (ρ i)) o'∧zIi hs ρ vt ko r
def zH0:Hs→Bool
 | []=>true
 | (i,.live _ [] true _)::r=>decide (100≤i)&&zH0 r
 | _=>false
def zKz (ρ:Nat→Nat) (old vt new:List Nat):Bool:=zAa ρ old new&&vt.all fun i => !new.contains i
theorem qFs.get {fs:Fs} {hs:Hs} {ρ:Nat→Nat} {vt ko:List Nat} : ∀ {fs':Fs},qFs fs hs ρ vt ko fs' → ∀ t v',jA fs' t=some v'→zCh hs ρ vt ko (jA fs t) v'
 | [],_,t,v',h=>by cases h
 | (k,u)::r,hw,t,v',h=>by
  simp only[jA] at h
  split at h
  ·cases h;subst_vars;exact hw.1
  ·exact qFs.get hw.2 t v' h
theorem zIi.get {hs:Hs} {ρ:Nat→Nat} {vt ko:List Nat} : ∀ {hs':Hs},zIi hs ρ vt ko hs' → ∀ i o',jA hs' i=some o'→obC hs ρ vt ko (jA hs (ρ i)) o'
 | [],_,t,v',h=>by cases h
 | (k,u)::r,hw,t,v',h=>by
  simp only[jA] at h
  split at h
  ·cases h;subst_vars;exact hw.1
  ·exact zIi.get hw.2 t v' h
theorem zH0.get : ∀ {hs':Hs},zH0 hs'=true → ∀ i o',jA hs' i=some o'→(∃ z full,o' = .live z [] true full)∧100≤i
 | [],_,t,v',h=>by cases h
 | (k,u)::r,hw,t,v',h=>by
  cases u with
  | dead=>simp[zH0] at hw
  | live z es wr full=>
   cases es with
   | cons _ _=>simp[zH0] at hw
   | nil=>
    cases wr with
    | false=>simp[zH0] at hw
    | true=>
     simp only[zH0,Bool.and_eq_true,decide_eq_true_eq] at hw
     simp only[jA] at h
     split at h
     ·cases h;subst_vars;exact⟨⟨z,full,rfl⟩,hw.1⟩
     ·exact zH0.get hw.2 t v' h
theorem qQ.cv0 {fs fs':Fs} {hs hv ho:Hs} (ρ:Nat→Nat) (h1:qFs fs hs ρ (hv.map (·.1)) (ho.map (·.1)) fs') (h2:zIi hs ρ (hv.map (·.1)) (ho.map (·.1)) ho) (h3:zH0 hv=true) (h4:zKz ρ (hs.map (·.1)) (hv.map (·.1)) (ho.map (·.1))=true):qQ fs hs fs' (hv++ho):=by
 simp only[zKz,zAa,Bool.and_eq_true] at h4
 obtain⟨⟨⟨hnum,hinj⟩,hkeep⟩,hdis⟩:=h4
 intro cx β F a w R
 let β':Nat→Option BI:=fun i=>match jA hv i with
  | some o=>some ⟨none,o.z,0⟩
  | none=>match jA ho i with
   | some _=>β (ρ i)
   | none=>none
 have bv : ∀ i o,jA hv i=some o→β' i=some ⟨none,o.z,0⟩:=fun i o h=>by simp[β',h]
 have hvo : ∀ i,i∈ho.map (·.1)→jA hv i=none:=by
  intro i hi
  cases h:jA hv i with
  | none=>rfl
  | some o=>
   have:=List.all_eq_true.1 hdis i (kD h)
   exact absurd hi (by simpa using this)
 have bo : ∀ i,i∈ho.map (·.1)→β' i=β (ρ i):=by
  intro i hi
  obtain⟨o,h⟩:=qCy hi
  simp[β',hvo i hi,h]
 have N:zT1 ρ (hv.map (·.1)) (ho.map (·.1)) β β':=⟨bo,fun i hi=>by
  obtain⟨o,h⟩:=qCy hi
  exact⟨o.z,bv i o h⟩⟩
 have inj : ∀ i j,i∈ho.map (·.1)→j∈ho.map (·.1)→ρ i=ρ j→i=j:=by
  intro i j hi hj e
  obtain⟨m,hm⟩:=List.getElem?_of_mem hi
  obtain⟨n,hn⟩:=List.getElem?_of_mem hj
  have hml:m<(ho.map (·.1)).length:=(List.getElem?_eq_some_iff.1 hm).1
  have hnl:n<(ho.map (·.1)).length:=(List.getElem?_eq_some_iff.1 hn).1
  have:=qBe (of_decide_eq_true hinj) (i:=m) (j:=n) (by simpa using hml) (by simpa using hnl) (by
   have a1:(ho.map (·.1))[m]=i:=by rw[List.getElem?_eq_getElem hml] at hm;exact Option.some.inj hm
   have a2:(ho.map (·.1))[n]=j:=by rw[List.getElem?_eq_getElem hnl] at hn;exact Option.some.inj hn
   simp only[List.getElem_map] at a1 a2 ⊢
   rw[a1,a2];exact e)
  subst this
  rw[hm] at hn;exact Option.some.inj hn
 have ob : ∀ {bi:BI} {o o':Ob},qCq β F w bi o→obC hs ρ (hv.map (·.1)) (ho.map (·.1)) (some o) o'→qCq β' F w bi o':=by
  intro bi o o' hok hc
  cases o' with
  | dead=>trivial
  | live z' es' wr' full'=>
   cases o with
   | dead=>exact hc.elim
   | live z es wr full=>
    obtain⟨rfl,rfl,hfull,u,l,hrd,hes⟩:=hc
    have l1:=qOc hrd
    have l2:=qW1 hes
    unfold qCq at hok ⊢
    obtain⟨g1,g2,g3⟩:=hok
    refine⟨g1,fun h=>by rw[l2,l1];exact g2 (hfull h),?_⟩
    cases hb:bi.blk with
    | none=>
     simp only[hb] at g3 ⊢
     refine⟨?_,g3.2⟩
     rw[g3.1] at l1
     exact List.eq_nil_of_length_eq_zero (by rw[l2,l1];rfl)
    | some b=>
     simp only[hb] at g3 ⊢
     obtain⟨c,e,fz,k1,k2,k3,k4,k5,k6,k7⟩:=g3
     exact⟨c,e,fz,k1,k2,k3,by rw[l2,l1];exact k4,k5,zBd N hes (qQx R hrd k6).2,k7⟩
 have cases_ : ∀ id o',jA (hv++ho) id=some o'→(∃ z full,o' = .live z [] true full∧β' id=some ⟨none,z,0⟩∧100≤id)∨(id∈ho.map (·.1) ∧ ∃ o,jA hs (ρ id)=some o∧obC hs ρ (hv.map (·.1)) (ho.map (·.1)) (some o) o'∧(id<100→ρ id=id)∧(100≤id→100≤ρ id)):=by
  intro id o' h
  rw[qId] at h
  split at h
  ·rename_i o hvl
   cases h
   obtain⟨⟨z,full,rfl⟩,h100⟩:=zH0.get h3 id o' hvl
   exact .inl ⟨z,full,rfl,bv id _ hvl,h100⟩
  ·have hob:=h2.get id o' h
   have hm:=kD h
   have hi:=List.all_eq_true.1 hnum id hm
   have hi':(id<100∧ρ id=id)∨(100≤id∧100≤ρ id):=by simpa using hi
   cases hl:jA hs (ρ id) with
   | none=>rw[hl] at hob;cases o'<;>exact hob.elim
   | some o=>
    rw[hl] at hob
    exact .inr ⟨hm,o,rfl,hob,fun h=>by rcases hi' with h' | h';exact h'.2;omega,fun h=>by rcases hi' with h' | h';omega;exact h'.2⟩
 have notdead : ∀ {o o':Ob},obC hs ρ (hv.map (·.1)) (ho.map (·.1)) (some o) o'→o'≠ .dead→o≠ .dead:=by
  intro o o' hc hd hd'
  subst hd'
  cases o' with
  | dead=>exact hd rfl
  | live _ _ _ _=>exact hc
 refine⟨β',F,R.tsz,R.dfr,fun t v' hv'=>?_,fun id o' ho'=>?_,fun id hn=>?_,fun i j bi bj b oi oj e1 e2 e3 e4 e5 e6 e7 e8=>?_,R.os,R.tape,R.output,R.size,R.ext,fun id z es full bi b e1 e2 e3=>?_,R.inF,R.inw,R.Fw,R.F0,fun id bi b e1 e2=>?_,fun g cs hg=>?_,fun k bi hk=>?_,R.gs⟩
 ·have hsl:=h1.get t v' hv'
  unfold zCh at hsl
  split at hsl
  ·rename_i v hl
   obtain⟨u,l,hrd,heq⟩:=hsl
   obtain⟨x,g3,g4⟩:=R.fr t v hl
   exact⟨x,g3,qIu N (qDr R hrd g4) heq⟩
  ·exact hsl.elim
 ·rcases cases_ id o' ho' with⟨z,full,rfl,hb,_⟩ | ⟨hm,o,g1,g2,_⟩
  ·exact⟨_,hb,rfl,fun _=>rfl,rfl,rfl⟩
  ·obtain⟨bi,g3,g4⟩:=R.hp _ o g1
   exact⟨bi,by rw[bo id hm];exact g3,ob g4 g2⟩
 ·rw[qId] at hn
  split at hn
  ·cases hn
  ·rename_i hv0
   simp[β',hv0,hn]
 ·rcases cases_ i oi e5 with⟨z,full,rfl,hb,_⟩ | ⟨hm,o,g1,g2,_⟩
  ·rw[hb] at e1;cases e1;cases e3
  ·rcases cases_ j oj e6 with⟨z,full,rfl,hb,_⟩ | ⟨hm',o',g1',g2',_⟩
   ·rw[hb] at e2;cases e2;cases e4
   ·rw[bo i hm] at e1
    rw[bo j hm'] at e2
    exact inj i j hm hm' (R.inj _ _ bi bj b o o' e1 e2 e3 e4 g1 g1' (notdead g2 e7) (notdead g2' e8))
 ·rcases cases_ id _ e1 with⟨z',full',_,hb,_⟩ | ⟨hm,o,g1,g2,g3,g4⟩
  ·rw[hb] at e2;cases e2;cases e3
  ·rw[bo id hm] at e2
   cases o with
   | dead=>exact g2.elim
   | live z0 es0 wr0 full0=>
    obtain⟨_,rfl,_⟩:=g2
    rcases R.old _ z0 es0 full0 bi b g1 e2 e3 with h | ⟨h,h'⟩
    ·exact .inl h
    ·refine .inr ⟨?_,h'⟩
     rcases Nat.lt_or_ge id 100 with h7 | h7
     ·exact h7
     ·have:=g4 h7;omega
 ·cases hl:jA hv id with
  | some o=>rw[bv id o hl] at e1;cases e1;cases e2
  | none=>
   cases hl2:jA ho id with
   | none=>simp[β',hl,hl2] at e1
   | some o=>
    rw[bo id (kD hl2)] at e1
    exact R.blt _ bi b e1 e2
 ·have:=R.gl g cs hg
  cases this with
  | ro _ ad news ha hn h1' hF hw h=>exact .ro cs _ news ha hn h1' hF hw h
 ·have hβ:=R.ext0 k bi hk
  cases hl:jA hs k with
  | none=>rw[R.dom k hl] at hβ;cases hβ
  | some o=>
   have hk100:=cx.d0 k bi hk
   have hm:k∈ho.map (·.1):=by
    have:=List.all_eq_true.1 hkeep k (kD hl)
    simpa [hk100] using this
   rw[bo k hm]
   have hi:=List.all_eq_true.1 hnum k hm
   have hi':(k<100∧ρ k=k)∨(100≤k∧100≤ρ k):=by simpa using hi
   rw[show ρ k=k by rcases hi' with h | h;exact h.2;omega]
   exact hβ
theorem qQ.cv {fs fs':Fs} {hs hv ho:Hs} (fz:List Nat) (ρ:Nat→Nat)
  (h:(qRt fz).wp hs (fun fw _=>qFs fs (qTe hs fw) ρ (hv.map (·.1)) (ho.map (·.1)) fs'∧zIi (qTe hs fw) ρ (hv.map (·.1)) (ho.map (·.1)) ho∧zKz ρ ((qTe hs fw).map (·.1)) (hv.map (·.1)) (ho.map (·.1))=true)) (h3:zH0 hv=true):qQ fs hs fs' (hv++ho):=by
 obtain⟨fw,l,hf,h1,h2,h4⟩:=h
 exact (qQ.freeze hf).trans (qQ.cv0 ρ h1 h2 h3 h4)
theorem qQ.rd {fs fs':Fs} {hs ho:Hs} (ρ:Nat→Nat) (h1:qFs fs hs ρ [] (ho.map (·.1)) fs') (h2:zIi hs ρ [] (ho.map (·.1)) ho) (h4:zKz ρ (hs.map (·.1)) [] (ho.map (·.1))=true):qQ fs hs fs' ho:=
 qQ.cv0 (hv:=[]) ρ h1 h2 rfl h4
end Go.Eng
end
section
namespace Go.Eng
def zP1 (es:List V):List Nat:=
 match qCo es with
 | some _=>[]
 | none=>qIa es
def qH8:Nat→List Nat→List Nat→List Ob→Q (List Nat×List Ob)
 | _,[],ids,obs=> .ret (ids,obs)
 | 0,_::_,_,_=> .fail
 | n+1,id::todo,ids,obs=>if ids.contains id then qH8 n todo ids obs else
  .get id fun
   | .live z es true full=>(zIp es).bind fun es'=>qH8 n (todo++zP1 es') (ids++[id]) (obs++[.live z es' true full])
   | _=> .fail
def zTu (n:Nat) (vs:List V):Q (V×List Ob):=
 (rdL (rdV 4) vs).bind fun us=>(qH8 (40+n) (List.range n++qIa us) [] []).bind fun q=>
  Q.assert ((qIa us).all (fun i=>q.1.contains i)=true) (.ret (zOi (qC6 (fun r=>q.1.idxOf r) us),q.2.map (Ob.ren fun r=>q.1.idxOf r)))
def qAg (fz:List Nat) (rs:List (Nat×Option (Nat×Bool))) (n:Nat) (R:V→List Ob→Prop):qBs:=fun e fs hs=>
 match e with
 | .exit _=>False
 | _=>(qRt fz).wp hs (fun fw _=>((rsQ fs rs).bind fun vs=>zTu n vs).wp (qTe hs fw) (fun p _=>R p.1 p.2))
def zT0 (hm:Nat→Option Ob) (id:Nat) (o:Ob):Prop:=
 ∃ z es es' full l,hm id=some (.live z es true full)∧o = .live z es' true full∧(zIp es).run hm=some (es',l)
theorem qNv {hm:Nat→Option Ob} : ∀ {n:Nat} {todo ids:List Nat} {obs:List Ob} {ids':List Nat} {obs':List Ob} {l:List Nat},(qH8 n todo ids obs).run hm=some ((ids',obs'),l)→
  ids.Nodup→ids.length=obs.length→(∀ (k id:Nat) (o:Ob),ids[k]?=some id→obs[k]?=some o→zT0 hm id o)→(∀ o∈obs,∀ z es wr full,o = .live z es wr full → ∀ r∈zP1 es,r∈ids∨r∈todo)→
   ids'.Nodup∧ids'.length=obs'.length∧(∀ (k id:Nat) (o:Ob),ids'[k]?=some id→obs'[k]?=some o→zT0 hm id o)∧(∀ o∈obs',∀ z es wr full,o = .live z es wr full → ∀ r∈zP1 es,r∈ids')∧
    (∀ r∈todo,r∈ids') ∧ ∃ s,ids'=ids++s
 | n,[],ids,obs,ids',obs',l,h,h1,h2,h3,h4=>by
  have h':(Q.ret (ids,obs):Q _).run hm=some ((ids',obs'),l):=by cases n<;>exact h
  obtain⟨e,_⟩:=qB h'
  cases e
  refine⟨h1,h2,h3,fun o ho z es wr full e r hr=>?_,by simp,[],by simp⟩
  rcases h4 o ho z es wr full e r hr with h | h
  ·exact h
  ·simp at h
 | 0,_::_,ids,obs,ids',obs',l,h,_,_,_,_=>by cases h
 | n+1,id::todo,ids,obs,ids',obs',l,h,h1,h2,h3,h4=>by
  simp only[qH8] at h
  split at h
  ·rename_i hc
   have hc':id∈ids:=by simpa using hc
   obtain⟨g1,g2,g3,g4,g5,s,g6⟩:=qNv h h1 h2 h3 (fun o ho z es wr full e r hr=>by
    rcases h4 o ho z es wr full e r hr with h | h
    ·exact .inl h
    ·rcases List.mem_cons.1 h with rfl | h
     ·exact .inl hc'
     ·exact .inr h)
   refine⟨g1,g2,g3,g4,fun r hr=>?_,s,g6⟩
   rcases List.mem_cons.1 hr with rfl | hr
   ·rw[g6];simp[hc']
   ·exact g5 r hr
  ·rename_i hc
   have hc':id ∉ ids:=by simpa using hc
   obtain⟨o,l',ho,hs2,_⟩:=yF h
   cases o with
   | dead=>cases hs2
   | live z es wr full=>
    cases wr with
    | false=>cases hs2
    | true=>
     obtain⟨es',l1,l2,hp,hs3,_⟩:=qW hs2
     obtain⟨g1,g2,g3,g4,g5,s,g6⟩:=qNv hs3 (by
       rw[List.nodup_append]
       refine⟨h1,by simp,?_⟩
       intro x hx y hy e
       simp at hy
       subst e hy
       exact hc' hx) (by simp[h2]) (fun k i o hk hok=>by
       rcases Nat.lt_or_ge k ids.length with hlt | hge
       ·rw[List.getElem?_append_left hlt] at hk
        rw[List.getElem?_append_left (by omega)] at hok
        exact h3 k i o hk hok
       ·rw[List.getElem?_append_right hge] at hk
        rw[List.getElem?_append_right (by omega)] at hok
        have e1:k-ids.length=0:=by
         have:=(List.getElem?_eq_some_iff.1 hk).1
         simp at this;omega
        have e2:k-obs.length=0:=by omega
        rw[e1] at hk;rw[e2] at hok
        simp at hk hok
        subst hk hok
        exact⟨z,es,es',full,l1,ho,rfl,hp⟩) (fun o ho' z' es2 wr' full' e r hr=>by
       rcases List.mem_append.1 ho' with ho' | ho'
       ·rcases h4 o ho' z' es2 wr' full' e r hr with h | h
        ·exact .inl (by simp[h])
        ·rcases List.mem_cons.1 h with rfl | h
         ·exact .inl (by simp)
         ·exact .inr (by simp[h])
       ·simp at ho'
        rw[ho'] at e
        cases e
        exact .inr (by simp[hr]))
     refine⟨g1,g2,g3,g4,fun r hr=>?_,id::s,by rw[g6];simp⟩
     rcases List.mem_cons.1 hr with rfl | hr
     ·rw[g6];simp
     ·exact g5 r (by simp[hr])
theorem qNw {hm:Nat→Option Ob} : ∀ {m n s:Nat} {rest:List Nat} {obs:List Ob} {ids':List Nat} {obs':List Ob} {l:List Nat},(qH8 n (List.range' s m++rest) (List.range s) obs).run hm=some ((ids',obs'),l) → ∃ t,ids'=List.range (s+m)++t
 | 0,n,s,rest,obs,ids',obs',l,h=>by
  have key : ∀ {n:Nat} {todo ids:List Nat} {obs:List Ob} {ids':List Nat} {obs':List Ob} {l:List Nat},(qH8 n todo ids obs).run hm=some ((ids',obs'),l) → ∃ s,ids'=ids++s:=by
   intro n
   induction n with
   | zero=>
    intro todo ids obs ids' obs' l h
    cases todo with
    | nil=>obtain⟨e,_⟩:=qB (x:=(ids,obs)) h;cases e;exact⟨[],by simp⟩
    | cons _ _=>cases h
   | succ n ih=>
    intro todo ids obs ids' obs' l h
    cases todo with
    | nil=>obtain⟨e,_⟩:=qB (x:=(ids,obs)) h;cases e;exact⟨[],by simp⟩
    | cons id todo=>
     simp only[qH8] at h
     split at h
     ·exact ih h
     ·obtain⟨o,l',ho,hs2,_⟩:=yF h
      cases o with
      | dead=>cases hs2
      | live z es wr full=>
       cases wr with
       | false=>cases hs2
       | true=>
        obtain⟨es',l1,l2,hp,hs3,_⟩:=qW hs2
        obtain⟨s,hs⟩:=ih hs3
        exact⟨id::s,by rw[hs];simp⟩
  obtain⟨t,ht⟩:=key h
  exact⟨t,ht⟩
 | m+1,n,s,rest,obs,ids',obs',l,h=>by
  cases n with
  | zero=>rw[List.range'_succ] at h;cases h
  | succ n=>
   rw[List.range'_succ,List.cons_append] at h
   simp only[qH8] at h
   split at h
   ·rename_i hc
    simp at hc
   ·obtain⟨o,l',ho,hs2,_⟩:=yF h
    cases o with
    | dead=>cases hs2
    | live z es wr full=>
     cases wr with
     | false=>cases hs2
     | true=>
      obtain⟨es',l1,l2,hp,hs3,_⟩:=qW hs2
      rw[←List.range_succ,List.append_assoc] at hs3
      obtain⟨t,ht⟩:=qNw hs3
      exact⟨t,by rw[ht];congr 2;omega⟩
variable {cx:Cx} {β:Nat→Option BI} {F:Nat→Prop} {a:Act} {w:World} {fm:Nat→Option V} {hm:Nat→Option Ob}
theorem qUp {ids:List Nat} {v:V} {x:Value} (h:qL β F w v x):(∀ r∈v.ids,r∈ids)→qL (qGb ids β) F w (v.ren (fun r=>ids.idxOf r)) x:=by
 induction h with
 | t h=>intro _;exact .t h
 | nil=>intro _;exact .nil
 | ref id i f b sz room hb=>intro hr;exact .ref _ i f b sz room (by rw[qFn (hr id (by simp[V.ids]))];exact hb)
 | bd g id i f b sz room hb=>intro hr;exact .bd g _ i f b sz room (by rw[qFn (hr id (by simp[V.ids]))];exact hb)
 | bq b=>intro _;exact .bq b
 | ro cs a news ha hn h1 hF hw h=>intro _;exact .ro cs a news ha hn h1 hF hw h
 | sl id off len cap b sz room a hb hlc hr ha hs=>intro hi;exact .sl _ off len cap b sz room a (by rw[qFn (hi id (by simp[V.ids]))];exact hb) hlc hr ha hs
 | slv id sz room hb=>intro hi;exact .slv _ sz room (by rw[qFn (hi id (by simp[V.ids]))];exact hb)
 | agg cs vs hl h1 _ ih=>
  intro hr
  simp only[V.ren,zF]
  refine .agg _ vs (by simpa using hl) h1 (fun i c u hc hu=>?_)
  rw[List.getElem?_map,Option.map_eq_some_iff] at hc
  obtain⟨c',hc',rfl⟩:=hc
  exact ih i c' u hc' hu (fun r h=>hr r (by simp only[V.ids];exact wA (List.mem_of_getElem? hc') h))
 | tup cs vs hl _ ih=>
  intro hr
  simp only[V.ren,zF]
  refine .tup _ vs (by simpa using hl) (fun i c u hc hu=>?_)
  rw[List.getElem?_map,Option.map_eq_some_iff] at hc
  obtain⟨c',hc',rfl⟩:=hc
  exact ih i c' u hc' hu (fun r h=>hr r (by simp only[V.ids];exact wA (List.mem_of_getElem? hc') h))
 | fn f cs vs hl _ ih=>
  intro hr
  simp only[V.ren,zF]
  refine .fn f _ vs (by simpa using hl) (fun i c u hc hu=>?_)
  rw[List.getElem?_map,Option.map_eq_some_iff] at hc
  obtain⟨c',hc',rfl⟩:=hc
  exact ih i c' u hc' hu (fun r h=>hr r (by simp only[V.ids];exact wA (List.mem_of_getElem? hc') h))
theorem zKa {es:List V} : ∀ r∈qIa es,r∈zP1 es:=by
 intro r hr
 unfold zP1
 split
 ·rename_i ts h
  rw[qA4 h,zNy] at hr
  simp at hr
 ·exact hr
theorem zFp {ids:List Nat} {es:List V} {sz:Nat} {c:Array Value} (h:jZ β F w es sz c) (hi : ∀ r∈qIa es,r∈ids):jZ (qGb ids β) F w (qC6 (fun r=>ids.idxOf r) es) sz c:=by
 intro i x hx
 rw[zF,List.getElem?_map,Option.map_eq_some_iff] at hx
 obtain⟨x0,hx0,rfl⟩:=hx
 obtain⟨h1,h2⟩:=h i x0 hx0
 rw[qEs,zF]
 refine⟨by simpa using h1,fun j y hy=>?_⟩
 rw[List.getElem?_map,Option.map_eq_some_iff] at hy
 obtain⟨y0,hy0,rfl⟩:=hy
 obtain⟨u,g1,g2,g3⟩:=h2 j y0 hy0
 exact⟨u,g1,qUp g2 (fun r hr=>hi r (wA (List.mem_of_getElem? hx0) (qNz hy0 r hr))),g3⟩
theorem zHm {P:Program} {G:Gl} {tab:Tab} {f:FuncId} {fn:Func} {c:Code} {ac:AC} {hints:List (Nat×List Nat)} {rs:List (Nat×Option (Nat×Bool))} (fz:List Nat) (hf:P.funcs[f]?=some fn) (hb:fn.body=some c) (hann:ann P fn.ntmps hints c=some ac) (hmx:P.follows .mixedOrders=true)
  (ht:qBm P G tab) (hrs:qJl P fn.results.toList=some rs) {as:List V} {ins:List Ob} {r:V} {outs:List Ob} (hn:as.length≤fn.ntmps) (hi:ins.length≤100)
  (h:ac.wp tab G (qE 0 as) (qE 0 ins) (qAg fz rs ins.length (fun r' outs'=>r'=r∧outs'=outs))):zA4 P G f as ins r outs:=by
 intro w β F vals env fits hargs
 have hd0 : ∀ k bi,β k=some bi→k<100:=by
  intro k bi h
  rcases Nat.lt_or_ge k ins.length with h1 | h1
  ·omega
  ·rw[fits.dom k h1] at h;cases h
 let cx:Cx := { P,w0:=w,F0:=F,inb:=fun b => ∃ k bi,β k=some bi∧bi.blk=some b,nt:=fn.ntmps,gl:=G,β0:=β,d0:=hd0 }
 have hlen:as.length=vals.size:=by simpa using hargs.length
 have lookAs : ∀ t v,jA (qE 0 as) t=some v→as[t]?=some v:=by
  intro t v h;simpa [qBd] using h
 have lookIns : ∀ t v,jA (qE 0 ins) t=some v→ins[t]?=some v:=by
  intro t v h;simpa [qBd] using h
 have R0:Rel cx β F (jA (qE 0 as)) (jA (qE 0 ins)) { tmps:=vals++Array.replicate (fn.ntmps-vals.size) undef,defers:=[] } w:=by
  refine⟨by simp[cx];omega,rfl,fun t v hv=>?_,fun id o ho=>?_,fun id hn=>?_,fun i j bi bj b oi oj h1 h2 h3 h4 _ _ _ _=>fits.inj i j bi bj b h1 h2 h3 h4,rfl,rfl,rfl,Nat.le_refl _,fun _ _ _=>rfl,fun id z es full bi b h1 h2 h3=> .inr ⟨?_,id,bi,h2,h3⟩,fun b hb=>?_,fun b hb=>?_,env.Fw,fun _ _=>Iff.rfl,fun id bi b h1 h2=>(fits.blt id bi b h1 h2).1,fun g cs hg=>?_,fun _ _ h=>h,env.gs⟩
  ·obtain⟨x,h1,h2⟩:=hargs.get' t v (lookAs t v hv)
   refine⟨x,?_,h2⟩
   have hlt:t<vals.size:=by
    have:=(List.getElem?_eq_some_iff.1 (lookAs t v hv)).1
    omega
   rw[Array.getElem?_append_left hlt]
   simpa using h1
  ·obtain⟨bi,h1,h2,_⟩:=fits.ok id o (lookIns id o ho)
   exact⟨bi,h1,h2⟩
  ·refine fits.dom id ?_
   rcases Nat.lt_or_ge id ins.length with h1 | h1
   ·rw[qBd] at hn
    simp[h1] at hn
   ·exact h1
  ·have:=(List.getElem?_eq_some_iff.1 (lookIns id _ h1)).1
   omega
  ·obtain⟨k,bi,h1,h2⟩:=hb
   exact (fits.blt k bi b h1 h2).2
  ·obtain⟨k,bi,h1,h2⟩:=hb
   exact (fits.blt k bi b h1 h2).1
  ·exact (env.gl g cs hg).mono (fun _ _ h=>by cases h) (fun _ h=>h) (fun _ _=>rfl)
 refine calls_of_wp hf hb (AC.sound (cx:=cx) ht hmx hann h R0 (fun e fs hs βR FR0 a w' hq R0'=>?_))
 have fin:((qRt fz).wp hs (fun fw _=>((rsQ fs rs).bind fun vs=>zTu ins.length vs).wp (qTe hs fw) (fun p _=>p.1=r∧p.2=outs)))→a.defers=[] ∧ ∃ v,(results fn a.tmps).run P w' = .ok v w' ∧ ∃ x β' F',Ending.returned v = .returned x∧qLh w β F ins r outs x β' F' w':=by
  rintro⟨fw,lf,hfz,hq⟩
  obtain⟨FR,R,_⟩:=Rel.freezeAll hfz R0' (fun id _=> .inl rfl)
  rw[←qIe] at R
  rw[Q.wp_bind] at hq
  obtain⟨vs,l0,hvs,⟨r',outs'⟩,l,hrun,e1,e2⟩:=hq
  obtain⟨xs,hxs,hall⟩:=qLv (cx:=cx) R hrs hvs
  refine⟨R.dfr,_,qOg hxs,?_⟩
  simp only at e1 e2
  subst e1 e2
  unfold zTu at hrun
  obtain⟨us,l1,l2,hp,hrun,_⟩:=qW hrun
  obtain⟨q,l3,l4,hqq,hrun,_⟩:=qW hrun
  obtain⟨hsub,hrun⟩:=qF hrun
  obtain⟨e,_⟩:=qB hrun
  simp only[Prod.mk.injEq] at e
  obtain⟨rfl,rfl⟩:=e
  obtain⟨ids,obs⟩:=q
  simp only at hsub ⊢
  obtain⟨t,htt⟩:=qNw (s:=0) (m:=ins.length) (n:=40+ins.length) (rest:=qIa us) (by simpa [List.range_eq_range'] using hqq)
  obtain⟨hnd,hlo,hG,hin,_,_⟩:=qNv hqq (by simp) rfl (by intro k id o h;simp at h) (by simp)
  have hidk : ∀ k,k<ins.length→ids[k]?=some k:=by
   intro k hk
   rw[htt,List.getElem?_append_left (by simpa using hk)]
   simp[hk]
  have hlive : ∀ (k id:Nat),ids[k]?=some id → ∃ z es full,jA (qTe hs fw) id=some (.live z es true full):=by
   intro k id hk
   have hkl:k<obs.length:=by rw[←hlo];exact (List.getElem?_eq_some_iff.1 hk).1
   obtain⟨z,es,es',full,_,g1,_⟩:=hG k id obs[k] hk (by simp[hkl])
   exact⟨z,es,full,g1⟩
  have hβk : ∀ k bi,β k=some bi→βR k=some bi:=R.ext0
  have hklt : ∀ k bi,β k=some bi→k<ins.length:=by
   intro k bi h
   rcases Nat.lt_or_ge k ins.length with h1 | h1
   ·exact h1
   ·rw[fits.dom k h1] at h;cases h
  have hus:wU (qL βR FR w') us xs:=by
   obtain⟨g1,g2⟩:=qG1 hp
   refine qWi (by rw[g1];exact hall.length.symm) (fun i c u hc hu=>?_)
   have hi:i<vs.length:=by rw[←g1];exact (List.getElem?_eq_some_iff.1 hc).1
   obtain⟨li,m1⟩:=g2 i vs[i] c (by simp[hi]) hc
   obtain⟨y,h1,h2⟩:=hall.get' i vs[i] (by simp[hi])
   rw[hu] at h1;cases h1
   exact qDr R m1 h2
  have hren:wU (qL (qGb ids βR) FR w') (qC6 (fun r=>ids.idxOf r) us) xs:=by
   refine qWi (by rw[zF];simpa using hus.length.symm) (fun i c u hc hu=>?_)
   rw[zF,List.getElem?_map,Option.map_eq_some_iff] at hc
   obtain⟨c0,hc0,rfl⟩:=hc
   obtain⟨y,h1,h2⟩:=hus.get' i c0 hc0
   rw[hu] at h1;cases h1
   refine qUp h2 (fun r hr=>?_)
   have:=List.all_eq_true.1 hsub r (wA (List.mem_of_getElem? hc0) hr)
   simpa using this
  have hfits:zIr (qGb ids βR) FR w' (obs.map (Ob.ren fun r=>ids.idxOf r)):=by
   refine⟨fun k o ho=>?_,fun k hk=>?_,fun i j bi bj b h1 h2 h3 h4=>?_,fun k bi b h1 h2=>?_⟩
   ·rw[List.getElem?_map,Option.map_eq_some_iff] at ho
    obtain⟨o',ho',rfl⟩:=ho
    have hkl:k<ids.length:=by rw[hlo];exact (List.getElem?_eq_some_iff.1 ho').1
    obtain⟨z,es,es',full,lr,g1,g2,g3⟩:=hG k ids[k] o' (by simp[hkl]) ho'
    obtain⟨bi,hb,hok⟩:=R.hp _ _ g1
    refine⟨bi,by simp[qGb,hkl,hb],?_,?_⟩
    ·rw[g2]
     have l1:=qOc g3
     have l2:(qC6 (fun r=>ids.idxOf r) es').length=es'.length:=by rw[zF];simp
     have hii : ∀ r∈qIa es',r∈ids:=fun r hr=>hin o' (List.mem_of_getElem? ho') z es' true full g2 r (zKa r hr)
     unfold qCq at hok ⊢
     obtain⟨k1,k2,k3⟩:=hok
     refine⟨k1,fun h=>by rw[l2,l1];exact k2 h,?_⟩
     cases hb:bi.blk with
     | none=>
      simp only[hb] at k3 ⊢
      refine⟨?_,k3.2⟩
      rw[k3.1] at l1
      exact List.eq_nil_of_length_eq_zero (by rw[l2,l1];rfl)
     | some b=>
      simp only[hb] at k3 ⊢
      obtain⟨c,e,fz,m1,m2,m3,m4,m5,m6,m7⟩:=k3
      exact⟨c,e,fz,m1,m2,m3,by rw[l2,l1];exact m4,m5,zFp (qQx R g3 m6).2 hii,m7⟩
    ·rw[g2];exact⟨z,_,full,rfl⟩
   ·rw[List.length_map,←hlo] at hk
    simp[qGb,List.getElem?_eq_none hk]
   ·unfold qGb at h1 h2
    rw[Option.bind_eq_some_iff] at h1 h2
    obtain⟨x,hx,h1⟩:=h1
    obtain⟨y,hy,h2⟩:=h2
    obtain⟨z1,e1,f1,m1⟩:=hlive i x hx
    obtain⟨z2,e2,f2,m2⟩:=hlive j y hy
    have:=R.inj x y bi bj b _ _ h1 h2 h3 h4 m1 m2 (by simp) (by simp)
    subst this
    have hi:i<ids.length:=(List.getElem?_eq_some_iff.1 hx).1
    have hj:j<ids.length:=(List.getElem?_eq_some_iff.1 hy).1
    exact qBe hnd hi hj (by rw[List.getElem?_eq_getElem hi] at hx;rw[List.getElem?_eq_getElem hj] at hy;rw[Option.some.inj hx,Option.some.inj hy])
   ·unfold qGb at h1
    rw[Option.bind_eq_some_iff] at h1
    obtain⟨x,hx,h1⟩:=h1
    obtain⟨z1,e1,f1,m1⟩:=hlive k x hx
    exact⟨R.blt x bi b h1 h2,R.notF m1 h1 h2⟩
  refine⟨_,qGb ids βR,FR,rfl,hfits,qU9 hren,fun k hk=>?_,fun k bi b hk h1 h2=>?_,fun b hb=>R.F0 b hb,R.Fw,R.os,R.tape,R.output,R.size,fun b hb hk=>R.ext b hb (fun ⟨k,bi,h1,h2⟩=>hk k bi h1 h2)⟩
  ·obtain⟨bi,h1,_⟩:=fits.ok k ins[k] (by simp[hk])
   simp[qGb,hidk k hk,hβk k bi h1,h1]
  ·unfold qGb at h1
   rw[Option.bind_eq_some_iff] at h1
   obtain⟨id,hid,h1⟩:=h1
   obtain⟨z,es,full,hl⟩:=hlive k id hid
   rcases R.old id z es full bi b hl h1 h2 with h | ⟨_,k0,bi0,g1,g2⟩
   ·exact h
   ·exfalso
    have hk0:=hklt k0 bi0 g1
    obtain⟨z0,es0,full0,hl0⟩:=hlive k0 k0 (hidk k0 hk0)
    have e:=R.inj id k0 bi bi0 b _ _ h1 (hβk k0 bi0 g1) h2 g2 hl hl0 (by simp) (by simp)
    subst e
    have hi1:k<ids.length:=(List.getElem?_eq_some_iff.1 hid).1
    have hi2:id<ids.length:=(List.getElem?_eq_some_iff.1 (hidk id hk0)).1
    have:=qBe hnd hi1 hi2 (by
     have a1:=hid
     have a2:=hidk id hk0
     rw[List.getElem?_eq_getElem hi1] at a1
     rw[List.getElem?_eq_getElem hi2] at a2
     rw[Option.some.inj a1,Option.some.inj a2])
    omega
 cases e with
 | normal=>exact fin hq
 | ret=>exact fin hq
 | exit id=>exact hq.elim
def qUt (tab:Tab) (gl:Gl) (a:AC):Nat→Fs→Hs→qBs→Prop
 | 0,_,_,_=>False
 | n+1,fs,hs,Qx=>a.wp tab gl fs hs (fun e fs' hs'=>match e with | .normal=>qUt tab gl a n fs' hs' Qx | e=>Qx e fs' hs')
theorem qU {tab:Tab} {gl:Gl} {a:AC} (n:Nat) {fs:Fs} {hs:Hs} {Qx:qBs} (h:qUt tab gl a n fs hs Qx):qN2 tab gl a fs hs Qx:=by
 refine qE9 (ι := { p:Nat×Fs×Hs // qUt tab gl a p.1 p.2.1 p.2.2 Qx }) (fun i=>i.1.2) (fun i=>i.1.1) ⟨(n,fs,hs),h⟩ qQ.refl (fun i=>?_)
 obtain⟨⟨m,f,g⟩,hi⟩:=i
 cases m with
 | zero=>exact hi.elim
 | succ m=>
  refine qCa (fun e f' g' hq=>?_) hi
  cases e with
  | normal=>exact⟨⟨(m,f',g'),hq⟩,Nat.lt_succ_self m,qQ.refl⟩
  | exit id=>exact hq
  | ret=>exact hq
end Go.Eng
end
