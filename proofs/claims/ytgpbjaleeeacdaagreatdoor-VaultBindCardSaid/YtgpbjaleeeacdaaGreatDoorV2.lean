/- My own text: an abstract machine, its walks over the functions reached, and their tie to the program. -/
import Derived.Test.YtgpbjaleeeacdaaGreatDoorV1
import Derived.BigCall
set_option linter.unusedSimpArgs false
set_option linter.unusedVariables false
section
namespace Go.Eng
mutual
def T.flat:T→Bool
 | .sl es=>es.isEmpty
 | .agg cs=>qO4 cs
 | .tup cs=>qO4 cs
 | _=>true
def qO4:List T→Bool
 | []=>true
 | c::r=>c.flat&&qO4 r
end
mutual
def V.flat:V→Bool
 | .t x=>x.flat
 | .ro _=>false
 | .agg cs=>qKc cs
 | .tup cs=>qKc cs
 | .fn _ cs=>qKc cs
 | _=>true
def qKc:List V→Bool
 | []=>true
 | c::r=>c.flat&&qKc r
end
def Ob.flat:Ob→Bool
 | .live _ es _ _=>qKc es
 | .dead=>true
def zB3 (obs:List Ob):Bool:=obs.all Ob.flat
theorem qLt : ∀ {cs:List T},qO4 cs=true → ∀ (i:Nat) (c:T),cs[i]?=some c→c.flat=true
 | [],_,i,c,hc=>by simp at hc
 | x::r,h,i,c,hc=>by
  simp only[qO4,Bool.and_eq_true] at h
  cases i with
  | zero=>simp at hc;subst hc;exact h.1
  | succ i=>exact qLt h.2 i c (by simpa using hc)
theorem qFk : ∀ {cs:List V},qKc cs=true → ∀ (i:Nat) (c:V),cs[i]?=some c→c.flat=true
 | [],_,i,c,hc=>by simp at hc
 | x::r,h,i,c,hc=>by
  simp only[qKc,Bool.and_eq_true] at h
  cases i with
  | zero=>simp at hc;subst hc;exact h.1
  | succ i=>exact qFk h.2 i c (by simpa using hc)
theorem zB4 {v:V} (h:v.flat=true) (i:Nat) (c:V) (hc:v.cells[i]?=some c):c.flat=true:=by
 have one:v.cells=[v]→c.flat=true:=by
  intro e
  rw[e] at hc
  cases i with
  | zero=>simp at hc;subst hc;exact h
  | succ i=>simp at hc
 cases v with
 | agg cs=>exact qFk (cs:=cs) (by simpa [V.flat] using h) i c hc
 | t x=>
  cases x with
  | agg cs=>
   simp only[V.cells,List.getElem?_map,Option.map_eq_some_iff] at hc
   obtain⟨c',hc',rfl⟩:=hc
   exact qLt (by simpa [V.flat,T.flat] using h) i c' hc'
  | _=>exact one rfl
 | _=>exact one rfl
variable {β:Nat→Option BI} {F:Nat→Prop} {w:World}
theorem Rep.flat {F2:Nat→Prop} {x:T} {v:Value} (h:Rep F w x v):x.flat=true→Rep F2 w x v:=by
 induction h with
 | int k n=>intro _;exact .int k n
 | bool b=>intro _;exact .bool b
 | str s=>intro _;exact .str s
 | fnil=>intro _;exact .fnil
 | pnil=>intro _;exact .pnil
 | agg cs vs hl h1 _ ih=>intro hf;exact .agg cs vs hl h1 (fun i c u hc hu=>ih i c u hc hu (qLt (by simpa [T.flat] using hf) i c hc))
 | tup cs vs hl _ ih=>intro hf;exact .tup cs vs hl (fun i c u hc hu=>ih i c u hc hu (qLt (by simpa [T.flat] using hf) i c hc))
 | nil=>intro _;exact .nil
 | sl es a cap sz news ha hc hn h1 hF hw hz _ ih=>
  intro hf
  have:es=[]:=by simpa [T.flat] using hf
  subst this
  exact .sl [] a cap sz news ha hc hn h1 (by simp) hw hz (by intro i e j c u he;simp at he)
theorem qU.flat {F2:Nat→Prop} {x:V} {v:Value} (h:qU β F w x v):x.flat=true→qU β F2 w x v:=by
 induction h with
 | t h=>intro hf;exact .t (h.flat hf)
 | nil=>intro _;exact .nil
 | ref id i f b sz room hb=>intro _;exact .ref id i f b sz room hb
 | bd g id i f b sz room hb=>intro _;exact .bd g id i f b sz room hb
 | bq b=>intro _;exact .bq b
 | ro cs a news ha hn h1 hF hw h=>intro hf;simp[V.flat] at hf
 | sl id off len cap b sz room a hb hlc hr ha hs=>intro _;exact .sl id off len cap b sz room a hb hlc hr ha hs
 | slv id sz room hb=>intro _;exact .slv id sz room hb
 | agg cs vs hl h1 _ ih=>intro hf;exact .agg cs vs hl h1 (fun i c u hc hu=>ih i c u hc hu (qFk (by simpa [V.flat] using hf) i c hc))
 | tup cs vs hl _ ih=>intro hf;exact .tup cs vs hl (fun i c u hc hu=>ih i c u hc hu (qFk (by simpa [V.flat] using hf) i c hc))
 | fn f cs vs hl _ ih=>intro hf;exact .fn f cs vs hl (fun i c u hc hu=>ih i c u hc hu (qFk (by simpa [V.flat] using hf) i c hc))
theorem qE9.flat {F2:Nat→Prop} {bi:BI} {z:Nat} {es:List V} {full:Bool} (h:qE9 β F w bi (.live z es true full)) (hf:qKc es=true) (h2 : ∀ b,bi.blk=some b → ¬ F2 b) :
  qE9 β F2 w bi (.live z es true full):=by
 unfold qE9 at *
 obtain⟨g1,g2,g3⟩:=h
 refine⟨g1,g2,?_⟩
 cases hb:bi.blk with
 | none=>simp only[hb] at g3 ⊢;exact g3
 | some b=>
  simp only[hb] at g3 ⊢
  obtain⟨c,e,fz,k1,k2,k3,k4,k5,k6,k7⟩:=g3
  refine⟨c,e,fz,k1,k2,k3,k4,k5,fun i x hx=>?_,by simpa using h2 b hb⟩
  obtain⟨m1,m2⟩:=k6 i x hx
  refine⟨m1,fun j y hy=>?_⟩
  obtain⟨u,hu,hr,ho⟩:=m2 j y hy
  exact⟨u,hu,hr.flat (zB4 (qFk hf i x hx) j y hy),ho⟩
def qDk (g:V→Q (V×List Nat)):List V→Q (List V×List Nat)
 | []=> .ret ([],[])
 | c::r=>(g c).bind fun p=>(qDk g r).bind fun q=> .ret (p.1::q.1,p.2++q.2)
def zN:Nat→V→Q (V×List Nat)
 | _,.t x=> .ret (.t x,[])
 | _,.nil=> .ret (.t (.sl []),[])
 | _,.ro cs=> .ret (.ro cs,[])
 | _,.ref id i f=> .ret (.ref id i f,[])
 | _,.bd g id i f=> .ret (.bd g id i f,[])
 | n+1,.sl id off len=> .get id fun
  | .live _ es wr _=>Q.assert (off+len≤es.length)
   (match qE7 es with
   | some ts=> .ret (.t (.sl ((ts.drop off).take len)),if wr then [id] else [])
   | none=>(qDk (zN n) es).bind fun p=>match qE7 p.1 with
    | some ts=> .ret (.t (.sl ((ts.drop off).take len)),if wr then id::p.2 else p.2)
    | none=> .fail)
  | .dead=> .fail
 | n+1,.agg cs=>(qDk (zN n) cs).bind fun p=> .ret (V.mk p.1,p.2)
 | n+1,.fn f cs=>(qDk (zN n) cs).bind fun p=> .ret (.fn f p.1,p.2)
 | _,_=> .fail
def qDj (es:List V):Q (List V×List Nat):=
 match qE7 es with
 | some _=> .ret (es,[])
 | none=>qDk (zN 3) es
mutual
def V.refs:V→List Nat
 | .ref id _ _=>[id]
 | .bd _ id _ _=>[id]
 | .agg cs=>qBa cs
 | .tup cs=>qBa cs
 | .fn _ cs=>qBa cs
 | _=>[]
def qBa:List V→List Nat
 | []=>[]
 | c::r=>c.refs++qBa r
end
def qB2:Nat→List Nat→List Nat→List Ob→List Nat→Q (List Nat×List Ob×List Nat)
 | _,[],ids,obs,fz=> .ret (ids,obs,fz)
 | 0,_::_,_,_,_=> .fail
 | n+1,id::todo,ids,obs,fz=>if ids.contains id then qB2 n todo ids obs fz else
  .get id fun
   | .live z es true full=>(qDj es).bind fun p=>qB2 n (todo++(match qE7 es with | some _=>[] | none=>qBa p.1)) (ids++[id]) (obs++[.live z p.1 true full]) (fz++p.2)
   | _=> .fail
def qV0:List Nat→Q Wr
 | []=> .ret []
 | id::r=> .get id fun
  | .live z es true full=>Q.assert (100≤id) ((qV0 r).bind fun q=> .ret ((id,.live z es false full)::q))
  | _=> .fail
structure CP where
 as:List V
 ids:List Nat
 obs:List Ob
 fz:List Nat
 fw:Wr
def qQv (keep:Bool) (vs:List V):Q CP:=
 (qDk (zN 4) vs).bind fun p=>(qB2 12 (qBa p.1) [] [] []).bind fun q=>
  Q.assert ((keep=true∨q.2.2=[])∧(q.1.all fun i => !(p.2++q.2.2).contains i)=true) ((qV0 (p.2++q.2.2)).bind fun fw=> .ret ⟨p.1,q.1,q.2.1,p.2++q.2.2,fw⟩)
def qPl (β:Nat→Option BI) (F:Nat→Prop) (fz:List Nat):Nat→Prop:=fun b=>F b ∨ ∃ id∈fz,∃ bi,β id=some bi∧bi.blk=some b
theorem qPl.of {fz:List Nat} {b:Nat} (h:F b):qPl β F fz b:= .inl h
theorem qPl.sub {fz fz':List Nat} (h : ∀ i∈fz,i∈fz') : ∀ b,qPl β F fz b→qPl β F fz' b:=by
 intro b hb
 rcases hb with h1 | ⟨i,hi,bi,h1,h2⟩
 ·exact .inl h1
 ·exact .inr ⟨i,h i hi,bi,h1,h2⟩
variable {cx:Cx} {fm:Nat→Option V} {hm:Nat→Option Ob} {a:Act}
theorem qFz {es:List V} {ts:List T} (h:qE7 es=some ts):ts.length=es.length:=by rw[qDh h];simp
theorem qZo (R:Rel cx β F fm hm a w) {F':Nat→Prop} (hF : ∀ b,F b→F' b) {id off len z:Nat} {es:List V} {wr full:Bool} (ho:hm id=some (.live z es wr full)) {x:Value} (hx:qU β F w (.sl id off len) x)
  (hle:off+len≤es.length) (hb : ∀ bi b,β id=some bi→bi.blk=some b→F' b) {ts:List T} (hl:ts.length=es.length)
  (hz : ∀ t∈ts,t.cells.length=z) (hr : ∀ (i:Nat) (e:V) (t:T),es[i]?=some e→ts[i]?=some t → ∀ (j:Nat) (q:V) (c:T) (u:Value),e.cells[j]?=some q→t.cells[j]?=some c→qU β F w q u→u.oneCell'=true→Rep F' w c u) :
  Rep F' w (.sl ((ts.drop off).take len)) x:=by
 cases hx with
 | slv _ sz room hb'=>
  obtain⟨bi',hb'',hok⟩:=R.hp id _ ho
  rw[hb'] at hb'';cases hb''
  simp only[List.take_zero]
  exact .nil
 | sl _ _ _ scap b sz room ad hb' hlc hrm had hsp=>
  obtain⟨c,ce,fz,h2,h3,h4,h5,h6,h7,h8,h9⟩:=R.obj ho hb' rfl
  simp only at h4 h5 h7 h9
  subst h9
  have hl2:((ts.drop off).take len).length=len:=by simp;omega
  have e1:(off+len)*sz≤room*sz:=Nat.mul_le_mul_right _ (by omega)
  have e2:(off+len)*sz=off*sz+len*sz:=by rw[Nat.add_mul]
  have hsrc:=h7.src h4 h5
  have key:=Rep.sl (F:=F') (w:=w) ((ts.drop off).take len) ad scap sz ((c.toList.drop (off*sz)).take (len*sz)) (fun _=>hsp) (by rw[hl2];omega) (by rw[hl2];simp;omega)
   (fun u hu=>by
    obtain⟨j,hj⟩:=List.getElem?_of_mem hu
    simp only[List.getElem?_take,List.getElem?_drop] at hj
    split at hj
    ·rename_i hlt
     have:(c.toList.take (es.length*sz))[off*sz+j]?=some u:=by
      rw[List.getElem?_take,if_pos]
      ·exact hj
      ·have:(off+len)*sz≤es.length*sz:=Nat.mul_le_mul_right _ hle
       omega
     exact hsrc.2.1 u (List.mem_of_getElem? this)
    ·cases hj)
   (fun hne=>by
    have hlt2:0<scap:=by
     rcases Nat.eq_zero_or_pos len with h0 | h0
     ·exact absurd (List.eq_nil_of_length_eq_zero (by rw[hl2,h0])) hne
     ·omega
    rw[had hlt2]
    exact hb _ b hb' rfl)
   (fun j u hj=>by
    simp only[List.getElem?_take,List.getElem?_drop] at hj
    split at hj
    ·rename_i hlt
     have hlt2:0<scap:=by
      rcases Nat.eq_zero_or_pos len with h0 | h0
      ·subst h0;simp at hlt
      ·omega
     rw[had hlt2,Addr.add_lit,cell_of_row w b _ c ce fz h2]
     simpa using hj
    ·cases hj)
   (fun t ht=>hz t (List.mem_of_mem_drop (List.mem_of_mem_take ht)))
   (fun i t j q u ht hq hu=>by
    have ht':ts[off+i]?=some t∧i<len:=by
     simp only[List.getElem?_take,List.getElem?_drop] at ht
     split at ht
     ·rename_i h;exact⟨ht,h⟩
     ·cases ht
    have hei:off+i<es.length:=by omega
    obtain⟨m1,m2⟩:=h7 (off+i) es[off+i] (by simp[hei])
    have hjz:j<sz:=by rw[←hz t (List.mem_of_getElem? ht'.1)];exact (List.getElem?_eq_some_iff.1 hq).1
    obtain⟨u',hu',hru,hone'⟩:=m2 j (es[off+i].cells[j]'(by omega)) (by simp)
    have:u'=u:=by
     simp only[List.getElem?_take,List.getElem?_drop] at hu
     split at hu
     ·have e3:(off+i)*sz+j=off*sz+(i*sz+j):=by rw[Nat.add_mul];omega
      rw[e3] at hu'
      rw[Array.getElem?_toList,hu'] at hu
      exact Option.some.inj hu
     ·cases hu
    subst this
    exact hr (off+i) es[off+i] t (by simp[hei]) ht'.1 j _ q u' (by simp) hq hru hone')
  rw[hl2] at key
  exact key
end Go.Eng
end
section
namespace Go.Eng
variable {β:Nat→Option BI} {F:Nat→Prop} {w:World} {cx:Cx} {fm:Nat→Option V} {hm:Nat→Option Ob} {a:Act}
theorem vM {g:V→Q (V×List Nat)} : ∀ {cs cs':List V} {fz l:List Nat},(qDk g cs).run hm=some ((cs',fz),l)→
  cs'.length=cs.length ∧ ∀ (i:Nat) (c c':V),cs[i]?=some c→cs'[i]?=some c' → ∃ fzi li,(g c).run hm=some ((c',fzi),li) ∧ ∀ j∈fzi,j∈fz
 | [],cs',fz,l,h=>by
  obtain⟨h1,_⟩:=qC h
  cases h1
  exact⟨rfl,by intro i c c' hc;simp at hc⟩
 | c::r,cs',fz,l,h=>by
  simp only[qDk] at h
  obtain⟨p,l1,l2,hp,h,_⟩:=zB h
  obtain⟨q,l3,l4,hq,h,_⟩:=zB h
  obtain⟨h1,_⟩:=qC h
  cases h1
  obtain⟨g1,g2⟩:=vM hq
  refine⟨by simp[g1],fun i x x' hx hx'=>?_⟩
  cases i with
  | zero=>
   simp at hx hx';subst hx hx'
   exact⟨p.2,l1,hp,fun j hj=>by simp[hj]⟩
  | succ i=>
   simp at hx hx'
   obtain⟨fzi,li,m1,m2⟩:=g2 i x x' hx hx'
   exact⟨fzi,li,m1,fun j hj=>by simp[m2 j hj]⟩
theorem Rel.row (R:Rel cx β F fm hm a w) {id z:Nat} {es:List V} {wr full:Bool} (ho:hm id=some (.live z es wr full)):es=[] ∨ ∃ c,vJ β F w es z c:=by
 obtain⟨bi,hb,hok⟩:=R.hp id _ ho
 unfold qE9 at hok
 obtain⟨g1,g2,g3⟩:=hok
 cases hbk:bi.blk with
 | none=>simp only[hbk] at g3;exact .inl g3.1
 | some b=>
  simp only[hbk] at g3
  obtain⟨c,e,fz,k1,k2,k3,k4,k5,k6,k7⟩:=g3
  rw[g1] at k6
  exact .inr ⟨c,k6⟩
theorem Rel.ro (R:Rel cx β F fm hm a w) {id z:Nat} {es:List V} {full:Bool} (ho:hm id=some (.live z es false full)) {bi:BI} {b:Nat} (hb:β id=some bi) (hbk:bi.blk=some b):F b:=by
 obtain⟨bi',hb',hok⟩:=R.hp id _ ho
 rw[hb] at hb';cases hb'
 unfold qE9 at hok
 obtain⟨g1,g2,g3⟩:=hok
 simp only[hbk] at g3
 obtain⟨c,e,fz,k1,k2,k3,k4,k5,k6,k7⟩:=g3
 simpa using k7
theorem wX (R:Rel cx β F fm hm a w) : ∀ {n:Nat} {v v':V} {fz l fz':List Nat} {x:Value},(zN n v).run hm=some ((v',fz),l)→qU β F w v x→(∀ i∈fz,i∈fz')→qU β (qPl β F fz') w v' x
 | n,v,v',fz,l,fz',x,h,hx,hsub=>by
  have base : ∀ {u:V},qU β F w u x→qU β (qPl β F fz') w u x:=fun h=>h.mono (fun _ _ h=>h) (fun _ h=> .inl h) (fun _ _=>rfl)
  cases v with
  | t y=>cases n<;>(obtain⟨h1,_⟩:=qC h;cases h1;exact base hx)
  | nil=>cases n<;>(obtain⟨h1,_⟩:=qC h;cases h1;cases hx;exact .t .nil)
  | ro cs=>cases n<;>(obtain⟨h1,_⟩:=qC h;cases h1;exact base hx)
  | ref id i f=>cases n<;>(obtain⟨h1,_⟩:=qC h;cases h1;exact base hx)
  | bd g id i f=>cases n<;>(obtain⟨h1,_⟩:=qC h;cases h1;exact base hx)
  | bq=>cases n<;>cases h
  | tup cs=>cases n<;>cases h
  | agg cs=>
   cases n with
   | zero=>cases h
   | succ n=>
    simp only[zN] at h
    obtain⟨p,l1,l2,hp,h,_⟩:=zB h
    obtain⟨h1,_⟩:=qC h
    cases h1
    obtain⟨g1,g2⟩:=vM hp
    obtain⟨us,rfl,k1,k2,k3⟩:=hx.agg_inv
    refine qU.mk (by rw[k1,g1]) k2 (fun i c' u hc' hu=>?_)
    have hi:i<cs.length:=by rw[←g1];exact (List.getElem?_eq_some_iff.1 hc').1
    obtain⟨fzi,li,m1,m2⟩:=g2 i cs[i] c' (by simp[hi]) hc'
    exact wX R m1 (k3 i cs[i] u (by simp[hi]) hu) (fun j hj=>hsub j (m2 j hj))
  | fn f cs=>
   cases n with
   | zero=>cases h
   | succ n=>
    simp only[zN] at h
    obtain⟨p,l1,l2,hp,h,_⟩:=zB h
    obtain⟨h1,_⟩:=qC h
    cases h1
    obtain⟨g1,g2⟩:=vM hp
    cases hx with
    | fn _ _ us k1 k3=>
     refine .fn f _ us (by rw[k1,g1]) (fun i c' u hc' hu=>?_)
     have hi:i<cs.length:=by rw[←g1];exact (List.getElem?_eq_some_iff.1 hc').1
     obtain⟨fzi,li,m1,m2⟩:=g2 i cs[i] c' (by simp[hi]) hc'
     exact wX R m1 (k3 i cs[i] u (by simp[hi]) hu) (fun j hj=>hsub j (m2 j hj))
  | sl id off len=>
   cases n with
   | zero=>cases h
   | succ n=>
    simp only[zN] at h
    obtain⟨o,l',ho,h2,_⟩:=vO h
    cases o with
    | dead=>cases h2
    | live z es wr full=>
     obtain⟨hle,h3⟩:=qO h2
     have hbl : ∀ {fz0:List Nat},(∀ i∈(if wr then id::fz0 else fz0),i∈fz') → ∀ bi b,β id=some bi→bi.blk=some b→qPl β F fz' b:=by
      intro fz0 hs bi b hb hbk
      cases wr with
      | true=>exact .inr ⟨id,hs id (by simp),bi,hb,hbk⟩
      | false=>exact .inl (R.ro ho hb hbk)
     split at h3
     ·rename_i ts hts
      obtain⟨h1,_⟩:=qC h3
      cases h1
      have hes:=qDh hts
      refine .t (qZo R (fun _ h=> .inl h) ho hx hle (hbl (fz0:=[]) hsub) (qFz hts) (fun t ht=>?_) (fun i e t he ht j q c u hq hc hru _=>?_))
      ·obtain⟨i,hi⟩:=List.getElem?_of_mem ht
       rcases R.row ho with h0 | ⟨c,hc⟩
       ·rw[h0] at hts;simp[qE7] at hts;subst hts;simp at hi
       ·have:=(hc i (.t t) (by rw[hes,List.getElem?_map,hi];rfl)).1
        rw[qJ4,List.length_map] at this
        exact this
      ·rw[hes,List.getElem?_map,ht] at he
       cases he
       obtain⟨c',hc',rfl⟩:=qAe hq
       rw[hc] at hc';cases hc'
       cases hru with
       | t hru=>exact hru.mono (fun _ h=> .inl h) (fun _ _=>rfl)
     ·obtain⟨p,l1,l2,hp,h3,_⟩:=zB h3
      split at h3
      ·rename_i ts hts
       obtain⟨h1,_⟩:=qC h3
       cases h1
       obtain⟨g1,g2⟩:=vM hp
       have hpe:=qDh hts
       have hfz : ∀ j∈p.2,j∈fz':=fun j hj=>hsub j (by cases wr<;>simp[hj])
       have key : ∀ (i:Nat) (e:V) (t:T),es[i]?=some e→ts[i]?=some t→(∀ u,e.cells[0]?=some e→qU β F w e u→u.oneCell'=true→e.cells=[e]→t.cells=[t])∧
         ((∃ cs,e = .agg cs)∨(∃ cs,e = .t (.agg cs))→t.cells.length=e.cells.length) ∧ ∀ (j:Nat) (q:V) (c:T) (u:Value),e.cells[j]?=some q→t.cells[j]?=some c→qU β F w q u→u.oneCell'=true→Rep (qPl β F fz') w c u:=by
        intro i e t he ht
        obtain⟨fzi,li,m1,m2⟩:=g2 i e (.t t) he (by rw[hpe,List.getElem?_map,ht];rfl)
        have one : ∀ u,qU β F w e u→u.oneCell'=true→Rep (qPl β F fz') w t u∧t.cells=[t]:=by
         intro u hru ho1
         have hr2:=wX R m1 hru (fun j hj=>hfz j (m2 j hj))
         have hc1:=hr2.one_cells ho1
         cases hr2 with
         | t hr2=>
          refine⟨hr2,?_⟩
          rw[qJ4] at hc1
          cases t with
          | agg cs=>
           cases hr2 with
           | agg _ vs hl h1 h=>simp[Value.oneCell'] at ho1
          | _=>rfl
        have single:e.cells=[e] → ∀ (j:Nat) (q:V) (c:T) (u:Value),e.cells[j]?=some q→t.cells[j]?=some c→qU β F w q u→u.oneCell'=true→Rep (qPl β F fz') w c u:=by
         intro hec j q c u hq hc hru ho1
         rw[hec] at hq
         cases j with
         | succ j=>simp at hq
         | zero=>
          simp at hq;subst hq
          obtain⟨k1,k2⟩:=one u hru ho1
          rw[k2] at hc
          simp at hc;subst hc
          exact k1
        refine⟨fun u _ hru ho1 _=>(one u hru ho1).2,?_,?_⟩
        ·rintro (⟨cs,rfl⟩ | ⟨cs,rfl⟩)
         ·cases n with
          | zero=>cases m1
          | succ n=>
           simp only[zN] at m1
           obtain⟨p',_,_,hp',m1,_⟩:=zB m1
           obtain⟨h1,_⟩:=qC m1
           obtain⟨k1,k2⟩:=vM hp'
           have h2:V.mk p'.1 = .t t:=(Prod.mk.inj h1).1.symm
           unfold V.mk at h2
           split at h2
           ·rename_i ts' hts'
            cases h2
            show ts'.length=cs.length
            rw[qFz hts',k1]
           ·cases h2
         ·have h2:(V.t (.agg cs)) = .t t:=by cases n<;>(obtain⟨h1,_⟩:=qC m1;cases h1;rfl)
          cases h2
          rw[qJ4,List.length_map]
        ·cases e with
         | agg cs=>
          intro j q c u hq hc hru ho1
          cases n with
          | zero=>cases m1
          | succ n=>
           simp only[zN] at m1
           obtain⟨p',_,_,hp',m1,_⟩:=zB m1
           obtain⟨h1,_⟩:=qC m1
           obtain⟨k1,k2⟩:=vM hp'
           have h2:V.mk p'.1 = .t t:=(Prod.mk.inj h1).1.symm
           have h2b:p'.2=fzi:=(Prod.mk.inj h1).2.symm
           unfold V.mk at h2
           split at h2
           ·rename_i ts' hts'
            cases h2
            have hc':ts'[j]?=some c:=hc
            obtain⟨fzj,lj,q1,q2⟩:=k2 j q (.t c) hq (by rw[qDh hts',List.getElem?_map,hc'];rfl)
            have hr2:=wX R q1 hru (fun j hj=>hfz j (m2 j (by rw[←h2b];exact q2 j hj)))
            cases hr2 with
            | t hr2=>exact hr2
           ·cases h2
         | t y=>
          intro j q c u hq hc hru ho1
          have h2:(V.t y) = .t t:=by cases n<;>(obtain⟨h1,_⟩:=qC m1;cases h1;rfl)
          cases h2
          obtain⟨c',hc',rfl⟩:=qAe hq
          rw[hc] at hc';cases hc'
          cases hru with
          | t hru=>exact hru.mono (fun _ h=> .inl h) (fun _ _=>rfl)
         | _=>exact single rfl
       refine .t (qZo R (fun _ h=> .inl h) ho hx hle (hbl (fz0:=p.2) hsub) (by rw[qFz hts,g1]) (fun t ht=>?_) (fun i e t he ht=>(key i e t he ht).2.2))
       obtain⟨i,hi⟩:=List.getElem?_of_mem ht
       have hil:i<es.length:=by rw[←g1,←qFz hts];exact (List.getElem?_eq_some_iff.1 hi).1
       rcases R.row ho with h0 | ⟨c,hc⟩
       ·subst h0;simp at hil
       ·obtain⟨e,he⟩ : ∃ e,es[i]?=some e:=⟨es[i],by simp[hil]⟩
        obtain⟨k1,k2⟩:=hc i e he
        obtain⟨q1,q2,_⟩:=key i e t he hi
        have sing:e.cells=[e]→t.cells.length=z:=by
         intro hec
         obtain⟨u,hu,hru,ho1⟩:=k2 0 e (by rw[hec];rfl)
         rw[q1 u (by rw[hec];rfl) hru ho1 hec,←k1,hec];rfl
        cases e with
        | agg cs=>rw[q2 (.inl ⟨cs,rfl⟩),k1]
        | t y=>
         cases y with
         | agg cs=>rw[q2 (.inr ⟨cs,rfl⟩),k1]
         | _=>exact sing rfl
        | _=>exact sing rfl
      ·cases h3
 termination_by n=>n
end Go.Eng
end
section
namespace Go.Eng
variable {β:Nat→Option BI} {F:Nat→Prop} {w:World} {cx:Cx} {fm:Nat→Option V} {hm:Nat→Option Ob} {a:Act}
mutual
def V.noSl:V→Bool
 | .sl _ _ _=>false
 | .agg cs=>qTi cs
 | .tup cs=>qTi cs
 | .fn _ cs=>qTi cs
 | _=>true
def qTi:List V→Bool
 | []=>true
 | c::r=>c.noSl&&qTi r
end
theorem qL5 : ∀ {cs:List V},qTi cs=true → ∀ c∈cs,c.noSl=true
 | [],_,c,hc=>by simp at hc
 | x::r,h,c,hc=>by
  simp only[qTi,Bool.and_eq_true] at h
  simp only[List.mem_cons] at hc
  rcases hc with rfl | hc
  ·exact h.1
  ·exact qL5 h.2 c hc
theorem zFm : ∀ {cs:List V},(∀ c∈cs,c.noSl=true)→qTi cs=true
 | [],_=>rfl
 | x::r,h=>by
  simp only[qTi,Bool.and_eq_true]
  exact⟨h x (by simp),zFm (fun c hc=>h c (by simp[hc]))⟩
theorem qDv : ∀ {cs:List V} {c:V} {r:Nat},c∈cs→r∈c.refs→r∈qBa cs
 | x::cs,c,r,hc,hr=>by
  simp only[qBa,List.mem_append]
  simp only[List.mem_cons] at hc
  rcases hc with rfl | hc
  ·exact .inl hr
  ·exact .inr (qDv hc hr)
theorem zLw (ts:List T):qBa (ts.map .t)=[]:=by
 induction ts with
 | nil=>rfl
 | cons x r ih=>simp[qBa,V.refs,ih]
theorem zVs {cs:List V} (h:qTi cs=true):(V.mk cs).noSl=true:=by
 unfold V.mk;split
 ·rfl
 ·exact h
theorem qLk : ∀ {n:Nat} {v v':V} {fz l:List Nat},(zN n v).run hm=some ((v',fz),l)→v'.noSl=true
 | n,v,v',fz,l,h=>by
  have list : ∀ {m:Nat} {cs cs':List V} {fz l:List Nat},m<n→(qDk (zN m) cs).run hm=some ((cs',fz),l)→qTi cs'=true:=by
   intro m cs cs' fz l hlt h
   obtain⟨g1,g2⟩:=vM h
   refine zFm (fun c hc=>?_)
   obtain⟨i,hi⟩:=List.getElem?_of_mem hc
   have hil:i<cs.length:=by rw[←g1];exact (List.getElem?_eq_some_iff.1 hi).1
   obtain⟨fzi,li,m1,m2⟩:=g2 i cs[i] c (by simp[hil]) hi
   exact qLk m1
  cases v with
  | t y=>cases n<;>(obtain⟨h1,_⟩:=qC h;cases h1;rfl)
  | nil=>cases n<;>(obtain⟨h1,_⟩:=qC h;cases h1;rfl)
  | ro cs=>cases n<;>(obtain⟨h1,_⟩:=qC h;cases h1;rfl)
  | ref id i f=>cases n<;>(obtain⟨h1,_⟩:=qC h;cases h1;rfl)
  | bd g id i f=>cases n<;>(obtain⟨h1,_⟩:=qC h;cases h1;rfl)
  | bq=>cases n<;>cases h
  | tup cs=>cases n<;>cases h
  | agg cs=>
   cases n with
   | zero=>cases h
   | succ n=>
    simp only[zN] at h
    obtain⟨p,l1,l2,hp,h,_⟩:=zB h
    obtain⟨h1,_⟩:=qC h
    cases h1
    exact zVs (list (Nat.lt_succ_self n) hp)
  | fn f cs=>
   cases n with
   | zero=>cases h
   | succ n=>
    simp only[zN] at h
    obtain⟨p,l1,l2,hp,h,_⟩:=zB h
    obtain⟨h1,_⟩:=qC h
    cases h1
    exact list (Nat.lt_succ_self n) hp
  | sl id off len=>
   cases n with
   | zero=>cases h
   | succ n=>
    simp only[zN] at h
    obtain⟨o,l',ho,h2,_⟩:=vO h
    cases o with
    | dead=>cases h2
    | live z es wr full=>
     obtain⟨hle,h3⟩:=qO h2
     split at h3
     ·obtain⟨h1,_⟩:=qC h3
      cases h1;rfl
     ·obtain⟨p,l1,l2,hp,h3,_⟩:=zB h3
      split at h3
      ·obtain⟨h1,_⟩:=qC h3
       cases h1;rfl
      ·cases h3
 termination_by n=>n
def qJu (ids:List Nat) (β:Nat→Option BI):Nat→Option BI:=fun k=>(ids[k]?).bind β
theorem qIq {ids:List Nat} {r:Nat} (h:r∈ids):qJu ids β (ids.idxOf r)=β r:=by
 unfold qJu
 have hlt:ids.idxOf r<ids.length:=List.idxOf_lt_length_of_mem h
 have:ids[ids.idxOf r]?=some r:=by
  rw[List.getElem?_eq_getElem hlt,List.getElem_idxOf]
 rw[this];rfl
theorem qZn {ids:List Nat} {v:V} {x:Value} (h:qU β F w v x):v.noSl=true→(∀ r∈v.refs,r∈ids)→qU (qJu ids β) F w (v.ren (fun r=>ids.idxOf r)) x:=by
 induction h with
 | t h=>intro _ _;exact .t h
 | nil=>intro _ _;exact .nil
 | ref id i f b sz room hb=>intro _ hr;exact .ref _ i f b sz room (by rw[qIq (hr id (by simp[V.refs]))];exact hb)
 | bd g id i f b sz room hb=>intro _ hr;exact .bd g _ i f b sz room (by rw[qIq (hr id (by simp[V.refs]))];exact hb)
 | bq b=>intro _ _;exact .bq b
 | ro cs a news ha hn h1 hF hw h=>intro _ _;exact .ro cs a news ha hn h1 hF hw h
 | sl id off len cap b sz room a hb hlc hr ha hs=>intro h;simp[V.noSl] at h
 | slv id sz room hb=>intro h;simp[V.noSl] at h
 | agg cs vs hl h1 _ ih=>
  intro hn hr
  simp only[V.ren,zO]
  refine .agg _ vs (by simpa using hl) h1 (fun i c u hc hu=>?_)
  rw[List.getElem?_map,Option.map_eq_some_iff] at hc
  obtain⟨c',hc',rfl⟩:=hc
  have hm1:=List.mem_of_getElem? hc'
  exact ih i c' u hc' hu (qL5 (by simpa [V.noSl] using hn) c' hm1) (fun r h=>hr r (by simp only[V.refs];exact qDv hm1 h))
 | tup cs vs hl _ ih=>
  intro hn hr
  simp only[V.ren,zO]
  refine .tup _ vs (by simpa using hl) (fun i c u hc hu=>?_)
  rw[List.getElem?_map,Option.map_eq_some_iff] at hc
  obtain⟨c',hc',rfl⟩:=hc
  have hm1:=List.mem_of_getElem? hc'
  exact ih i c' u hc' hu (qL5 (by simpa [V.noSl] using hn) c' hm1) (fun r h=>hr r (by simp only[V.refs];exact qDv hm1 h))
 | fn f cs vs hl _ ih=>
  intro hn hr
  simp only[V.ren,zO]
  refine .fn f _ vs (by simpa using hl) (fun i c u hc hu=>?_)
  rw[List.getElem?_map,Option.map_eq_some_iff] at hc
  obtain⟨c',hc',rfl⟩:=hc
  have hm1:=List.mem_of_getElem? hc'
  exact ih i c' u hc' hu (qL5 (by simpa [V.noSl] using hn) c' hm1) (fun r h=>hr r (by simp only[V.refs];exact qDv hm1 h))
def jC6 (hm:Nat→Option Ob) (fz:List Nat) (id:Nat) (o:Ob):Prop:=
 ∃ z es es' full fzk lk,hm id=some (.live z es true full)∧o = .live z es' true full∧(qDj es).run hm=some ((es',fzk),lk) ∧ ∀ j∈fzk,j∈fz
def Ob.refs:Ob→List Nat
 | .live _ es _ _=>qBa es
 | .dead=>[]
theorem qM4 : ∀ {n:Nat} {todo ids:List Nat} {obs:List Ob} {fz ids':List Nat} {obs':List Ob} {fz' l:List Nat},(qB2 n todo ids obs fz).run hm=some ((ids',obs',fz'),l)→
  ids.Nodup→ids.length=obs.length→(∀ (k id:Nat) (o:Ob),ids[k]?=some id→obs[k]?=some o→jC6 hm fz id o)→(∀ o∈obs,∀ r∈o.refs,r∈ids∨r∈todo)→
  ids'.Nodup∧ids'.length=obs'.length∧(∀ (k id:Nat) (o:Ob),ids'[k]?=some id→obs'[k]?=some o→jC6 hm fz' id o)∧(∀ o∈obs',∀ r∈o.refs,r∈ids')∧(∀ r∈todo,r∈ids')∧(∀ r∈ids,r∈ids') ∧ ∀ j∈fz,j∈fz'
 | n,[],ids,obs,fz,ids',obs',fz',l,h,h1,h2,h3,h4=>by
  have h':(Q.ret (ids,obs,fz):Q _).run hm=some ((ids',obs',fz'),l):=by cases n<;>exact h
  obtain⟨e,_⟩:=qC h'
  cases e
  exact⟨h1,h2,h3,fun o ho r hr=>by simpa using h4 o ho r hr,by simp,fun _ h=>h,fun _ h=>h⟩
 | 0,_::_,ids,obs,fz,ids',obs',fz',l,h,_,_,_,_=>by cases h
 | n+1,id::todo,ids,obs,fz,ids',obs',fz',l,h,h1,h2,h3,h4=>by
  simp only[qB2] at h
  split at h
  ·rename_i hc
   have hmem:id∈ids:=by simpa using hc
   obtain⟨k1,k2,k3,k4,k5,k6,k7⟩:=qM4 h h1 h2 h3 (fun o ho r hr=>by
    rcases h4 o ho r hr with h | h
    ·exact .inl h
    ·simp only[List.mem_cons] at h
     rcases h with rfl | h
     ·exact .inl hmem
     ·exact .inr h)
   exact⟨k1,k2,k3,k4,fun r hr=>by
    simp only[List.mem_cons] at hr
    rcases hr with rfl | hr
    ·exact k6 _ hmem
    ·exact k5 r hr,k6,k7⟩
  ·rename_i hc
   have hnm:id ∉ ids:=by simpa using hc
   obtain⟨o,l',ho,hs2,_⟩:=vO h
   cases o with
   | dead=>cases hs2
   | live z es wr full=>
    cases wr with
    | false=>cases hs2
    | true=>
     obtain⟨p,l1,l2,hp,hs3,_⟩:=zB hs2
     have hobs : ∀ (k j:Nat) (o:Ob),(ids++[id])[k]?=some j→(obs++[Ob.live z p.1 true full])[k]?=some o→jC6 hm (fz++p.2) j o:=by
      intro k j o hk hko
      by_cases hlt:k<ids.length
      ·rw[List.getElem?_append_left hlt] at hk
       rw[List.getElem?_append_left (by omega)] at hko
       obtain⟨z1,e1,e2,f1,fk,lk,g1,g2,g3,g4⟩:=h3 k j o hk hko
       exact⟨z1,e1,e2,f1,fk,lk,g1,g2,g3,fun j hj=>by simp[g4 j hj]⟩
      ·rw[List.getElem?_append_right (by omega)] at hk hko
       have hk0:k-ids.length=0:=by
        rcases Nat.eq_zero_or_pos (k-ids.length) with h | h
        ·exact h
        ·rw[List.getElem?_eq_none (by simp;omega)] at hk;cases hk
       rw[hk0] at hk
       rw[show k-obs.length=0 by omega] at hko
       simp at hk hko
       subst hk hko
       exact⟨z,es,p.1,full,p.2,l1,ho,rfl,hp,fun j hj=>by simp[hj]⟩
     have href : ∀ r∈qBa p.1,r∈ids++[id]∨r∈todo++(match qE7 es with | some _=>[] | none=>qBa p.1):=by
      intro r hr
      cases ha:qE7 es with
      | none=>exact .inr (by simp only[List.mem_append];exact .inr hr)
      | some ts=>
       unfold qDj at hp
       rw[ha] at hp
       obtain⟨e,_⟩:=qC hp
       rw[e,qDh ha,zLw] at hr
       simp at hr
     obtain⟨k1,k2,k3,k4,k5,k6,k7⟩:=qM4 hs3 (by
       rw[List.nodup_append]
       exact⟨h1,by simp,fun x hx y hy=>by simp at hy;subst hy;exact fun e=>hnm (e▸hx)⟩) (by simp[h2]) hobs (fun o ho' r hr=>by
      simp only[List.mem_append,List.mem_singleton] at ho'
      rcases ho' with ho' | rfl
      ·rcases h4 o ho' r hr with h | h
       ·exact .inl (by simp[h])
       ·simp only[List.mem_cons] at h
        rcases h with rfl | h
        ·exact .inl (by simp)
        ·exact .inr (by simp[h])
      ·exact href r hr)
     exact⟨k1,k2,k3,k4,fun r hr=>by
      simp only[List.mem_cons] at hr
      rcases hr with rfl | hr
      ·exact k6 _ (by simp)
      ·exact k5 r (by simp[hr]),fun r hr=>k6 r (by simp[hr]),fun j hj=>k7 j (by simp[hj])⟩
theorem zE6 : ∀ {fz:List Nat} {fw:Wr} {l:List Nat},(qV0 fz).run hm=some (fw,l)→(∀ id∈fz,100≤id ∧ ∃ z es full,hm id=some (.live z es true full)∧(id,Ob.live z es false full)∈fw)∧
  ∀ p∈fw,p.1∈fz ∧ ∃ z es full,hm p.1=some (.live z es true full)∧p.2 = .live z es false full
 | [],fw,l,h=>by
  obtain⟨e,_⟩:=qC h
  cases e
  exact⟨by simp,by simp⟩
 | id::r,fw,l,h=>by
  simp only[qV0] at h
  obtain⟨o,l',ho,hs2,_⟩:=vO h
  cases o with
  | dead=>cases hs2
  | live z es wr full=>
   cases wr with
   | false=>cases hs2
   | true=>
    obtain⟨h100,hs3⟩:=qO hs2
    obtain⟨q,l1,l2,hq,hs4,_⟩:=zB hs3
    obtain⟨e,_⟩:=qC hs4
    cases e
    obtain⟨g1,g2⟩:=zE6 hq
    refine⟨fun i hi=>?_,fun p hp=>?_⟩
    ·simp only[List.mem_cons] at hi
     rcases hi with rfl | hi
     ·exact⟨h100,z,es,full,ho,by simp⟩
     ·obtain⟨m1,z',es',full',m2,m3⟩:=g1 i hi
      exact⟨m1,z',es',full',m2,by simp[m3]⟩
    ·simp only[List.mem_cons] at hp
     rcases hp with rfl | hp
     ·exact⟨by simp,z,es,full,ho,rfl⟩
     ·obtain⟨m1,m2⟩:=g2 p hp
      exact⟨by simp[m1],m2⟩
theorem Rel.freezeAll : ∀ {fz:List Nat} {hm hm0:Nat→Option Ob} {F:Nat→Prop} {fw:Wr} {l:List Nat},(qV0 fz).run hm0=some (fw,l)→Rel cx β F fm hm a w→
  (∀ id∈fz,hm id=hm0 id ∨ ∃ z es full,hm0 id=some (.live z es true full)∧hm id=some (.live z es false full)) → ∃ F',Rel cx β F' fm (upd hm fw) a w ∧ ∀ b,F' b↔qPl β F fz b
 | [],hm,hm0,F,fw,l,h,R,_=>by
  obtain⟨e,_⟩:=qC h
  cases e
  exact⟨F,R,fun b=>⟨.inl,fun h=>by rcases h with h | ⟨i,hi,_⟩;exact h;simp at hi⟩⟩
 | id::r,hm,hm0,F,fw,l,h,R,hsame=>by
  simp only[qV0] at h
  obtain⟨o,l',ho,hs2,_⟩:=vO h
  cases o with
  | dead=>cases hs2
  | live z es wr full=>
   cases wr with
   | false=>cases hs2
   | true=>
    obtain⟨h100,hs3⟩:=qO hs2
    obtain⟨q,l1,l2,hq,hs4,_⟩:=zB hs3
    obtain⟨e,_⟩:=qC hs4
    cases e
    obtain⟨bi,hb,hfro,hR1⟩ : ∃ bi,β id=some bi∧(∀ b,(F b∨bi.blk=some b)↔qPl β F [id] b)∧Rel cx β (fun b=>F b∨bi.blk=some b) fm (upd hm [(id,.live z es false full)]) a w:=by
     have conv : ∀ {bi:BI},β id=some bi → ∀ b,(F b∨bi.blk=some b)↔qPl β F [id] b:=by
      intro bi hb b
      constructor
      ·intro h
       rcases h with h | h
       ·exact .inl h
       ·exact .inr ⟨id,by simp,bi,hb,h⟩
      ·intro h
       rcases h with h | ⟨i,hi,bi',h1,h2⟩
       ·exact .inl h
       ·simp at hi;subst hi;rw[hb] at h1;cases h1;exact .inr h2
     rcases hsame id (by simp) with h | ⟨z',es',full',h1,h2⟩
     ·rw[ho] at h
      obtain⟨bi,hb,_⟩:=R.hp id _ h
      exact⟨bi,hb,conv hb,R.freeze h h100 hb⟩
     ·rw[ho] at h1;cases h1
      obtain⟨bi,hb,_⟩:=R.hp id _ h2
      refine⟨bi,hb,conv hb,?_⟩
      have hupd:upd hm [(id,.live z es false full)]=hm:=by
       funext j
       by_cases hj:j=id
       ·subst hj;simp[upd,h2]
       ·simp[upd,hj]
      rw[hupd]
      have hFeq:(fun b=>F b∨bi.blk=some b)=F:=by
       funext b
       apply propext
       constructor
       ·intro h
        rcases h with h | h
        ·exact h
        ·exact R.ro h2 hb h
       ·exact .inl
      rw[hFeq];exact R
    obtain⟨F',hR2,hF'⟩:=Rel.freezeAll (hm:=upd hm [(id,.live z es false full)]) hq hR1 (fun i hi=>by
     by_cases hii:i=id
     ·subst hii
      exact .inr ⟨z,es,full,ho,zS⟩
     ·rw[qQ hii]
      exact hsame i (by simp[hi]))
    refine⟨F',hR2,fun b=>?_⟩
    rw[hF']
    constructor
    ·intro h
     rcases h with h | ⟨i,hi,bi',h1,h2⟩
     ·rcases (hfro b).1 h with h | ⟨i,hi,bi',h1,h2⟩
      ·exact .inl h
      ·simp at hi;subst hi;exact .inr ⟨i,by simp,bi',h1,h2⟩
     ·exact .inr ⟨i,by simp[hi],bi',h1,h2⟩
    ·intro h
     rcases h with h | ⟨i,hi,bi',h1,h2⟩
     ·exact .inl ((hfro b).2 (.inl h))
     ·simp only[List.mem_cons] at hi
      rcases hi with rfl | hi
      ·exact .inl ((hfro b).2 (.inr ⟨i,by simp,bi',h1,h2⟩))
      ·exact .inr ⟨i,hi,bi',h1,h2⟩
end Go.Eng
end
section
namespace Go.Eng
variable {β:Nat→Option BI} {F:Nat→Prop} {w:World} {cx:Cx} {fm:Nat→Option V} {hm:Nat→Option Ob} {a:Act}
def gam (ids:List Nat) (nb k:Nat):Nat:=
 match ids[k]? with
 | some id=>id
 | none=>nb+(k-ids.length)
def qKh (ids:List Nat) (nb:Nat):Nat→List Ob→Wr
 | _,[]=>[]
 | k,o::r=>(gam ids nb k,o.ren (gam ids nb))::qKh ids nb (k+1) r
theorem qM8 (ids:List Nat) (nb:Nat) : ∀ (outs:List Ob) (k:Nat) (p:Nat×Ob),p∈qKh ids nb k outs → ∃ j,j<outs.length∧p.1=gam ids nb (k+j)
 | [],_,p,h=>by simp[qKh] at h
 | o::r,k,p,h=>by
  simp only[qKh,List.mem_cons] at h
  rcases h with rfl | h
  ·exact⟨0,by simp,rfl⟩
  ·obtain⟨j,h1,h2⟩:=qM8 ids nb r (k+1) p h
   exact⟨j+1,by simp;omega,by rw[h2];congr 1;omega⟩
theorem qEt : ∀ {W:Wr} {hm:Nat→Option Ob} {id:Nat},(∀ p∈W,p.1≠id)→upd hm W id=hm id
 | [],_,_,_=>rfl
 | (i,o)::r,hm,id,h=>by
  rw[upd,qEt (fun p hp=>h p (by simp[hp]))]
  rw[if_neg (fun e=>h (i,o) (by simp) e.symm)]
theorem zGc {ids:List Nat} {nb:Nat} : ∀ {outs:List Ob} {hm:Nat→Option Ob} {k:Nat},(∀ i j,i<k+outs.length→j<k+outs.length→gam ids nb i=gam ids nb j→i=j)→
  ∀ {j:Nat} {o:Ob},outs[j]?=some o→upd hm (qKh ids nb k outs) (gam ids nb (k+j))=some (o.ren (gam ids nb))
 | [],_,_,_,j,o,h=>by simp at h
 | p::r,hm,k,hinj,j,o,h=>by
  simp only[qKh,upd]
  cases j with
  | zero=>
   simp at h;subst h
   rw[qEt (fun q hq=>by
    obtain⟨i,h1,h2⟩:=qM8 ids nb r (k+1) q hq
    intro e
    rw[h2] at e
    have:=hinj _ _ (by simp;omega) (by simp) e
    omega)]
   simp
  | succ j=>
   simp at h
   have:=zGc (hm:=fun i=>if i=gam ids nb k then some (p.ren (gam ids nb)) else hm i) (k:=k+1) (fun a b ha hb=>hinj a b (by simp at ha ⊢;omega) (by simp at hb ⊢;omega)) h
   rw[show k+(j+1)=k+1+j by omega]
   exact this
theorem qDs {l:List Nat} (h:l.Nodup) {i j:Nat} (hi:i<l.length) (hj:j<l.length) (e:l[i]=l[j]):i=j:=by
 unfold List.Nodup at h
 rw[List.pairwise_iff_getElem] at h
 rcases Nat.lt_trichotomy i j with h1 | h1 | h1
 ·exact absurd e (h i j hi hj h1)
 ·exact h1
 ·exact absurd e.symm (h j i hj hi h1)
theorem Rel.called {FA:Nat→Prop} {hmA:Nat→Option Ob} (R:Rel cx β FA fm hmA a w) {ids:List Nat} (hnd:ids.Nodup) (hlive : ∀ (k id:Nat),ids[k]?=some id → ∃ z es full,hmA id=some (.live z es true full))
  {βp:Nat→Option BI} {F':Nat→Prop} {w':World} {outs:List Ob} {nb:Nat} (fits:zNt βp F' w' outs) (old : ∀ (k id:Nat),ids[k]?=some id→βp k=β id)
  (new : ∀ (k:Nat) (bi:BI) (b:Nat),ids.length≤k→βp k=some bi→bi.blk=some b→w.heap.size≤b) (hF : ∀ b,b<w.heap.size→(F' b↔FA b)) (hFw : ∀ b,F' b→b<w'.heap.size)
  (hos:w'.os=w.os) (htp:w'.tape=w.tape) (hout:w'.output=w.output) (hsz:w.heap.size≤w'.heap.size)
  (frame : ∀ b,b<w.heap.size→(∀ (k id:Nat) (bi:BI),ids[k]?=some id→β id=some bi→bi.blk≠some b)→w'.heap[b]?=w.heap[b]?)
  (hlen:ids.length≤outs.length) (fresh : ∀ j,j<outs.length-ids.length→hmA (nb+j)=none) :
  ∃ βn,Rel cx βn F' fm (upd hmA (qKh ids nb 0 outs)) a w'∧(∀ k bi,βp k=some bi→βn (gam ids nb k)=some bi)∧(∀ i bi,β i=some bi→βn i=some bi):=by
 have gold : ∀ k id,ids[k]?=some id→gam ids nb k=id:=fun k id h=>by simp[gam,h]
 have gnew : ∀ k,ids.length≤k→gam ids nb k=nb+(k-ids.length):=fun k h=>by simp[gam,List.getElem?_eq_none h]
 have glt : ∀ k,k<ids.length → ∃ id,ids[k]?=some id:=fun k h=>⟨ids[k],by simp[h]⟩
 have ginj : ∀ i j,i<0+outs.length→j<0+outs.length→gam ids nb i=gam ids nb j→i=j:=by
  intro i j hi hj h
  rcases Nat.lt_or_ge i ids.length with h1 | h1<;>rcases Nat.lt_or_ge j ids.length with h2 | h2
  ·obtain⟨x,hx⟩:=glt i h1
   obtain⟨y,hy⟩:=glt j h2
   rw[gold i x hx,gold j y hy] at h
   subst h
   have e1:ids[i]=x:=by simpa [h1] using hx
   have e2:ids[j]=x:=by simpa [h2] using hy
   exact qDs hnd h1 h2 (e1.trans e2.symm)
  ·obtain⟨x,hx⟩:=glt i h1
   obtain⟨z,es,full,hl⟩:=hlive i x hx
   rw[gold i x hx,gnew j h2] at h
   rw[h,fresh _ (by omega)] at hl;cases hl
  ·obtain⟨y,hy⟩:=glt j h2
   obtain⟨z,es,full,hl⟩:=hlive j y hy
   rw[gold j y hy,gnew i h1] at h
   rw[←h,fresh _ (by omega)] at hl;cases hl
  ·rw[gnew i h1,gnew j h2] at h;omega
 let inr:Nat→Prop:=fun id=>nb≤id∧id<nb+(outs.length-ids.length)
 have hdec : ∀ id,Decidable (inr id):=fun id=>by unfold inr;infer_instance
 let βn:Nat→Option BI:=fun id=>if nb≤id∧id<nb+(outs.length-ids.length) then βp (ids.length+(id-nb)) else β id
 have bnew : ∀ id,inr id→βn id=βp (ids.length+(id-nb)):=fun id h=>if_pos h
 have bold : ∀ id,¬ inr id→βn id=β id:=fun id h=>if_neg h
 have inrNone : ∀ id,inr id→hmA id=none:=by
  intro id h
  have:=fresh (id-nb) (by have:=h.1;have:=h.2;omega)
  rwa [show nb+(id-nb)=id by have:=h.1;omega] at this
 have bext : ∀ i bi,β i=some bi→βn i=some bi:=by
  intro i bi h
  rw[bold i (fun hi=>by rw[R.dom i (inrNone i hi)] at h;cases h)]
  exact h
 have bgam : ∀ k bi,βp k=some bi→βn (gam ids nb k)=some bi:=by
  intro k bi h
  have hk:k<outs.length:=by
   rcases Nat.lt_or_ge k outs.length with h1 | h1
   ·exact h1
   ·rw[fits.dom k h1] at h;cases h
  rcases Nat.lt_or_ge k ids.length with h1 | h1
  ·obtain⟨id,hid⟩:=glt k h1
   rw[gold k id hid]
   exact bext id bi (by rw[←old k id hid];exact h)
  ·rw[gnew k h1,bnew _ ⟨by omega,by omega⟩,show ids.length+(nb+(k-ids.length)-nb)=k by omega]
   exact h
 have key : ∀ id,(∃ k o,outs[k]?=some o∧gam ids nb k=id∧upd hmA (qKh ids nb 0 outs) id=some (o.ren (gam ids nb)))∨((∀ k,k<outs.length→gam ids nb k≠id)∧upd hmA (qKh ids nb 0 outs) id=hmA id):=by
  intro id
  by_cases h : ∃ k,k<outs.length∧gam ids nb k=id
  ·obtain⟨k,hk,hg⟩:=h
   left
   have:=zGc (hm:=hmA) (ids:=ids) (nb:=nb) (outs:=outs) (k:=0) ginj (j:=k) (o:=outs[k]) (by simp[hk])
   rw[Nat.zero_add,hg] at this
   exact⟨k,outs[k],by simp[hk],hg,this⟩
  ·right
   have hne : ∀ k,k<outs.length→gam ids nb k≠id:=fun k hk e=>h ⟨k,hk,e⟩
   refine⟨hne,qEt (fun p hp=>?_)⟩
   obtain⟨j,h1,h2⟩:=qM8 ids nb outs 0 p hp
   rw[h2,Nat.zero_add]
   exact hne j h1
 have hFA : ∀ b,FA b→F' b:=fun b hb=>(hF b (R.Fw b hb)).2 hb
 have hFblk : ∀ b,FA b→w'.heap[b]?=w.heap[b]?:=by
  intro b hb
  refine frame b (R.Fw b hb) (fun k id bi hk hbi hbk=>?_)
  obtain⟨z,es,full,hl⟩:=hlive k id hk
  exact R.notF hl hbi hbk hb
 have where_ : ∀ id o bi b,upd hmA (qKh ids nb 0 outs) id=some o→o≠ .dead→βn id=some bi→bi.blk=some b→
   (inr id∧w.heap.size≤b∧βp (ids.length+(id-nb))=some bi)∨(¬ inr id∧β id=some bi∧b<w.heap.size ∧ ∃ o',hmA id=some o'∧o'≠ .dead):=by
  intro id o bi b ho hd hb hbk
  by_cases hi:inr id
  ·rw[bnew id hi] at hb
   exact .inl ⟨hi,new _ bi b (by omega) hb hbk,hb⟩
  ·rw[bold id hi] at hb
   refine .inr ⟨hi,hb,R.blt id bi b hb hbk,?_⟩
   rcases key id with⟨k,o2,hk,hg,hu⟩ | ⟨hne,hu⟩
   ·have hkl:k<outs.length:=(List.getElem?_eq_some_iff.1 hk).1
    rcases Nat.lt_or_ge k ids.length with h1 | h1
    ·obtain⟨x,hx⟩:=glt k h1
     rw[gold k x hx] at hg
     subst hg
     obtain⟨z,es,full,hl⟩:=hlive k x hx
     exact⟨_,hl,by simp⟩
    ·rw[gnew k h1] at hg
     exact absurd ⟨by omega,by omega⟩ hi
   ·rw[hu] at ho;exact⟨o,ho,hd⟩
 refine⟨βn,⟨R.tsz,R.dfr,fun t v hv=>?_,fun id o ho=>?_,fun id hn=>?_,fun i j bi bj b oi oj h1 h2 h3 h4 h5 h6 h7 h8=>?_,hos.trans R.os,htp.trans R.tape,hout.trans R.output,Nat.le_trans R.size hsz,fun b hb hib=>?_,fun id z es full bi b h1 h2 h3=>?_,fun b hib hFb=>?_,R.inw,hFw,fun b hb=>?_,fun id bi b h1 h2=>?_,fun g cs hg=>(R.gl g cs hg).mono bext hFA hFblk,fun k bi h=>bext _ _ (R.ext0 k bi h),fun g cs hg=>(R.gs g cs hg).mono (hFblk g (jJh (R.gl g cs hg)))⟩,bgam,bext⟩
 ·obtain⟨x,h1,h2⟩:=R.fr t v hv
  exact⟨x,h1,h2.mono bext hFA hFblk⟩
 ·rcases key id with⟨k,o2,hk,hg,hu⟩ | ⟨hne,hu⟩
  ·rw[hu] at ho;cases ho
   obtain⟨bi,h1,h2,_⟩:=fits.ok k o2 hk
   refine⟨bi,by rw[←hg];exact bgam k bi h1,?_⟩
   exact qE9.ren (β:=βn) (ρ:=gam ids nb) (h2.mono (β':=fun k=>βn (gam ids nb k)) bgam (fun _ h=>h) (fun _ _=>rfl) (fun _ _ _=>⟨rfl,fun h=>h⟩))
  ·rw[hu] at ho
   obtain⟨bi,h1,h2⟩:=R.hp id o ho
   refine⟨bi,bext id bi h1,h2.mono bext hFA hFblk (fun b hbk hd=>⟨frame b (R.blt id bi b h1 hbk) (fun k id' bi' hk hbi' hbk'=>?_),fun h=>(hF b (R.blt id bi b h1 hbk)).1 h⟩)⟩
   obtain⟨z,es,full,hl⟩:=hlive k id' hk
   have:=R.inj id' id bi' bi b _ o hbi' h1 hbk' hbk hl ho (by simp) hd
   have hkl:k<ids.length:=(List.getElem?_eq_some_iff.1 hk).1
   exact hne k (by omega) (by rw[gold k id' hk];exact this)
 ·rcases key id with⟨k,o2,hk,hg,hu⟩ | ⟨hne,hu⟩
  ·rw[hu] at hn;cases hn
  ·rw[hu] at hn
   rw[bold id (fun hi=>by
    have:=hne (ids.length+(id-nb)) (by have:=hi.1;have:=hi.2;omega)
    rw[gnew _ (by omega)] at this
    have h1:=hi.1
    omega)]
   exact R.dom id hn
 ·rcases where_ i oi bi b h5 h7 h1 h3 with⟨a1,a2,a3⟩ | ⟨a1,a2,a3,o1,a4,a5⟩<;>rcases where_ j oj bj b h6 h8 h2 h4 with⟨b1,b2,b3⟩ | ⟨b1,b2,b3,o2,b4,b5⟩
  ·have:=fits.inj _ _ bi bj b a3 b3 h3 h4
   have e1:=a1.1
   have e2:=b1.1
   omega
  ·omega
  ·omega
  ·exact R.inj i j bi bj b o1 o2 a2 b2 h3 h4 a4 b4 a5 b5
 ·rw[frame b (Nat.lt_of_lt_of_le hb R.size) (fun k id bi hk hbi hbk=>?_)]
  ·exact R.ext b hb hib
  ·obtain⟨z,es,full,hl⟩:=hlive k id hk
   rcases R.old id z es full bi b hl hbi hbk with h | h
   ·omega
   ·exact hib h.2
 ·rcases where_ id _ bi b h1 (by simp) h2 h3 with⟨a1,a2,a3⟩ | ⟨a1,a2,a3,o1,a4,a5⟩
  ·exact .inl (Nat.le_trans R.size a2)
  ·rcases key id with⟨k,o2,hk,hg,hu⟩ | ⟨hne,hu⟩
   ·have hkl:k<outs.length:=(List.getElem?_eq_some_iff.1 hk).1
    rcases Nat.lt_or_ge k ids.length with h4 | h4
    ·obtain⟨x,hx⟩:=glt k h4
     rw[gold k x hx] at hg
     subst hg
     obtain⟨z',es',full',hl⟩:=hlive k x hx
     exact R.old x z' es' full' bi b hl a2 h3
    ·rw[gnew k h4] at hg
     exact absurd ⟨by omega,by omega⟩ a1
   ·rw[hu] at h1
    exact R.old id z es full bi b h1 a2 h3
 ·have:=R.inw b hib
  exact R.inF b hib ((hF b (by have:=R.size;omega)).1 hFb)
 ·exact (hF b (by have:=R.size;omega)).trans (R.F0 b hb)
 ·by_cases hi:inr id
  ·rw[bnew id hi] at h1
   exact (fits.blt _ bi b h1 h2).1
  ·rw[bold id hi] at h1
   have:=R.blt id bi b h1 h2
   omega
end Go.Eng
end
section
namespace Go.Eng
variable {β:Nat→Option BI} {F:Nat→Prop} {w:World} {cx:Cx} {fm:Nat→Option V} {hm:Nat→Option Ob} {a:Act}
abbrev FnS:=List V→List Ob→Option (V×List Ob)
abbrev Tab:=List (FuncId×FnS)
def Tab.look:Tab→FuncId→Option FnS
 | [],_=>none
 | (g,s)::r,f=>if g=f then some s else Tab.look r f
def qP9 (P:Program) (f:FuncId) (vals:Array Value) (w:World) (R:Ending→World→Prop):Prop:=
 (∃ g,(callFunc f vals).run P w = .ok (.enter g vals) w∧Calls P g vals w R)∨(∃ x w',(callFunc f vals).run P w = .ok (.value x) w'∧R (.returned x) w')
theorem qP9.mono {P:Program} {f:FuncId} {vals:Array Value} {w:World} {R R':Ending→World→Prop} (h:qP9 P f vals w R) (hr : ∀ e w',R e w'→R' e w'):qP9 P f vals w R':=by
 rcases h with⟨g,h1,h2⟩ | ⟨x,w',h1,h2⟩
 ·exact .inl ⟨g,h1,h2.mono hr⟩
 ·exact .inr ⟨x,w',h1,hr _ _ h2⟩
def zYt (P:Program) (G:Nat→Option (List T)) (f:FuncId) (as:List V) (ins:List Ob) (r:V) (outs:List Ob):Prop:=
 ∀ (w:World) (β:Nat→Option BI) (F:Nat→Prop) (vals:Array Value),zIt G F w→zNt β F w ins→qAl (qU β F w) as vals.toList→
  qP9 P f vals w (fun e w' => ∃ x β' F',e = .returned x∧qPm w β F ins r outs x β' F' w')
theorem qX2.e {P:Program} {G:Nat→Option (List T)} {f:FuncId} {as:List V} {ins:List Ob} {r:V} {outs:List Ob} (hc : ∀ args w,(callFunc f args).run P w = .ok (.enter f args) w) (h:qX2 P G f as ins r outs):zYt P G f as ins r outs:=
 fun w β F vals h1 h2 h3=> .inl ⟨f,hc vals w,h w β F vals h1 h2 h3⟩
def FOk (P:Program) (G:Nat→Option (List T)) (f:FuncId) (s:FnS):Prop := ∀ as ins r outs,s as ins=some (r,outs)→zYt P G f as ins r outs
theorem FOk.of {P:Program} {G:Nat→Option (List T)} {f:FuncId} {s:FnS} (hc : ∀ args w,(callFunc f args).run P w = .ok (.enter f args) w) (h : ∀ as ins r outs,s as ins=some (r,outs)→qX2 P G f as ins r outs):FOk P G f s:=
 fun as ins r outs hs=>(h as ins r outs hs).e hc
def qD3 (P:Program) (G:Nat→Option (List T)) (tab:Tab):Prop := ∀ f s,tab.look f=some s→FOk P G f s
theorem qD3.nil {P:Program} {G:Nat→Option (List T)}:qD3 P G []:=fun _ _ h=>by cases h
theorem qD3.cons {P:Program} {G:Nat→Option (List T)} {f:FuncId} {s:FnS} {tab:Tab} (h:FOk P G f s) (ht:qD3 P G tab):qD3 P G ((f,s)::tab):=by
 intro g s' hg
 unfold Tab.look at hg
 split at hg
 ·cases hg;subst_vars;exact h
 ·exact ht g s' hg
def zB6 {α:Type}:Nat→Nat→Q α→Q α
 | _,0,k=>k
 | nb,n+1,k=> .free nb (zB6 (nb+1) n k)
theorem qY2 {α:Type} : ∀ {n nb:Nat} {q:Q α} {x:α} {l:List Nat},(zB6 nb n q).run hm=some (x,l)→(∀ j,j<n→hm (nb+j)=none) ∧ ∃ l',q.run hm=some (x,l')
 | 0,nb,q,x,l,h=>⟨by intro j hj;omega,l,h⟩
 | n+1,nb,q,x,l,h=>by
  obtain⟨h0,l',h1,_⟩:=xI h
  obtain⟨h2,h3⟩:=qY2 h1
  refine⟨fun j hj=>?_,h3⟩
  cases j with
  | zero=>exact h0
  | succ j=>rw[show nb+(j+1)=nb+1+j by omega];exact h2 j (by omega)
def qTc (tab:Tab) (f:FuncId) (keep:Bool) (vs:List V) (nb:Nat):Q (V×Wr):=
 (qQv keep vs).bind fun cp=>
  (Q.of ((tab.look f).bind fun s=>s (qFs (fun r=>cp.ids.idxOf r) cp.as) (cp.obs.map (Ob.ren fun r=>cp.ids.idxOf r)))).bind fun p=>
   Q.assert (cp.ids.length≤p.2.length∧(keep=true∨p.1.flat=true∧zB3 p.2=true))
    (zB6 nb (p.2.length-cp.ids.length) (.ret (p.1.ren (gam cp.ids nb),(if keep then cp.fw else [])++qKh cp.ids nb 0 p.2)))
theorem qU9 : ∀ {W W':Wr} {hm:Nat→Option Ob},upd hm (W++W')=upd (upd hm W) W'
 | [],_,_=>rfl
 | (i,o)::r,W',hm=>by simp only[List.cons_append,upd];exact qU9
theorem qPw (cs:List V):(V.mk cs).cells=cs:=by
 unfold V.mk
 split
 ·rename_i ts h;rw[qDh h];rfl
 ·rfl
theorem qYa (R:Rel cx β F fm hm a w) {n:Nat} {x x':V} {fz l fz':List Nat} (h:(zN n x).run hm=some ((x',fz),l)) (hsub : ∀ i∈fz,i∈fz') (hz:x.cells≠[])
  (hx : ∀ (j:Nat) (y:V),x.cells[j]?=some y → ∃ u,qU β F w y u∧u.oneCell'=true):x'.cells.length=x.cells.length∧
  ∀ (j:Nat) (y y':V) (u:Value),x.cells[j]?=some y→x'.cells[j]?=some y'→qU β F w y u→u.oneCell'=true→qU β (qPl β F fz') w y' u∧y'.noSl=true ∧ ∀ r∈y'.refs,r∈x'.refs:=by
 have one:x.cells=[x]→x'.cells.length=x.cells.length∧
  ∀ (j:Nat) (y y':V) (u:Value),x.cells[j]?=some y→x'.cells[j]?=some y'→qU β F w y u→u.oneCell'=true→qU β (qPl β F fz') w y' u∧y'.noSl=true ∧ ∀ r∈y'.refs,r∈x'.refs:=by
  intro hc
  obtain⟨u,hu,ho⟩:=hx 0 x (by rw[hc];rfl)
  have h1:=wX R h hu hsub
  have h2:=h1.one_cells ho
  rw[hc,h2]
  refine⟨rfl,fun j y y' u' hy hy' hr _=>?_⟩
  cases j with
  | succ j=>simp at hy
  | zero=>
   simp at hy hy';subst hy hy'
   exact⟨wX R h hr hsub,qLk h,fun _ h=>h⟩
 cases x with
 | t y=>
  cases n<;>(
   obtain⟨h1,_⟩:=qC h
   cases h1
   refine⟨rfl,fun j y1 y' u hy hy' hr _=>?_⟩
   rw[hy] at hy';cases hy'
   refine⟨hr.mono (fun _ _ h=>h) (fun _ h=> .inl h) (fun _ _=>rfl),?_⟩
   obtain⟨c,hc,rfl⟩:=qAe hy
   exact⟨rfl,by simp[V.refs]⟩)
 | agg cs=>
  cases n with
  | zero=>cases h
  | succ n=>
   simp only[zN] at h
   obtain⟨p,l1,l2,hp,h,_⟩:=zB h
   obtain⟨h1,_⟩:=qC h
   cases h1
   obtain⟨g1,g2⟩:=vM hp
   rw[qPw]
   refine⟨g1,fun j y y' u hy hy' hr _=>?_⟩
   obtain⟨fzi,li,m1,m2⟩:=g2 j y y' hy hy'
   refine⟨wX R m1 hr (fun i hi=>hsub i (m2 i hi)),qLk m1,fun r hr=>?_⟩
   unfold V.mk
   split
   ·rename_i ts hts
    have:=List.mem_of_getElem? hy'
    rw[qDh hts] at this
    simp only[List.mem_map] at this
    obtain⟨t,_,rfl⟩:=this
    simp[V.refs] at hr
   ·exact qDv (List.mem_of_getElem? hy') hr
 | nil=>exact one rfl
 | ref id i f=>exact one rfl
 | bd g id i f=>exact one rfl
 | bq=>exact one rfl
 | ro cs=>exact one rfl
 | sl id off len=>exact one rfl
 | tup cs=>exact one rfl
 | fn f cs=>exact one rfl
theorem zLi (R:Rel cx β F fm hm a w) {F1:Nat→Prop} {fz':List Nat} (hF1 : ∀ b,F1 b↔qPl β F fz' b) {z:Nat} {es es':List V} {full:Bool} {bi:BI} {fz l:List Nat} (h:(qDj es).run hm=some ((es',fz),l)) (hsub : ∀ i∈fz,i∈fz')
  (hok:qE9 β F w bi (.live z es true full)) (hnF : ∀ b,bi.blk=some b → ¬ F1 b) {ids:List Nat} (hrefs : ∀ r∈qBa es',r∈ids) :
  qE9 (qJu ids β) F1 w bi ((Ob.live z es' true full).ren (fun r=>ids.idxOf r)):=by
 have hF:F1=qPl β F fz':=by funext b;exact propext (hF1 b)
 subst hF
 unfold qE9 at hok
 obtain⟨g1,g2,g3⟩:=hok
 have hlen:es'.length=es.length:=by
  unfold qDj at h
  split at h
  ·obtain⟨e,_⟩:=qC h;cases e;rfl
  ·exact (vM h).1
 simp only[Ob.ren,zO,qE9,List.length_map,hlen]
 refine⟨g1,g2,?_⟩
 cases hb:bi.blk with
 | none=>
  simp only[hb] at g3 ⊢
  refine⟨?_,g3.2⟩
  rw[g3.1] at hlen
  simp at hlen
  rw[hlen];rfl
 | some b=>
  simp only[hb] at g3 ⊢
  obtain⟨c,e,fzz,k1,k2,k3,k4,k5,k6,k7⟩:=g3
  refine⟨c,e,fzz,k1,k2,k3,k4,k5,fun i y hy=>?_,by simpa using hnF b hb⟩
  rw[List.getElem?_map,Option.map_eq_some_iff] at hy
  obtain⟨x',hx',rfl⟩:=hy
  have hi:i<es.length:=by rw[←hlen];exact (List.getElem?_eq_some_iff.1 hx').1
  obtain⟨m1,m2⟩:=k6 i es[i] (by simp[hi])
  have key:x'.cells.length=es[i].cells.length ∧ ∀ (j:Nat) (y y':V) (u:Value),es[i].cells[j]?=some y→x'.cells[j]?=some y'→qU β F w y u→u.oneCell'=true→qU β (qPl β F fz') w y' u∧y'.noSl=true ∧ ∀ r∈y'.refs,r∈qBa es':=by
   unfold qDj at h
   split at h
   ·rename_i ts hts
    obtain⟨e,_⟩:=qC h
    cases e
    have:x'=es[i]:=by rw[List.getElem?_eq_getElem hi] at hx';exact (Option.some.inj hx').symm
    subst this
    refine⟨rfl,fun j y y' u hy hy' hr _=>?_⟩
    rw[hy] at hy';cases hy'
    refine⟨hr.mono (fun _ _ h=>h) (fun _ h=> .inl h) (fun _ _=>rfl),?_⟩
    have hm1:es[i]∈es:=by simp
    have heq:=qDh hts
    have hm2:es[i]∈ts.map V.t:=by rw[←heq];exact hm1
    simp only[List.mem_map] at hm2
    obtain⟨t,_,ht⟩:=hm2
    rw[←ht] at hy
    obtain⟨c,_,rfl⟩:=qAe hy
    exact⟨rfl,by simp[V.refs]⟩
   ·obtain⟨h1,h2⟩:=vM h
    obtain⟨fzi,li,n1,n2⟩:=h2 i es[i] x' (by simp[hi]) hx'
    by_cases hz:es[i].cells=[]
    ·
     cases hx0:es[i] with
     | t y=>
      rw[hx0] at n1
      obtain⟨e,_⟩:=qC (x:=(V.t y,([]:List Nat))) n1
      cases e
      rw[hx0] at hz
      rw[hz];simp
     | agg cs=>
      rw[hx0] at n1 hz
      simp only[zN] at n1
      obtain⟨p,l1,l2,hp,n1,_⟩:=zB n1
      obtain⟨e,_⟩:=qC n1
      cases e
      rw[qPw,(vM hp).1]
      have:cs=[]:=hz
      subst this
      simp[V.cells]
     | _=>rw[hx0] at hz;simp[V.cells] at hz
    ·obtain⟨q1,q2⟩:=qYa R n1 (fz':=fz') (fun i hi=>hsub i (n2 i hi)) hz (fun j y hy=>let ⟨u,_,b,d⟩:=m2 j y hy;⟨u,b,d⟩)
     refine⟨q1,fun j y y' u hy hy' hr ho=>?_⟩
     obtain⟨s1,s2,s3⟩:=q2 j y y' u hy hy' hr ho
     exact⟨s1,s2,fun r hr=>qDv (List.mem_of_getElem? hx') (s3 r hr)⟩
  rw[qHo,zO,List.length_map,key.1]
  refine⟨m1,fun j y hy=>?_⟩
  rw[List.getElem?_map,Option.map_eq_some_iff] at hy
  obtain⟨y',hy',rfl⟩:=hy
  have hj:j<es[i].cells.length:=by rw[←key.1];exact (List.getElem?_eq_some_iff.1 hy').1
  obtain⟨u,hu,hr,ho⟩:=m2 j (es[i].cells[j]'hj) (by simp[hj])
  obtain⟨s1,s2,s3⟩:=key.2 j (es[i].cells[j]'hj) y' u (by simp[hj]) hy' hr ho
  exact⟨u,hu,qZn s1 s2 (fun r hr=>hrefs r (s3 r hr)),ho⟩
end Go.Eng
end
section
namespace Go.Eng
variable {β:Nat→Option BI} {F:Nat→Prop} {w:World} {cx:Cx} {fm:Nat→Option V} {hm:Nat→Option Ob} {a:Act}
theorem zY9 (R:Rel cx β F fm hm a w):zIt cx.gl F w:=by
 refine⟨R.Fw,fun g cs hg=>?_,R.gs⟩
 have:=R.gl g cs hg
 cases this with
 | ro _ a news ha hn h1 hF hw h=>exact .ro cs _ news ha hn h1 hF hw h
theorem zBt (R:Rel cx β F fm hm a w) {n:Nat} {vs as:List V} {fz l fz':List Nat} (h:(qDk (zN n) vs).run hm=some ((as,fz),l)) (hsub : ∀ i∈fz,i∈fz') {vals:List Value} (hv:qAl (qU β F w) vs vals) {ids:List Nat} (hr : ∀ r∈qBa as,r∈ids) :
  qAl (qU (qJu ids β) (qPl β F fz') w) (qFs (fun r=>ids.idxOf r) as) vals:=by
 obtain⟨g1,g2⟩:=vM h
 rw[zO]
 have hlen:=hv.length
 have key : ∀ (as0:List V) (vals0:List Value),as0.length=vals0.length→(∀ (i:Nat) (c:V) (u:Value),as0[i]?=some c→vals0[i]?=some u→qU (qJu ids β) (qPl β F fz') w (c.ren fun r=>ids.idxOf r) u)→
   qAl (qU (qJu ids β) (qPl β F fz') w) (as0.map (V.ren fun r=>ids.idxOf r)) vals0:=by
  intro as0
  induction as0 with
  | nil=>intro vals0 hl _;cases vals0 with
   | nil=>exact .nil
   | cons _ _=>simp at hl
  | cons c r ih=>intro vals0 hl h;cases vals0 with
   | nil=>simp at hl
   | cons u vals0=>
    exact .cons (h 0 c u rfl rfl) (ih vals0 (by simpa using hl) (fun i c u hc hu=>h (i+1) c u (by simpa using hc) (by simpa using hu)))
 refine key as vals (by rw[g1,hlen]) (fun i c u hc hu=>?_)
 have hi:i<vs.length:=by rw[←g1];exact (List.getElem?_eq_some_iff.1 hc).1
 obtain⟨fzi,li,m1,m2⟩:=g2 i vs[i] c (by simp[hi]) hc
 obtain⟨x,hx,hrx⟩:=hv.get i u hu
 have:x=vs[i]:=by rw[List.getElem?_eq_getElem hi] at hx;exact (Option.some.inj hx).symm
 subst this
 exact qZn (wX R m1 hrx (fun j hj=>hsub j (m2 j hj))) (qLk m1) (fun r hr'=>hr r (qDv (List.mem_of_getElem? hc) hr'))
theorem zFu (R:Rel cx β F fm hm a w) {n:Nat} {vs as:List V} {fz0 l1:List Nat} (hp:(qDk (zN 4) vs).run hm=some ((as,fz0),l1)) {todo ids:List Nat} {obs:List Ob} {fzq l2:List Nat}
  (hq:(qB2 n todo [] [] []).run hm=some ((ids,obs,fzq),l2)) (htodo : ∀ r∈qBa as,r∈todo) (hdis:(ids.all fun i => !(fz0++fzq).contains i)=true) {fw:Wr} {l3:List Nat} (hfw:(qV0 (fz0++fzq)).run hm=some (fw,l3))
  {vals:List Value} (hv:qAl (qU β F w) vs vals) :
  ∃ F1,Rel cx β F1 fm (upd hm fw) a w∧(∀ b,F b→F1 b)∧
   ids.Nodup∧ids.length=obs.length∧(∀ p∈fw,hm p.1≠none)∧
   (∀ (k id:Nat),ids[k]?=some id → ∃ z es full,hm id=some (.live z es true full)∧upd hm fw id=some (.live z es true full))∧
   zNt (qJu ids β) F1 w (obs.map (Ob.ren fun r=>ids.idxOf r))∧qAl (qU (qJu ids β) F1 w) (qFs (fun r=>ids.idxOf r) as) vals:=by
 obtain⟨k1,k2,k3,k4,k5,_,_⟩:=qM4 hq (by simp) rfl (by intro k id o hk;simp at hk) (by simp)
 obtain⟨F1,R1,hF1⟩:=Rel.freezeAll hfw R (fun id _=> .inl rfl)
 obtain⟨n1,n2⟩:=zE6 hfw
 have hnot : ∀ (k id:Nat),ids[k]?=some id→id ∉ fz0++fzq:=by
  intro k id hk
  have:=List.all_eq_true.1 hdis id (List.mem_of_getElem? hk)
  simpa using this
 have hkeepid : ∀ (k id:Nat),ids[k]?=some id→upd hm fw id=hm id:=fun k id hk=>qEt (fun q hq e=>hnot k id hk (by rw[←e];exact (n2 q hq).1))
 have hob : ∀ (k id:Nat),ids[k]?=some id → ∃ o z es es' full fzk lk,obs[k]?=some o∧hm id=some (.live z es true full)∧o = .live z es' true full∧(qDj es).run hm=some ((es',fzk),lk) ∧ ∀ j∈fzk,j∈fzq:=by
  intro k id hk
  have hkl:k<obs.length:=by rw[←k2];exact (List.getElem?_eq_some_iff.1 hk).1
  obtain⟨z,es,es',full,fzk,lk,g1,g2,g3,g4⟩:=k3 k id obs[k] hk (by simp[hkl])
  exact⟨_,z,es,es',full,fzk,lk,by simp[hkl],g1,g2,g3,g4⟩
 have hlive : ∀ (k id:Nat),ids[k]?=some id → ∃ z es full,hm id=some (.live z es true full)∧upd hm fw id=some (.live z es true full):=by
  intro k id hk
  obtain⟨o,z,es,es',full,fzk,lk,_,g1,_⟩:=hob k id hk
  exact⟨z,es,full,g1,by rw[hkeepid k id hk];exact g1⟩
 have hFeq:F1=qPl β F (fz0++fzq):=by funext b;exact propext (hF1 b)
 refine⟨F1,R1,fun b hb=>(hF1 b).2 (.inl hb),k1,k2,fun q hq=>?_,hlive,⟨fun k o ho=>?_,fun k hk=>?_,fun i j bi bj b h1 h2 h3 h4=>?_,fun k bi b h1 h2=>?_⟩,?_⟩
 ·obtain⟨_,z,es,full,h,_⟩:=n2 q hq
  rw[h];simp
 ·rw[List.getElem?_map,Option.map_eq_some_iff] at ho
  obtain⟨o',ho',rfl⟩:=ho
  have hkl:k<ids.length:=by rw[k2];exact (List.getElem?_eq_some_iff.1 ho').1
  obtain⟨o2,z,es,es',full,fzk,lk,g0,g1,g2,g3,g4⟩:=hob k ids[k] (by simp[hkl])
  rw[ho'] at g0;cases g0
  obtain⟨bi,hb,hok⟩:=R.hp _ _ g1
  have hnF : ∀ b,bi.blk=some b → ¬ F1 b:=by
   intro b hbk
   obtain⟨z',es2,full',_,h2⟩:=hlive k ids[k] (by simp[hkl])
   exact R1.notF h2 hb hbk
  refine⟨bi,by simp[qJu,hkl,hb],?_,?_⟩
  ·rw[g2]
   exact zLi R hF1 g3 (fun i hi=>by simp[g4 i hi]) hok hnF (fun r hr=>k4 o' (List.mem_of_getElem? ho') r (by rw[g2];exact hr))
  ·rw[g2];exact⟨z,_,full,rfl⟩
 ·rw[List.length_map,←k2] at hk
  simp[qJu,List.getElem?_eq_none hk]
 ·unfold qJu at h1 h2
  rw[Option.bind_eq_some_iff] at h1 h2
  obtain⟨x,hx,h1⟩:=h1
  obtain⟨y,hy,h2⟩:=h2
  obtain⟨z1,e1,f1,m1,_⟩:=hlive i x hx
  obtain⟨z2,e2,f2,m2,_⟩:=hlive j y hy
  have:=R.inj x y bi bj b _ _ h1 h2 h3 h4 m1 m2 (by simp) (by simp)
  subst this
  have hi:i<ids.length:=(List.getElem?_eq_some_iff.1 hx).1
  have hj:j<ids.length:=(List.getElem?_eq_some_iff.1 hy).1
  exact qDs k1 hi hj (by rw[List.getElem?_eq_getElem hi] at hx;rw[List.getElem?_eq_getElem hj] at hy;rw[Option.some.inj hx,Option.some.inj hy])
 ·unfold qJu at h1
  rw[Option.bind_eq_some_iff] at h1
  obtain⟨x,hx,h1⟩:=h1
  obtain⟨z1,e1,f1,m1,m2⟩:=hlive k x hx
  exact⟨R.blt x bi b h1 h2,R1.notF m2 h1 h2⟩
 ·rw[hFeq]
  exact zBt R hp (fun i hi=>by simp[hi]) hv (fun r hr=>k5 r (htodo r hr))
theorem zLr (R:Rel cx β F fm hm a w) {keep:Bool} {vs:List V} {cp:CP} {l:List Nat} (h:(qQv keep vs).run hm=some (cp,l)) {vals:List Value} (hv:qAl (qU β F w) vs vals) :
  ∃ F1,Rel cx β F1 fm (upd hm cp.fw) a w∧(∀ b,F b→F1 b)∧(keep=false → ∀ (k id:Nat),cp.ids[k]?=some id → ∃ z es full,hm id=some (.live z es true full))∧
   cp.ids.Nodup∧cp.ids.length=cp.obs.length∧(∀ p∈cp.fw,hm p.1≠none)∧
   (∀ (k id:Nat),cp.ids[k]?=some id → ∃ z es full,hm id=some (.live z es true full)∧upd hm cp.fw id=some (.live z es true full))∧
   zNt (qJu cp.ids β) F1 w (cp.obs.map (Ob.ren fun r=>cp.ids.idxOf r))∧qAl (qU (qJu cp.ids β) F1 w) (qFs (fun r=>cp.ids.idxOf r) cp.as) vals:=by
 unfold qQv at h
 obtain⟨p,l1,l2,hp,h,_⟩:=zB h
 obtain⟨q,l3,l4,hq,h,_⟩:=zB h
 obtain⟨⟨_,hdis⟩,h⟩:=qO h
 obtain⟨fw,l5,l6,hfw,h,_⟩:=zB h
 obtain⟨e,_⟩:=qC h
 cases e
 obtain⟨F1,g1,g2,g3,g4,g5,g6,g7,g8⟩:=zFu R hp hq (fun r h=>h) hdis hfw hv
 exact⟨F1,g1,g2,fun _ k id hk=>let ⟨z,es,full,h,_⟩:=g6 k id hk;⟨z,es,full,h⟩,g3,g4,g5,g6,g7,g8⟩
theorem zKa {obs:List Ob} (h:zB3 obs=true) {k:Nat} {o:Ob} (ho:obs[k]?=some o):o.flat=true:=List.all_eq_true.1 h o (List.mem_of_getElem? ho)
theorem zGk (R:Rel cx β F fm hm a w) {tab:Tab} (ht:qD3 cx.P cx.gl tab) {f:FuncId} {keep:Bool} {vs:List V} {nb:Nat} {v:V} {W:Wr} {l:List Nat} (h:(qTc tab f keep vs nb).run hm=some ((v,W),l)) {vals:Array Value} (hv:qAl (qU β F w) vs vals.toList) :
  qP9 cx.P f vals w (fun e w' => ∃ x β' F',e = .returned x∧Rel cx β' F' fm (upd hm W) a w'∧qU β' F' w' v x):=by
 unfold qTc at h
 obtain⟨cp,l1,l2,hcp,h,_⟩:=zB h
 obtain⟨p,hp,h⟩:=qH h
 obtain⟨⟨hlen,hflat⟩,h⟩:=qO h
 obtain⟨hfree,l',h⟩:=qY2 h
 obtain⟨e,_⟩:=qC h
 cases e
 obtain⟨r,outs⟩:=p
 rw[Option.bind_eq_some_iff] at hp
 obtain⟨s,hs,hp⟩:=hp
 obtain⟨F1,R1,hFF1,hlive0,hnd,hlo,hfwl,hlive,fits,hargs⟩:=zLr R hcp hv
 simp only at hlen hflat hfree ⊢
 refine (ht f s hs _ _ r outs hp w (qJu cp.ids β) F1 vals (zY9 R1) fits hargs).mono ?_
 rintro e w' ⟨x,βp,F',rfl,post⟩
 have hold : ∀ (k id:Nat),cp.ids[k]?=some id→βp k=β id:=by
  intro k id hk
  have hkl:k<cp.ids.length:=(List.getElem?_eq_some_iff.1 hk).1
  rw[post.old k (by rw[List.length_map,←hlo];exact hkl)]
  simp[qJu,hk]
 have hframe : ∀ b,b<w.heap.size→(∀ (k id:Nat) (bi:BI),cp.ids[k]?=some id→β id=some bi→bi.blk≠some b)→w'.heap[b]?=w.heap[b]?:=by
  intro b hb hk
  refine post.frame b hb (fun k bi hkb=>?_)
  unfold qJu at hkb
  rw[Option.bind_eq_some_iff] at hkb
  obtain⟨id,h1,h2⟩:=hkb
  exact hk k id bi h1 h2
 have hnew : ∀ (k:Nat) (bi:BI) (b:Nat),cp.ids.length≤k→βp k=some bi→bi.blk=some b→w.heap.size≤b:=by
  intro k bi b hk h1 h2
  exact post.new k bi b (by rw[List.length_map,←hlo];exact hk) h1 h2
 cases keep with
 | true=>
  obtain⟨βn,R2,hg,_⟩:=Rel.called R1 hnd (fun k id hk=>let ⟨z,es,full,_,h2⟩:=hlive k id hk;⟨z,es,full,h2⟩) post.fits hold hnew post.F post.Fw post.os post.tape post.output post.size hframe hlen (nb:=nb)
   (fun j hj=>by
    rw[qEt (fun q hq e=>hfwl q hq (by rw[e];exact hfree j hj))]
    exact hfree j hj)
  refine⟨x,βn,F',rfl,?_,?_⟩
  ·simp only[if_true,qU9];exact R2
  ·exact qU.ren (β:=βn) (ρ:=gam cp.ids nb) (post.res.mono (β':=fun k=>βn (gam cp.ids nb k)) hg (fun _ h=>h) (fun _ _=>rfl))
 | false=>
  have hfl:r.flat=true∧zB3 outs=true:=by simpa using hflat
  let F2:Nat→Prop:=fun b=>(b<w.heap.size∧F b)∨(w.heap.size≤b∧F' b)
  have hF2o : ∀ b,b<w.heap.size→(F2 b↔F b):=fun b hb=>⟨fun h=>by
   rcases h with h | h
   ·exact h.2
   ·omega,fun h=> .inl ⟨hb,h⟩⟩
  have hblkF2 : ∀ (k:Nat) (bi:BI) (b:Nat),βp k=some bi→bi.blk=some b → ¬ F2 b:=by
   intro k bi b h1 h2 hF2
   rcases hF2 with⟨hb,hF⟩ | ⟨hb,hF⟩
   ·rcases Nat.lt_or_ge k cp.ids.length with hk | hk
    ·obtain⟨z,es,full,hl⟩:=hlive0 rfl k cp.ids[k] (by simp[hk])
     exact R.notF hl (by rw[←hold k cp.ids[k] (by simp[hk])];exact h1) h2 hF
    ·have:=hnew k bi b hk h1 h2;omega
   ·exact (post.fits.blt k bi b h1 h2).2 hF
  have fits2:zNt βp F2 w' outs:=by
   refine⟨fun k o ho=>?_,post.fits.dom,post.fits.inj,fun k bi b h1 h2=>⟨(post.fits.blt k bi b h1 h2).1,hblkF2 k bi b h1 h2⟩⟩
   obtain⟨bi,h1,h2,z,es,full,rfl⟩:=post.fits.ok k o ho
   have hfo:=zKa hfl.2 ho
   exact⟨bi,h1,h2.flat hfo (fun b hb=>hblkF2 k bi b h1 hb),z,es,full,rfl⟩
  obtain⟨βn,R2,hg,_⟩:=Rel.called R hnd (fun k id hk=>let ⟨z,es,full,h1,_⟩:=hlive k id hk;⟨z,es,full,h1⟩) fits2 hold hnew hF2o (fun b hb=>by
    rcases hb with⟨h1,_⟩ | ⟨_,h2⟩
    ·have:=post.size;omega
    ·exact post.Fw b h2) post.os post.tape post.output post.size hframe hlen (nb:=nb) hfree
  refine⟨x,βn,F2,rfl,?_,?_⟩
  ·simpa using R2
  ·exact qU.ren (β:=βn) (ρ:=gam cp.ids nb) ((post.res.flat hfl.1).mono (β':=fun k=>βn (gam cp.ids nb k)) hg (fun _ h=>h) (fun _ _=>rfl))
end Go.Eng
end
section
namespace Go.Eng
variable {β:Nat→Option BI} {F:Nat→Prop} {w:World} {cx:Cx} {fm:Nat→Option V} {hm:Nat→Option Ob} {a:Act}
inductive qE8 where
 | tmp (t:Nat)
 | cst (v:V)
 | glob (g:Nat)
 deriving Inhabited
inductive AK where
 | op (ao:AO)
 | call (f:FuncId) (keep:Bool)
 | callv (keep:Bool)
 deriving Inhabited
structure jA where
 dst:Option Nat
 k:AK
 args:List qE8
 guard:Option (Nat×Bool)
 deriving Inhabited
abbrev Gl:=Nat→Option (List T)
def qE8.val (gl:Gl) (fm:Nat→Option V):qE8→Option V
 | .tmp t=>fm t
 | .cst v=>some v
 | .glob g=>(gl g).map .ro
def qBe (gl:Gl) (fm:Nat→Option V):List qE8→Option (List V)
 | []=>some []
 | x::r=>(x.val gl fm).bind fun v=>(qBe gl fm r).map (v :: ·)
def AK.q (tab:Tab) (nb:Nat):AK→List V→Q (V×Wr)
 | .op ao,vs=>sem ao vs nb
 | .call f keep,vs=>qTc tab f keep vs nb
 | .callv keep,.fn f caps::rest=>qTc tab f keep (rest++caps) nb
 | .callv keep,.bd g id i f::rest=>qTc tab g keep (.ref id i f::rest) nb
 | .callv _,_=> .fail
def jA.go (tab:Tab) (gl:Gl) (o:jA) (fm:Nat→Option V) (nb:Nat):Q (V×Wr):=
 (Q.of (qBe gl fm o.args)).bind fun vs=>o.k.q tab nb vs
def qE4 (fm:Nat→Option V):Option (Nat×Bool)→Option Bool
 | none=>some true
 | some (t,want)=>match fm t with
  | some (.t (.bool b))=>some (b==want)
  | some (.tup [])=>some false
  | _=>none
def jA.q (tab:Tab) (gl:Gl) (o:jA) (fm:Nat→Option V) (nb:Nat):Q (V×Wr):=
 (Q.of (qE4 fm o.guard)).bind fun g=>if g then o.go tab gl fm nb else .ret (.tup [],[])
def qTl (fm:Nat→Option V) (d:Option Nat) (v:V):Nat→Option V:=fun t=>if d=some t then some v else fm t
def zP6:Operand→Option qE8
 | .tmp t=>some (.tmp t)
 | .const v=>(V.ofConst v).map .cst
 | .global g=>some (.glob g)
 | .func f=>some (.cst (.fn f []))
def zFp:List Operand→Option (List qE8)
 | []=>some []
 | x::r=>(zP6 x).bind fun y=>(zFp r).map (y :: ·)
def zK4 (P:Program) (keep:Bool):Op→Option (AK×List Operand)
 | .call { callee:= .value (.func f),args,.. }=>some (.call f keep,args.toList)
 | .call { callee:= .value (.tmp t),args,.. }=>some (.callv keep,.tmp t::args.toList)
 | op=>(zI2 P op).map fun p=>(.op (if keep then p.1.cut else p.1),p.2)
def zCb (ops:Array Oper):Option (Nat×Bool)→Option (Option (Nat×Bool))
 | none=>some none
 | some (j,want)=>((ops[j]?).bind (·.dst)).map fun t=>some (t,want)
def zY5 (nt:Nat):Option Nat→Bool
 | some d=>decide (d<nt)
 | none=>true
def zPb (P:Program) (keep:Bool) (op:Op):Option (AK×List qE8):=(zK4 P keep op).bind fun p=>(zFp p.2).map fun xs=>(p.1,xs)
def zYw (P:Program) (nt:Nat) (ops:Array Oper) (keep:Bool) (o:Oper):Option jA:=
 (zCb ops o.guard).bind fun g=>
  if zY5 nt o.dst=true then some (match zPb P keep o.op with | some p=>⟨o.dst,p.1,p.2,g⟩ | none=>⟨o.dst,.op .bad,[],g⟩) else none
theorem qRx (R:Rel cx β F fm hm a w) {x:Operand} {y:qE8} (h:zP6 x=some y) {v:V} (hv:y.val cx.gl fm=some v):qU β F w v (a.eval x):=by
 cases x with
 | tmp t=>
  cases h
  obtain⟨x,h1,h2⟩:=R.fr t v hv
  have:a.eval (.tmp t)=x:=by simp[Act.eval,h1]
  rw[this];exact h2
 | const c=>
  simp only[zP6,Option.map_eq_some_iff] at h
  obtain⟨u,hu,rfl⟩:=h
  cases hv
  exact qA7 hu
 | global g=>
  cases h
  simp only[qE8.val,Option.map_eq_some_iff] at hv
  obtain⟨cs,hcs,rfl⟩:=hv
  exact R.gl g cs hcs
 | func f=>
  cases h
  cases hv
  exact .fn f [] #[] rfl (by intro i c u hc;simp at hc)
theorem qU0 (R:Rel cx β F fm hm a w) : ∀ {xs:List Operand} {ys:List qE8} {vs:List V},zFp xs=some ys→qBe cx.gl fm ys=some vs→qAl (fun x v=>qU β F w v (a.eval x)) xs vs
 | [],ys,vs,h,hv=>by cases h;cases hv;exact .nil
 | x::r,ys,vs,h,hv=>by
  simp only[zFp,Option.bind_eq_some_iff,Option.map_eq_some_iff] at h
  obtain⟨y,hy,zs,hz,rfl⟩:=h
  simp only[qBe,Option.bind_eq_some_iff,Option.map_eq_some_iff] at hv
  obtain⟨v,hv,us,hu,rfl⟩:=hv
  exact .cons (qRx R hy hv) (qU0 R hz hu)
theorem qVi {xs:List Operand} {vs:List V} {a:Act} (h:qAl (fun x v=>qU β F w v (a.eval x)) xs vs):qAl (qU β F w) vs (xs.map a.eval):=by
 induction h with
 | nil=>exact .nil
 | cons h _ ih=>exact .cons h ih
theorem zNy {α γ:Type} {R:α→γ→Prop} {xs xs':List α} {ys ys':List γ} (h:qAl R xs ys) (h':qAl R xs' ys'):qAl R (xs++xs') (ys++ys'):=by
 induction h with
 | nil=>exact h'
 | cons h _ ih=>exact .cons h ih
theorem zBe {vs:List V} {us:List Value} (hl:us.length=vs.length) (h : ∀ (i:Nat) (c:V) (u:Value),vs[i]?=some c→us[i]?=some u→qU β F w c u):qAl (qU β F w) vs us:=by
 induction vs generalizing us with
 | nil=>cases us with
  | nil=>exact .nil
  | cons _ _=>simp at hl
 | cons c r ih=>cases us with
  | nil=>simp at hl
  | cons u us=>exact .cons (h 0 c u rfl rfl) (ih (by simpa using hl) (fun i c u hc hu=>h (i+1) c u (by simpa using hc) (by simpa using hu)))
theorem Rel.put (R:Rel cx β F fm hm a w) {d:Option Nat} (hd : ∀ t,d=some t→t<cx.nt) {v:V} {x:Value} (hx:qU β F w v x):Rel cx β F (qTl fm d v) hm (a.put d x) w:=by
 cases d with
 | none=>
  have:qTl fm none v=fm:=by funext t;simp[qTl]
  rw[this];exact R
 | some t=>
  refine⟨by simp[Act.put,R.tsz],R.dfr,fun t' v' hv'=>?_,R.hp,R.dom,R.inj,R.os,R.tape,R.output,R.size,R.ext,R.old,R.inF,R.inw,R.Fw,R.F0,R.blt,R.gl,R.ext0,R.gs⟩
  unfold qTl at hv'
  split at hv'
  ·rename_i h
   cases h;cases hv'
   exact⟨x,by simp[Act.put,R.tsz,hd _ rfl],hx⟩
  ·rename_i h
   obtain⟨y,h1,h2⟩:=R.fr t' v' hv'
   exact⟨y,by simp only[Act.put];rw[Array.getElem?_setIfInBounds_ne (fun e=>h (by rw[e]))];exact h1,h2⟩
theorem zCd (R:Rel cx β F fm hm a w) {ops:Array Oper} {o:Oper} {g:Option (Nat×Bool)} (hg:zCb ops o.guard=some g) {b:Bool} (hb:qE4 fm g=some b):Region.wanted o (yielded ops a.tmps)=b:=by
 unfold Region.wanted
 cases ho:o.guard with
 | none=>
  rw[ho] at hg;cases hg;cases hb;rfl
 | some p=>
  obtain⟨j,want⟩:=p
  rw[ho] at hg
  simp only[zCb,Option.map_eq_some_iff] at hg
  obtain⟨t,ht,rfl⟩:=hg
  simp only[qE4] at hb
  simp only[yielded,ht,Option.bind_some]
  cases hf:fm t with
  | none=>rw[hf] at hb;cases hb
  | some v=>
   obtain⟨x,h1,h2⟩:=R.fr t v hf
   rw[h1]
   rw[hf] at hb
   split at hb
   ·rename_i b' h
    cases h;cases hb
    rw[h2.bool_inv]
    cases b'<;>cases want<;>rfl
   ·rename_i h
    cases h;cases hb
    cases h2 with
    | tup _ vs hl _=>
     simp only
     cases want<;>rfl
   ·cases hb
theorem qVc (R:Rel cx β F fm hm a w) {tab:Tab} (ht:qD3 cx.P cx.gl tab) {ops:Array Oper} {i:Nat} {o:Oper} {ao:jA} {keep:Bool} (ho:ops[i]?=some o) (hag:zYw cx.P cx.nt ops keep o=some ao)
  {nb:Nat} {v:V} {W:Wr} {l:List Nat} (hq:(ao.q tab cx.gl fm nb).run hm=some ((v,W),l)) {K:Act→World→Prop} {Qx:Exit→Act→World→Prop}
  (hK : ∀ β' F' a' w',Rel cx β' F' (qTl fm ao.dst v) (upd hm W) a' w'→K a' w'):wpOp cx.P ops Qx i K a w:=by
 unfold zYw at hag
 simp only[Option.bind_eq_some_iff] at hag
 obtain⟨g,hg,hag⟩:=hag
 split at hag
 ·rename_i hd
  have hag:=Option.some.inj hag
  obtain⟨kd,ys,hkx,rfl⟩ : ∃ kd ys,(zPb cx.P keep o.op=some (kd,ys)∨kd = .op .bad)∧ao=⟨o.dst,kd,ys,g⟩:=by
   cases hk:zPb cx.P keep o.op with
   | none=>rw[hk] at hag;exact⟨_,_,.inr rfl,hag.symm⟩
   | some p=>rw[hk] at hag;exact⟨p.1,p.2,.inl rfl,hag.symm⟩
  simp only at hq hK
  have hd' : ∀ t,o.dst=some t→t<cx.nt:=by
   intro t e
   rw[e] at hd
   simpa [zY5] using hd
  unfold jA.q at hq
  obtain⟨b,hb,hq⟩:=qH hq
  have hw:=zCd R hg hb
  unfold wpOp
  simp only[ho,hw]
  cases b with
  | false=>
   simp only[Bool.false_eq_true,if_false] at hq ⊢
   obtain⟨e,_⟩:=qC hq
   cases e
   exact hK β F _ _ (R.put hd' (.tup [] #[] rfl (by intro i c u hc;simp at hc)))
  | true=>
   simp only[if_true] at hq ⊢
   refine .inl ?_
   unfold jA.go at hq
   obtain⟨vs,hvs,hq2⟩:=qH hq
   clear hq
   rcases hkx with hkx | hbad
   case inr=>rw[hbad] at hq2;cases hq2
   unfold zPb at hkx
   simp only[Option.bind_eq_some_iff,Option.map_eq_some_iff] at hkx
   obtain⟨⟨kd',xs⟩,hkd,ys',hys,hkeq⟩:=hkx
   simp only[Prod.mk.injEq] at hkeq
   obtain⟨rfl,rfl⟩:=hkeq
   have hall:=qU0 R hys hvs
   simp only at hall hkd hq2
   unfold Oper.wp
   have call : ∀ {f:FuncId} {us:List V} {vals:Array Value},execOp a.eval o=callFunc f vals→(qTc tab f keep us nb).run hm=some ((v,W),l)→qAl (qU β F w) us vals.toList→o.upon cx.P a K Qx ((execOp a.eval o).run cx.P w):=by
    intro f us vals he hq hv
    rw[he]
    rcases zGk R ht hq hv with⟨g,h1,h2⟩ | ⟨x,w',h1,x',β',F',e,R',hx⟩
    ·rw[h1]
     simp only[Oper.upon]
     refine h2.mono ?_
     rintro e w' ⟨x,β',F',rfl,R',hx⟩
     exact hK β' F' _ _ (R'.put hd' hx)
    ·cases e
     rw[h1]
     exact hK β' F' _ _ (R'.put hd' hx)
   have plain:(zI2 cx.P o.op).map (fun p=>(AK.op (if keep then p.1.cut else p.1),p.2))=some (kd',xs)→o.upon cx.P a K Qx ((execOp a.eval o).run cx.P w):=by
    intro h
    simp only[Option.map_eq_some_iff] at h
    obtain⟨⟨ao,zs⟩,hao,e⟩:=h
    simp only[Prod.mk.injEq] at e
    obtain⟨rfl,rfl⟩:=e
    have hq3:(sem (if keep then ao.cut else ao) vs nb).run hm=some ((v,W),l):=hq2
    have fin:zSa cx β F fm hm a w v W (execOp a.eval o):=by
     rcases AO.cut_or ao with⟨z,b,rfl,hc⟩ | hc
     ·cases keep
      ·exact qWa R hao hall hq3
      ·rw[if_pos rfl,hc] at hq3
       exact qZg R hao hall hq3
     ·have e:(if keep then ao.cut else ao)=ao:=by rw[hc,ite_self]
      rw[e] at hq3
      exact qWa R hao hall hq3
    obtain⟨n,w',β',x,h1,h2,h3,h4,h5⟩:=fin
    rw[h1]
    rcases h2 with rfl | ⟨rfl,rfl⟩
    ·exact hK β' F _ _ (h3.put hd' h4)
    ·exact hK β' F _ _ (h3.put hd' h4)
   obtain⟨dst,op,ty,pos,after,guard⟩:=o
   cases op with
   | call c=>
    obtain⟨callee,args,ts⟩:=c
    cases callee with
    | value fo=>
     cases fo with
     | tmp t=>
      simp only[zK4,Option.some.injEq,Prod.mk.injEq] at hkd
      obtain⟨rfl,rfl⟩:=hkd
      cases hall with
      | cons hx hrest=>
       rename_i u us
       cases u<;>simp only[AK.q] at hq2<;>(try (cases hq2;done))
       ·rename_i f caps
        generalize h0:a.eval (.tmp t)=y0 at hx
        cases hx with
        | fn _ _ cvs hl hc=>
         refine call (vals:=args.map a.eval++cvs) ?_ hq2 ?_
         ·simp only[execOp,resolve,h0,Deferred.ofValue]
          simp[invoke,pure_bind]
         ·have h1:=qVi hrest
          have h2:qAl (qU β F w) caps cvs.toList:=zBe (by simpa using hl) (fun i c u hc' hu=>hc i c u hc' (by simpa using hu))
          simpa using zNy h1 h2
       ·rename_i g id i fo
        generalize h0:a.eval (.tmp t)=y0 at hx
        cases hx with
        | bd _ _ _ _ b sz room hb=>
         refine call (vals := #[.pointer (some ⟨b,i*sz+fo,none⟩)]++args.map a.eval) ?_ hq2 ?_
         ·simp only[execOp,resolve,h0,Deferred.ofValue]
          simp[invoke,pure_bind]
         ·have h1:=qVi hrest
          have h2:qU β F w (.ref id i fo) (.pointer (some ⟨b,i*sz+fo,none⟩)):= .ref id i fo b sz room hb
          simpa using qAl.cons h2 h1
     | func f=>
      simp only[zK4,Option.some.injEq,Prod.mk.injEq] at hkd
      obtain⟨rfl,rfl⟩:=hkd
      refine call (vals:=args.map a.eval) ?_ hq2 ?_
      ·have:execOp a.eval ⟨dst,.call ⟨.value (.func f),args,ts⟩,ty,pos,after,guard⟩=callFunc f (#[]++args.map a.eval ++ #[]):=rfl
       rw[this];simp
      ·simpa using qVi hall
     | const c=>exact plain hkd
     | global g=>exact plain hkd
    | invoke r m=>exact plain hkd
    | builtin b=>exact plain hkd
   | _=>exact plain hkd
 ·cases hag
end Go.Eng
end
section
namespace Go.Eng
variable {β:Nat→Option BI} {F:Nat→Prop} {w:World} {cx:Cx} {fm:Nat→Option V} {hm:Nat→Option Ob} {a:Act}
inductive Lex (tab:Tab) (gl:Gl):List jA→Nat→(Nat→Option V)→(Nat→Option Ob)→List (V×Wr×List Nat)→(Nat→Option V)→(Nat→Option Ob)→Prop
 | nil {nb:Nat} {fm:Nat→Option V} {hm:Nat→Option Ob}:Lex tab gl [] nb fm hm [] fm hm
 | cons {o:jA} {r:List jA} {nb:Nat} {fm fm':Nat→Option V} {hm hm':Nat→Option Ob} {v:V} {W:Wr} {l:List Nat} {tr:List (V×Wr×List Nat)}
   (h:(o.q tab gl fm nb).run hm=some ((v,W),l)) (t:Lex tab gl r (nb+16) (qTl fm o.dst v) (upd hm W) tr fm' hm'):Lex tab gl (o::r) nb fm hm ((v,W,l)::tr) fm' hm'
def zGd (P:Program) (nt:Nat) (ops:Array Oper):Nat→List jA→Prop
 | i,[]=>ops.size=i
 | i,ao::r=>(∃ o keep,ops[i]?=some o∧zYw P nt ops keep o=some ao)∧zGd P nt ops (i+1) r
theorem zK7 {tab:Tab} (ht:qD3 cx.P cx.gl tab) {ops:Array Oper} {Qx:Exit→Act→World→Prop} : ∀ {aos:List jA} {i nb:Nat} {β:Nat→Option BI} {F:Nat→Prop} {fm fm':Nat→Option V} {hm hm':Nat→Option Ob} {tr:List (V×Wr×List Nat)} {a:Act} {w:World},
  zGd cx.P cx.nt ops i aos→Lex tab cx.gl aos nb fm hm tr fm' hm'→Rel cx β F fm hm a w→(∀ β' F' a' w',Rel cx β' F' fm' hm' a' w'→Qx .normal a' w') → ∀ l,l=(List.range ops.size).drop i→wpOps cx.P ops Qx l a w
 | [],i,nb,β,F,fm,fm',hm,hm',tr,a,w,hag,hl,R,hQ,l,hl'=>by
  cases hl
  have:l=[]:=by
   rw[hl',List.drop_eq_nil_iff,List.length_range,hag]
   exact Nat.le_refl _
  subst this
  exact hQ β F a w R
 | ao::r,i,nb,β,F,fm,fm',hm,hm',tr,a,w,hag,hl,R,hQ,l,hl'=>by
  cases hl with
  | cons h t=>
   obtain⟨⟨o,keep,ho,hk⟩,hag'⟩:=hag
   have hi:i<ops.size:=(Array.getElem?_eq_some_iff.1 ho).1
   have:l=i::(List.range ops.size).drop (i+1):=by
    rw[hl',List.drop_eq_getElem_cons (by simpa using hi)]
    simp
   subst this
   rw[wpOps_cons]
   exact qVc R ht ho hk h (fun β' F' a' w' R'=>zK7 ht hag' t R' hQ _ rfl)
def SF (D:Nat→Option Nat) (v:Nat→V) (sel:Nat→Bool) (fm:Nat→Option V):Nat→(Nat→Option V)
 | 0=>fm
 | n+1=>if sel n then qTl (SF D v sel fm n) (D n) (v n) else SF D v sel fm n
def SH (W:Nat→Wr) (sel:Nat→Bool) (hm:Nat→Option Ob):Nat→(Nat→Option Ob)
 | 0=>hm
 | n+1=>if sel n then upd (SH W sel hm n) (W n) else SH W sel hm n
def wQ (W:Wr):List Nat:=W.map (·.1)
theorem qWv : ∀ {W:Wr} {hm hm':Nat→Option Ob} {id:Nat},id∈wQ W→upd hm W id=upd hm' W id
 | [],_,_,_,h=>by simp[wQ] at h
 | (i,o)::r,hm,hm',id,h=>by
  simp only[upd]
  by_cases hr:id∈wQ r
  ·exact qWv hr
  ·have hi:id=i:=by
    simp only[wQ,List.map_cons,List.mem_cons] at h hr
    rcases h with h | h
    ·exact h
    ·exact absurd h hr
   have miss : ∀ p∈r,p.1≠id:=fun p hp e=>hr (by simp only[wQ,List.mem_map];exact⟨p,hp,e⟩)
   rw[qEt miss,qEt miss,if_pos hi,if_pos hi]
theorem qB6 {W:Wr} {hm:Nat→Option Ob} {id:Nat} (h:id ∉ wQ W):upd hm W id=hm id:=
 qEt (fun p hp e=>h (by simp only[wQ,List.mem_map];exact⟨p,hp,e⟩))
theorem zRx {W W':Wr} {hm:Nat→Option Ob} (h : ∀ id,id∈wQ W→id ∉ wQ W'):upd (upd hm W) W'=upd (upd hm W') W:=by
 funext id
 by_cases h1:id∈wQ W
 ·rw[qB6 (h id h1),qWv (hm:=hm) (hm':=upd hm W') h1]
 ·by_cases h2:id∈wQ W'
  ·rw[qWv (hm:=upd hm W) (hm':=hm) h2,qB6 h1]
  ·rw[qB6 h2,qB6 h1,qB6 h1,qB6 h2]
theorem zLu {fm:Nat→Option V} {d e:Option Nat} {v u:V} (h : ∀ t,d=some t→e≠some t):qTl (qTl fm d v) e u=qTl (qTl fm e u) d v:=by
 funext t
 unfold qTl
 by_cases h1:d=some t
 ·have:=h t h1
  simp[h1,this]
 ·simp[h1]
section
variable {D:Nat→Option Nat} {v:Nat→V} {W:Nat→Wr} {sel sel':Nat→Bool}
theorem qVe {t:Nat} : ∀ {n:Nat},(∀ j,j<n→D j=some t→sel j=sel' j)→SF D v sel fm n t=SF D v sel' fm n t
 | 0,_=>rfl
 | n+1,h=>by
  have ih:=qVe (n:=n) (fun j hj=>h j (by omega))
  simp only[SF]
  by_cases hd:D n=some t
  ·have e:=h n (by omega) hd
   rw[e]
   split
   ·simp[qTl,hd]
   ·exact ih
  ·split<;>split<;>simp[qTl,hd,ih]
theorem zSc {t i:Nat} : ∀ {n:Nat},i≤n→(∀ j,i≤j→j<n→D j=some t→sel j=false)→SF D v sel fm n t=SF D v sel fm i t
 | 0,h,_=>by rw[Nat.le_zero.1 h]
 | n+1,h,hs=>by
  rcases Nat.lt_or_ge n i with h1 | h1
  ·rw[show i=n+1 by omega]
  ·rw[←zSc (n:=n) h1 (fun j h2 h3=>hs j h2 (by omega))]
   simp only[SF]
   split
   ·rename_i hsn
    by_cases hd:D n=some t
    ·rw[hs n h1 (by omega) hd] at hsn;cases hsn
    ·simp[qTl,hd]
   ·rfl
theorem qVg {id:Nat} : ∀ {n:Nat},(∀ j,j<n→id∈wQ (W j)→sel j=sel' j)→SH W sel hm n id=SH W sel' hm n id
 | 0,_=>rfl
 | n+1,h=>by
  have ih:=qVg (n:=n) (fun j hj=>h j (by omega))
  simp only[SH]
  by_cases hd:id∈wQ (W n)
  ·have e:=h n (by omega) hd
   rw[e]
   split
   ·exact qWv hd
   ·exact ih
  ·split<;>split<;>simp only[qB6 hd,ih]
theorem zSe {id i:Nat} : ∀ {n:Nat},i≤n→(∀ j,i≤j→j<n→id∈wQ (W j)→sel j=false)→SH W sel hm n id=SH W sel hm i id
 | 0,h,_=>by rw[Nat.le_zero.1 h]
 | n+1,h,hs=>by
  rcases Nat.lt_or_ge n i with h1 | h1
  ·rw[show i=n+1 by omega]
  ·rw[←zSe (n:=n) h1 (fun j h2 h3=>hs j h2 (by omega))]
   simp only[SH]
   split
   ·rename_i hsn
    by_cases hd:id∈wQ (W n)
    ·rw[hs n h1 (by omega) hd] at hsn;cases hsn
    ·exact qB6 hd
   ·rfl
def qAk (sel:Nat→Bool) (i:Nat):Nat→Bool:=fun j=>if j=i then true else sel j
theorem zSb {i:Nat} (hi:sel i=false) : ∀ {n:Nat},(∀ j,i<j→j<n→sel j=true → ∀ t,D i=some t→D j≠some t)→SF D v (qAk sel i) fm n=if i<n then qTl (SF D v sel fm n) (D i) (v i) else SF D v sel fm n
 | 0,_=>by simp[SF]
 | n+1,h=>by
  have ih:=zSb (n:=n) hi (fun j h1 h2=>h j h1 (by omega))
  simp only[SF]
  rw[ih]
  by_cases hn:n=i
  ·subst hn
   simp[qAk,hi]
  ·have e:qAk sel i n=sel n:=by simp[qAk,hn]
   rw[e]
   by_cases hlt:i<n
   ·have hlt':i<n+1:=by omega
    rw[if_pos hlt,if_pos hlt']
    split
    ·rename_i hs
     exact zLu (h n hlt (by omega) hs)
    ·rfl
   ·have hlt' : ¬ i<n+1:=by omega
    rw[if_neg hlt,if_neg hlt']
theorem zSd {i:Nat} (hi:sel i=false) : ∀ {n:Nat},(∀ j,i<j→j<n→sel j=true → ∀ id,id∈wQ (W i)→id ∉ wQ (W j))→SH W (qAk sel i) hm n=if i<n then upd (SH W sel hm n) (W i) else SH W sel hm n
 | 0,_=>by simp[SH]
 | n+1,h=>by
  have ih:=zSd (n:=n) hi (fun j h1 h2=>h j h1 (by omega))
  simp only[SH]
  rw[ih]
  by_cases hn:n=i
  ·subst hn
   simp[qAk,hi]
  ·have e:qAk sel i n=sel n:=by simp[qAk,hn]
   rw[e]
   by_cases hlt:i<n
   ·have hlt':i<n+1:=by omega
    rw[if_pos hlt,if_pos hlt']
    split
    ·rename_i hs
     exact zRx (h n hlt (by omega) hs)
    ·rfl
   ·have hlt' : ¬ i<n+1:=by omega
    rw[if_neg hlt,if_neg hlt']
end
def jA.slots (o:jA):List Nat:=
 (o.args.filterMap fun | .tmp t=>some t | _=>none)++(match o.guard with | some (t,_)=>[t] | none=>[])
theorem qO0 {gl:Gl} {fm fm':Nat→Option V} : ∀ {xs:List qE8},(∀ t,qE8.tmp t∈xs→fm t=fm' t)→qBe gl fm xs=qBe gl fm' xs
 | [],_=>rfl
 | x::r,h=>by
  have ih:=qO0 (gl:=gl) (xs:=r) (fun t ht=>h t (by simp[ht]))
  have:x.val gl fm=x.val gl fm':=by
   cases x with
   | tmp t=>exact h t (by simp)
   | _=>rfl
  simp only[qBe,this,ih]
theorem zV7 {tab:Tab} {gl:Gl} {o:jA} {fm fm':Nat→Option V} {nb:Nat} (h : ∀ t∈o.slots,fm t=fm' t):o.q tab gl fm nb=o.q tab gl fm' nb:=by
 have h1:qBe gl fm o.args=qBe gl fm' o.args:=qO0 (fun t ht=>h t (by
  unfold jA.slots
  rw[List.mem_append]
  exact .inl (List.mem_filterMap.2 ⟨_,ht,rfl⟩)))
 have h2:qE4 fm o.guard=qE4 fm' o.guard:=by
  cases hg:o.guard with
  | none=>rfl
  | some p=>
   obtain⟨t,want⟩:=p
   have:=h t (by unfold jA.slots;rw[hg];simp)
   simp only[qE4,this]
 simp only[jA.q,jA.go,h1,h2]
end Go.Eng
end
section
namespace Go.Eng
variable {β:Nat→Option BI} {F:Nat→Prop} {w:World} {cx:Cx} {fm:Nat→Option V} {hm:Nat→Option Ob} {a:Act}
theorem qVf {D:Nat→Option Nat} {v:Nat→V} : ∀ {n:Nat} {fm:Nat→Option V},SF D v (fun _=>true) fm (n+1)=SF (fun i=>D (i+1)) (fun i=>v (i+1)) (fun _=>true) (qTl fm (D 0) (v 0)) n
 | 0,_=>rfl
 | n+1,fm=>by
  rw[SF,qVf (n:=n)]
  simp only[SF,if_true]
theorem qVh {W:Nat→Wr} : ∀ {n:Nat} {hm:Nat→Option Ob},SH W (fun _=>true) hm (n+1)=SH (fun i=>W (i+1)) (fun _=>true) (upd hm (W 0)) n
 | 0,_=>rfl
 | n+1,hm=>by
  rw[SH,qVh (n:=n)]
  simp only[SH,if_true]
def trV (tr:List (V×Wr×List Nat)) (i:Nat):V:=(tr.getD i (.nil,[],[])).1
def trW (tr:List (V×Wr×List Nat)) (i:Nat):Wr:=(tr.getD i (.nil,[],[])).2.1
def trL (tr:List (V×Wr×List Nat)) (i:Nat):List Nat:=(tr.getD i (.nil,[],[])).2.2
def aoD (aos:List jA) (i:Nat):Option Nat:=(aos.getD i default).dst
theorem Lex.index {tab:Tab} {gl:Gl} {aos:List jA} {nb:Nat} {fm fm':Nat→Option V} {hm hm':Nat→Option Ob} {tr:List (V×Wr×List Nat)} (h:Lex tab gl aos nb fm hm tr fm' hm') :
  (∀ i ao,aos[i]?=some ao→(ao.q tab gl (SF (aoD aos) (trV tr) (fun _=>true) fm i) (nb+16*i)).run (SH (trW tr) (fun _=>true) hm i)=some ((trV tr i,trW tr i),trL tr i))∧
   fm'=SF (aoD aos) (trV tr) (fun _=>true) fm aos.length∧hm'=SH (trW tr) (fun _=>true) hm aos.length:=by
 induction h with
 | nil=>exact⟨by intro i ao h;simp at h,rfl,rfl⟩
 | cons h _ ih=>
  rename_i o r nb fm fm' hm hm' v W l tr t
  obtain⟨h1,h2,h3⟩:=ih
  refine⟨fun i ao hi=>?_,?_,?_⟩
  ·cases i with
   | zero=>
    simp at hi;subst hi
    exact h
   | succ i=>
    simp at hi
    rw[qVf,qVh]
    have:=h1 i ao hi
    rw[show nb+16*(i+1)=nb+16+16*i by omega]
    exact this
  ·rw[List.length_cons,qVf];exact h2
  ·rw[List.length_cons,qVh];exact h3
def zBg (anc:List Nat):List Edge→Nat
 | []=>0
 | e::r=>if Region.binds .any e then zBg anc r ||| (1 <<< e.on) ||| anc.getD e.on 0 else zBg anc r
theorem qQk {anc:List Nat} : ∀ {es:List Edge} {x:Nat},(zBg anc es).testBit x=true → ∃ e∈es,Region.binds .any e=true∧(x=e.on∨(anc.getD e.on 0).testBit x=true)
 | [],x,h=>by simp[zBg] at h
 | e::r,x,h=>by
  unfold zBg at h
  split at h
  ·rename_i hb
   rw[Nat.testBit_or,Nat.testBit_or,Bool.or_eq_true,Bool.or_eq_true] at h
   rcases h with (h | h) | h
   ·obtain⟨e',h1,h2,h3⟩:=qQk h
    exact⟨e',by simp[h1],h2,h3⟩
   ·refine⟨e,by simp,hb,.inl ?_⟩
    rw[Nat.one_shiftLeft,Nat.testBit_two_pow] at h
    exact (of_decide_eq_true h).symm
   ·exact⟨e,by simp,hb,.inr h⟩
  ·obtain⟨e',h1,h2,h3⟩:=qQk h
   exact⟨e',by simp[h1],h2,h3⟩
def jCu:List Oper→List Nat→List Nat
 | [],acc=>acc
 | o::r,acc=>jCu r (acc++[zBg acc o.after.toList])
def jCw (xs ys:List Nat):Bool:=xs.all fun x => !ys.contains x
theorem qLs {xs ys:List Nat} (h:jCw xs ys=true) : ∀ x,x∈xs→x ∉ ys:=by
 intro x hx hy
 have:=List.all_eq_true.1 h x hx
 simp at this
 exact this hy
def apartS (x y:jA):Bool:=
 (match x.dst with
 | some d => !y.slots.contains d&&y.dst != some d
 | none=>true) &&
 (match y.dst with
 | some d => !x.slots.contains d
 | none=>true)
def zMw (anc:List Nat) (aos:List jA):Bool:=
 (List.range aos.length).all fun j=>(List.range j).all fun i=>(anc.getD j 0).testBit i||apartS (aos.getD i default) (aos.getD j default)
def zJ2 (anc:List Nat) (ops:List Oper):Bool:=
 (List.range ops.length).all fun i=>(ops.getD i default).after.toList.all (fun e => !Region.binds .any e||decide (e.on<i))&&anc.getD i 0==zBg anc (ops.getD i default).after.toList
def apartW (x y:List Nat×List Nat):Bool:=jCw x.1 y.1&&jCw x.1 y.2&&jCw x.2 y.1
def chk (anc:List Nat) (tr:List (List Nat×List Nat)):Bool:=
 (List.range tr.length).all fun j=>(List.range j).all fun i=>(anc.getD j 0).testBit i||apartW (tr.getD i ([],[])) (tr.getD j ([],[]))
def cnt (sel:Nat→Bool):Nat→Nat
 | 0=>0
 | n+1=>cnt sel n+if sel n then 0 else 1
theorem zJl {sel:Nat→Bool} {i:Nat} (hi:sel i=false) : ∀ {n:Nat},cnt (qAk sel i) n+(if i<n then 1 else 0)=cnt sel n
 | 0=>by simp[cnt]
 | n+1=>by
  have ih:=zJl hi (n:=n)
  simp only[cnt]
  by_cases hn:n=i
  ·subst hn
   simp[qAk,hi] at ih ⊢
   omega
  ·have e:qAk sel i n=sel n:=by simp[qAk,hn]
   rw[e]
   by_cases hlt:i<n
   ·have:i<n+1:=by omega
    simp only[hlt,this,if_true] at ih ⊢;omega
   ·have : ¬ i<n+1:=by omega
    simp only[hlt,this,if_false] at ih ⊢;omega
theorem zEr {sel:Nat→Bool} : ∀ {n:Nat},cnt sel n=0 → ∀ i,i<n→sel i=true
 | 0,_,i,h=>by omega
 | n+1,h,i,hi=>by
  simp only[cnt] at h
  by_cases hn:i=n
  ·subst hn
   cases hs:sel i
   ·rw[hs] at h;simp at h
   ·rfl
  ·exact zEr (n:=n) (by omega) i (by omega)
theorem qQi {P:Program} {nt:Nat} {ops:Array Oper} : ∀ {aos:List jA} {i:Nat},zGd P nt ops i aos→ops.size=i+aos.length ∧ ∀ j ao,aos[j]?=some ao → ∃ o keep,ops[i+j]?=some o∧zYw P nt ops keep o=some ao
 | [],i,h=>⟨h,by intro j ao hj;simp at hj⟩
 | x::r,i,h=>by
  obtain⟨⟨o,keep,h1,h2⟩,h3⟩:=h
  obtain⟨g1,g2⟩:=qQi h3
  refine⟨by rw[g1,List.length_cons];omega,fun j ao hj=>?_⟩
  cases j with
  | zero=>simp at hj;subst hj;exact⟨o,keep,h1,h2⟩
  | succ j=>
   simp at hj
   rw[show i+(j+1)=i+1+j by omega]
   exact g2 j ao hj
theorem qRq {α:Type} {l:List α} {i:Nat} {d x:α} (h:l[i]?=some x):l.getD i d=x:=by simp[List.getD,h]
theorem zVc {tab:Tab} (ht:qD3 cx.P cx.gl tab) {ops:Array Oper} {Qx:Exit→Act→World→Prop} {aos:List jA} {anc:List Nat} {nb:Nat} {fm':Nat→Option V} {hm':Nat→Option Ob} {tr:List (V×Wr×List Nat)}
  (hag:zGd cx.P cx.nt ops 0 aos) (hlex:Lex tab cx.gl aos nb fm hm tr fm' hm') (hedge:zJ2 anc ops.toList=true) (hslot:zMw anc aos=true)
  (hw : ∀ i j,i<j→j<ops.size→(anc.getD j 0).testBit i=true∨apartW (wQ (trW tr i),trL tr i) (wQ (trW tr j),trL tr j)=true)
  (hQ : ∀ β' F' a' w',Rel cx β' F' fm' hm' a' w'→Qx .normal a' w') :
  ∀ (fuel:Nat) (listed:Array Bool) (sel:Nat→Bool) (β:Nat→Option BI) (F:Nat→Prop) (a:Act) (w:World),listed.size=ops.size→(∀ i,i<ops.size→listed.getD i true=sel i∧listed.getD i false=sel i)→cnt sel ops.size=fuel→
   (∀ i o,sel i=true→ops[i]?=some o → ∀ e∈o.after,Region.binds .any e=true→sel e.on=true)→Rel cx β F (SF (aoD aos) (trV tr) sel fm ops.size) (SH (trW tr) sel hm ops.size) a w→wpAny cx.P .any ops Qx fuel listed a w:=by
 obtain⟨hidx,hfm',hhm'⟩:=hlex.index
 obtain⟨hsize,hget⟩:=qQi hag
 simp only[Nat.zero_add] at hsize hget
 have hE1 : ∀ i o,ops[i]?=some o → ∀ e∈o.after,Region.binds .any e=true→e.on<i:=by
  intro i o ho e he hb
  have hi:i<ops.toList.length:=by simpa using (Array.getElem?_eq_some_iff.1 ho).1
  have h1:=List.all_eq_true.1 hedge i (by simpa using hi)
  rw[Bool.and_eq_true] at h1
  rw[qRq (x:=o) (by simpa using ho)] at h1
  have:=List.all_eq_true.1 h1.1 e (by simpa using he)
  simpa [hb] using this
 have hE2 : ∀ i o x,ops[i]?=some o→(anc.getD i 0).testBit x=true → ∃ e∈o.after,Region.binds .any e=true∧(x=e.on∨(anc.getD e.on 0).testBit x=true):=by
  intro i o x ho hx
  have hi:i<ops.toList.length:=by simpa using (Array.getElem?_eq_some_iff.1 ho).1
  have h1:=List.all_eq_true.1 hedge i (by simpa using hi)
  rw[Bool.and_eq_true] at h1
  rw[qRq (x:=o) (by simpa using ho)] at h1
  have:=eq_of_beq h1.2
  rw[this] at hx
  obtain⟨e,h2,h3,h4⟩:=qQk hx
  exact⟨e,by simpa using h2,h3,h4⟩
 have hclosed : ∀ (sel:Nat→Bool),(∀ i o,sel i=true→ops[i]?=some o → ∀ e∈o.after,Region.binds .any e=true→sel e.on=true) → ∀ i,i<ops.size→sel i=true → ∀ x,(anc.getD i 0).testBit x=true→sel x=true:=by
  intro sel hc i
  induction i using Nat.strongRecOn with
  | _ i ih=>
   intro hi hs x hx
   obtain⟨e,h1,h2,h3⟩:=hE2 i ops[i] x (by simp[hi]) hx
   have hlt:=hE1 i ops[i] (by simp[hi]) e h1 h2
   have hse:=hc i ops[i] hs (by simp[hi]) e h1 h2
   rcases h3 with rfl | h3
   ·exact hse
   ·exact ih e.on hlt (by omega) hse x h3
 have hS : ∀ i j,i<j→j<ops.size→(anc.getD j 0).testBit i=true∨apartS (aos.getD i default) (aos.getD j default)=true:=by
  intro i j hij hj
  have h1:=List.all_eq_true.1 hslot j (by simp;omega)
  have h2:=List.all_eq_true.1 h1 i (by simpa using hij)
  simpa using h2
 have apart : ∀ i j,i<ops.size→j<ops.size→i≠j→(anc.getD j 0).testBit i=false→(anc.getD i 0).testBit j=false→
   (∀ t,aoD aos j=some t→t ∉ (aos.getD i default).slots∧aoD aos i≠some t)∧(∀ id,id∈wQ (trW tr j)→id ∉ trL tr i∧id ∉ wQ (trW tr i)):=by
  intro i j hi hj hne h1 h2
  rcases Nat.lt_or_gt_of_ne hne with hlt | hlt
  ·have a1:apartS (aos.getD i default) (aos.getD j default)=true:=by
    rcases hS i j hlt hj with h | h
    ·rw[h1] at h;cases h
    ·exact h
   have a2:apartW (wQ (trW tr i),trL tr i) (wQ (trW tr j),trL tr j)=true:=by
    rcases hw i j hlt hj with h | h
    ·rw[h1] at h;cases h
    ·exact h
   simp only[apartW,Bool.and_eq_true] at a2
   refine⟨fun t ht=>?_,fun id hid=>⟨fun h=>qLs a2.2 id h hid,fun h=>qLs a2.1.1 id h hid⟩⟩
   unfold apartS at a1
   rw[Bool.and_eq_true] at a1
   unfold aoD at ht ⊢
   rw[ht] at a1
   refine⟨by simpa using a1.2,fun h=>?_⟩
   rw[h] at a1
   simp at a1
  ·have a1:apartS (aos.getD j default) (aos.getD i default)=true:=by
    rcases hS j i hlt hi with h | h
    ·rw[h2] at h;cases h
    ·exact h
   have a2:apartW (wQ (trW tr j),trL tr j) (wQ (trW tr i),trL tr i)=true:=by
    rcases hw j i hlt hi with h | h
    ·rw[h2] at h;cases h
    ·exact h
   simp only[apartW,Bool.and_eq_true] at a2
   refine⟨fun t ht=>?_,fun id hid=>⟨fun h=>qLs a2.1.2 id hid h,fun h=>qLs a2.1.1 id hid h⟩⟩
   unfold apartS at a1
   rw[Bool.and_eq_true] at a1
   unfold aoD at ht ⊢
   rw[ht] at a1
   simp only[Bool.and_eq_true,Bool.not_eq_true',bne_iff_ne,ne_eq] at a1
   exact⟨by simpa using a1.1.1,a1.1.2⟩
 have hall : ∀ (listed:Array Bool) (sel:Nat→Bool),listed.size=ops.size→(∀ i,i<ops.size→listed.getD i true=sel i∧listed.getD i false=sel i)→Region.ready .any ops listed=[] → ∀ i,i<ops.size→sel i=true:=by
  intro listed sel hls hl hr i
  induction i using Nat.strongRecOn with
  | _ i ih=>
   intro hi
   cases hs:sel i with
   | true=>rfl
   | false=>
    have:i∈Region.ready .any ops listed:=mem_ready.2 ⟨by rw[(hl i hi).1];exact hs,ops[i],by simp[hi],fun e he hb=>by
     have hlt:=hE1 i ops[i] (by simp[hi]) e he hb
     rw[(hl e.on (by omega)).2]
     exact ih e.on hlt (by omega)⟩
    rw[hr] at this;cases this
 have hdone : ∀ (sel:Nat→Bool) (β:Nat→Option BI) (F:Nat→Prop) (a:Act) (w:World),(∀ i,i<ops.size→sel i=true)→Rel cx β F (SF (aoD aos) (trV tr) sel fm ops.size) (SH (trW tr) sel hm ops.size) a w→Qx .normal a w:=by
  intro sel β F a w hs R
  refine hQ β F a w ?_
  have e1:SF (aoD aos) (trV tr) sel fm ops.size=fm':=by
   rw[hfm',←hsize]
   funext t
   exact qVe (fun j hj _=>hs j hj)
  have e2:SH (trW tr) sel hm ops.size=hm':=by
   rw[hhm',←hsize]
   funext t
   exact qVg (fun j hj _=>hs j hj)
  rw[e1,e2] at R
  exact R
 intro fuel
 induction fuel with
 | zero=>
  intro listed sel β F a w hls hl hc hcl R
  have hs:=zEr hc
  refine⟨?_,hdone sel β F a w hs R⟩
  refine List.eq_nil_iff_forall_not_mem.2 (fun i hi=>?_)
  obtain⟨h1,o,ho,_⟩:=mem_ready.1 hi
  have hi':=(Array.getElem?_eq_some_iff.1 ho).1
  rw[(hl i hi').1,hs i hi'] at h1
  cases h1
 | succ fuel ih=>
  intro listed sel β F a w hls hl hc hcl R
  refine⟨fun hr=>hdone sel β F a w (hall listed sel hls hl hr) R,fun i hi=>?_⟩
  obtain⟨h1,o,ho,hwait⟩:=mem_ready.1 hi
  have hi':=(Array.getElem?_eq_some_iff.1 ho).1
  have hsi:sel i=false:=by rw[←(hl i hi').1];exact h1
  have hafter : ∀ e∈o.after,Region.binds .any e=true→sel e.on=true:=fun e he hb=>by
   have hlt:=hE1 i o ho e he hb
   rw[←(hl e.on (by omega)).2]
   exact hwait e he hb
  have hanc : ∀ x,(anc.getD i 0).testBit x=true→sel x=true:=by
   intro x hx
   obtain⟨e,g1,g2,g3⟩:=hE2 i o x ho hx
   have hlt:=hE1 i o ho e g1 g2
   have hse:=hafter e g1 g2
   rcases g3 with rfl | g3
   ·exact hse
   ·exact hclosed sel hcl e.on (by omega) hse x g3
  have hil:i<aos.length:=by omega
  obtain⟨o',keep,ho',hk⟩:=hget i aos[i] (by simp[hil])
  rw[ho] at ho';cases ho'
  have hao:aos.getD i default=aos[i]:=qRq (by simp[hil])
  have hun : ∀ j,j<ops.size→(sel j=true∧i<j∨sel j=false∧j<i)→(∀ t,aoD aos j=some t→t ∉ (aos.getD i default).slots∧aoD aos i≠some t)∧(∀ id,id∈wQ (trW tr j)→id ∉ trL tr i∧id ∉ wQ (trW tr i)):=by
   intro j hj hcase
   rcases hcase with⟨hs,hlt⟩ | ⟨hs,hlt⟩
   ·refine apart i j hi' hj (by omega) ?_ ?_
    ·cases hb:(anc.getD j 0).testBit i with
     | false=>rfl
     | true=>have:=hclosed sel hcl j hj hs i hb;rw[hsi] at this;cases this
    ·cases hb:(anc.getD i 0).testBit j with
     | false=>rfl
     | true=>
      exfalso
      have : ∀ k,k<ops.size → ∀ x,(anc.getD k 0).testBit x=true→x<k:=by
       intro k
       induction k using Nat.strongRecOn with
       | _ k ihk=>
        intro hk x hx
        obtain⟨e,g1,g2,g3⟩:=hE2 k ops[k] x (by simp[hk]) hx
        have hlt:=hE1 k ops[k] (by simp[hk]) e g1 g2
        rcases g3 with rfl | g3
        ·exact hlt
        ·have:=ihk e.on hlt (by omega) x g3;omega
      have:=this i hi' j hb
      omega
   ·refine apart i j hi' hj (by omega) ?_ ?_
    ·cases hb:(anc.getD j 0).testBit i with
     | false=>rfl
     | true=>
      exfalso
      have : ∀ k,k<ops.size → ∀ x,(anc.getD k 0).testBit x=true→x<k:=by
       intro k
       induction k using Nat.strongRecOn with
       | _ k ihk=>
        intro hk x hx
        obtain⟨e,g1,g2,g3⟩:=hE2 k ops[k] x (by simp[hk]) hx
        have hlt:=hE1 k ops[k] (by simp[hk]) e g1 g2
        rcases g3 with rfl | g3
        ·exact hlt
        ·have:=ihk e.on hlt (by omega) x g3;omega
      have:=this j hj i hb
      omega
    ·cases hb:(anc.getD i 0).testBit j with
     | false=>rfl
     | true=>have:=hanc j hb;rw[hs] at this;cases this
  have hslotsEq : ∀ t∈aos[i].slots,SF (aoD aos) (trV tr) (fun _=>true) fm i t=SF (aoD aos) (trV tr) sel fm ops.size t:=by
   intro t htm
   rw[←hao] at htm
   rw[zSc (n:=ops.size) (i:=i) (by omega) (fun j h2 h3 hD=>by
    cases hs:sel j with
    | false=>rfl
    | true=>
     have hne:j≠i:=fun e=>by rw[e] at hs;rw[hsi] at hs;cases hs
     exact absurd htm ((hun j h3 (.inl ⟨hs,by omega⟩)).1 t hD).1)]
   refine qVe (fun j hj hD=>?_)
   cases hs:sel j with
   | true=>rfl
   | false=>exact absurd htm ((hun j (by omega) (.inr ⟨hs,hj⟩)).1 t hD).1
  have hheapEq : ∀ id∈trL tr i,SH (trW tr) sel hm ops.size id=SH (trW tr) (fun _=>true) hm i id:=by
   intro id hid
   rw[zSe (n:=ops.size) (i:=i) (by omega) (fun j h2 h3 hD=>by
    cases hs:sel j with
    | false=>rfl
    | true=>
     have hne:j≠i:=fun e=>by rw[e] at hs;rw[hsi] at hs;cases hs
     exact absurd hid ((hun j h3 (.inl ⟨hs,by omega⟩)).2 id hD).1)]
   refine qVg (fun j hj hD=>?_)
   cases hs:sel j with
   | true=>rfl
   | false=>exact absurd hid ((hun j (by omega) (.inr ⟨hs,hj⟩)).2 id hD).1
  have hq:=hidx i aos[i] (by simp[hil])
  rw[zV7 hslotsEq] at hq
  have hq':=Q.run_local _ hq hheapEq
  refine qVc R ht ho hk hq' (fun β' F' a' w' R'=>?_)
  refine ih (listed.setIfInBounds i true) (qAk sel i) β' F' a' w' (by simpa using hls) (fun j hj=>?_) ?_ (fun j oj hs hoj e he hb=>?_) ?_
  ·by_cases hji:j=i
   ·subst hji
    simp[qAk,hls,hi']
   ·have h2:=hl j hj
    rw[getD_set_ne true (fun e=>hji e.symm),getD_set_ne false (fun e=>hji e.symm)]
    simpa [qAk,hji] using h2
  ·have:=zJl hsi (n:=ops.size)
   rw[if_pos hi'] at this
   omega
  ·by_cases hji:j=i
   ·subst hji
    rw[ho] at hoj;cases hoj
    have hlt:=hE1 j o ho e he hb
    have hse:=hafter e he hb
    simp only[qAk]
    split
    ·rfl
    ·exact hse
   ·have hsj:sel j=true:=by simpa [qAk,hji] using hs
    have:=hcl j oj hsj hoj e he hb
    simp only[qAk]
    split
    ·rfl
    ·exact this
  ·have e1:SF (aoD aos) (trV tr) (qAk sel i) fm ops.size=qTl (SF (aoD aos) (trV tr) sel fm ops.size) aos[i].dst (trV tr i):=by
    rw[zSb hsi (fun j hij hj hs t hD hD'=>((hun j hj (.inl ⟨hs,hij⟩)).1 t hD').2 hD),if_pos hi']
    unfold aoD
    rw[hao]
   have e2:SH (trW tr) (qAk sel i) hm ops.size=upd (SH (trW tr) sel hm ops.size) (trW tr i):=by
    rw[zSd hsi (fun j hij hj hs id hD hD'=>((hun j hj (.inl ⟨hs,hij⟩)).2 id hD').2 hD),if_pos hi']
   rw[e1,e2]
   exact R'
end Go.Eng
end
section
namespace Go.Eng
def jT {α:Type}:List (Nat×α)→Nat→Option α
 | [],_=>none
 | (k,v)::r,t=>if k=t then some v else jT r t
def jC2 {α:Type}:List (Nat×α)→Nat→α→List (Nat×α)
 | [],k,v=>[(k,v)]
 | (k',v')::r,k,v=>if k'=k then (k,v)::r else (k',v')::jC2 r k v
def zTr (fs:List (Nat×V)):Option Nat→V→List (Nat×V)
 | some d,v=>(d,v)::fs
 | none,_=>fs
theorem zLa {fs:List (Nat×V)} {d:Option Nat} {v:V}:jT (zTr fs d v)=qTl (jT fs) d v:=by
 funext t
 cases d with
 | none=>simp[zTr,qTl]
 | some d=>
  simp only[zTr,jT,qTl,Option.some.injEq]
def qX1:List (Nat×Ob)→Wr→List (Nat×Ob)
 | hs,[]=>hs
 | hs,(i,o)::r=>qX1 ((i,o)::hs) r
theorem qL3 : ∀ {W:Wr} {hs:List (Nat×Ob)},jT (qX1 hs W)=upd (jT hs) W
 | [],_=>rfl
 | (i,o)::r,hs=>by
  simp only[qX1,upd]
  rw[qL3]
  congr 1
  funext j
  rw[jT]
  by_cases h:i=j
  ·simp[h]
  ·simp[h,Ne.symm h]
def Q.wp {α:Type} (hs:List (Nat×Ob)) (q:Q α) (K:α→List Nat→Prop):Prop := ∃ x l,q.run (jT hs)=some (x,l)∧K x l
section
variable {α γ:Type} {hs:List (Nat×Ob)} {K:α→List Nat→Prop}
def zIj {α:Type} (hs:List (Nat×Ob)) (o:Option Ob) (id:Nat) (k:Ob→Q α) (K:α→List Nat→Prop):Prop:=
 match o with
 | some o=>(k o).wp hs (fun x l=>K x (id::l))
 | none=>False
def qVb {α:Type} (hs:List (Nat×Ob)) (o:Option Ob) (id:Nat) (k:Q α) (K:α→List Nat→Prop):Prop:=
 match o with
 | some _=>False
 | none=>k.wp hs (fun x l=>K x (id::l))
def zAx {α γ:Type} (hs:List (Nat×Ob)) (o:Option γ) (f:γ→Q α) (K:α→List Nat→Prop):Prop:=
 match o with
 | some x=>(f x).wp hs K
 | none=>False
theorem Q.wp_ret {x:α}:(Q.ret x).wp hs K=K x []:=by
 apply propext
 constructor
 ·rintro⟨y,l,h,hK⟩
  obtain⟨rfl,rfl⟩:=qC h
  exact hK
 ·exact fun h=>⟨x,[],rfl,h⟩
theorem Q.wp_fail:(Q.fail:Q α).wp hs K=False:=by
 apply propext
 constructor
 ·rintro⟨y,l,h,hK⟩;cases h
 ·exact fun h=>h.elim
theorem Q.wp_get {id:Nat} {k:Ob→Q α}:(Q.get id k).wp hs K=zIj hs (jT hs id) id k K:=by
 apply propext
 constructor
 ·rintro⟨y,l,h,hK⟩
  obtain⟨o,l',h1,h2,rfl⟩:=vO h
  rw[h1]
  exact⟨y,l',h2,hK⟩
 ·intro h
  cases ho:jT hs id with
  | none=>rw[ho] at h;exact h.elim
  | some o=>
   rw[ho] at h
   obtain⟨y,l,h1,h2⟩:=h
   exact⟨y,id::l,by simp[Q.run,ho,h1],h2⟩
theorem Q.wp_free {id:Nat} {k:Q α}:(Q.free id k).wp hs K=qVb hs (jT hs id) id k K:=by
 apply propext
 constructor
 ·rintro⟨y,l,h,hK⟩
  obtain⟨h1,l',h2,rfl⟩:=xI h
  rw[h1]
  exact⟨y,l',h2,hK⟩
 ·intro h
  cases ho:jT hs id with
  | some o=>rw[ho] at h;exact h.elim
  | none=>
   rw[ho] at h
   obtain⟨y,l,h1,h2⟩:=h
   exact⟨y,id::l,by simp[Q.run,ho,h1],h2⟩
theorem Q.wp_assert {b:Prop} [Decidable b] {q:Q α}:(Q.assert b q).wp hs K=(b∧q.wp hs K):=by
 apply propext
 constructor
 ·rintro⟨y,l,h,hK⟩
  obtain⟨h1,h2⟩:=qO h
  exact⟨h1,y,l,h2,hK⟩
 ·rintro⟨h1,y,l,h,hK⟩
  exact⟨y,l,by unfold Q.assert;rw[if_pos h1];exact h,hK⟩
theorem Q.wp_ite {b:Prop} [Decidable b] {p q:Q α}:(if b then p else q).wp hs K=((b→p.wp hs K)∧(¬ b→q.wp hs K)):=by
 by_cases h:b<;>simp[h]
theorem Q.wp_of_bind {o:Option γ} {f:γ→Q α}:((Q.of o).bind f).wp hs K=zAx hs o f K:=by
 cases o with
 | none=>exact Q.wp_fail
 | some x=>rfl
theorem Q.wp_bind {q:Q γ} {f:γ→Q α}:(q.bind f).wp hs K=q.wp hs (fun x l=>(f x).wp hs (fun y l'=>K y (l++l'))):=by
 apply propext
 constructor
 ·rintro⟨y,l,h,hK⟩
  obtain⟨x,l1,l2,h1,h2,rfl⟩:=zB h
  exact⟨x,l1,h1,y,l2,h2,hK⟩
 ·rintro⟨x,l1,h1,y,l2,h2,hK⟩
  exact⟨y,l1++l2,by rw[Q.run_bind,h1];simp[h2],hK⟩
theorem zIk {id:Nat} {k:Ob→Q α}:zIj hs none id k K=False:=rfl
theorem zD9 {o:Ob} {id:Nat} {k:Q α}:qVb hs (some o) id k K=False:=rfl
theorem qS5 {x:γ} {f:γ→Q α}:zAx hs (some x) f K=(f x).wp hs K:=rfl
theorem zNi {f:γ→Q α}:zAx hs none f K=False:=rfl
theorem zR4 {b:Prop} [Decidable b] {o:Option γ} {f:γ→Q α}:zAx hs (if b then o else none) f K=(b∧zAx hs o f K):=by
 by_cases h:b<;>simp[h,zAx]
theorem zNg {b:Prop} [Decidable b] {o:Option γ} {f:γ→Q α}:zAx hs (if b then none else o) f K=(¬ b∧zAx hs o f K):=by
 by_cases h:b<;>simp[h,zAx]
@[congr] theorem Q.wp_congr {q q':Q α} (h:q=q'):q.wp hs K=q'.wp hs K:=by rw[h]
@[congr] theorem zYd {o o':Option Ob} {id:Nat} {k:Ob→Q α} (h:o=o'):zIj hs o id k K=zIj hs o' id k K:=by rw[h]
@[congr] theorem zTy {o o':Option Ob} {id:Nat} {k:Q α} (h:o=o'):qVb hs o id k K=qVb hs o' id k K:=by rw[h]
@[congr] theorem zYo {o o':Option γ} {f:γ→Q α} (h:o=o'):zAx hs o f K=zAx hs o' f K:=by rw[h]
end
inductive AE where
 | normal
 | exit (id:Nat)
 | ret
 deriving DecidableEq
def AE.ex:AE→Exit
 | .normal=> .normal
 | .exit id=> .exit id
 | .ret=> .ret
inductive AC where
 | skip
 | ret
 | exit (id:Nat)
 | seq (a b:AC)
 | cond (c:qE8) (a b:AC)
 | condb (c:qE8) (a b:AC)
 | block (id:Nat) (a:AC)
 | loop (a:AC)
 | reg (nb:Nat) (anc:Option (List Nat)) (ops:List jA)
 deriving Inhabited
abbrev Fs:=List (Nat×V)
abbrev Hs:=List (Nat×Ob)
abbrev qD2:=AE→Fs→Hs→Prop
def zIs (tab:Tab) (gl:Gl):List jA→Nat→Fs→Hs→List (List Nat×List Nat)→(Fs→Hs→List (List Nat×List Nat)→Prop)→Prop
 | [],_,fs,hs,acc,K=>K fs hs acc
 | o::r,nb,fs,hs,acc,K=>(o.q tab gl (jT fs) nb).wp hs (fun p l=>zIs tab gl r (nb+16) (zTr fs o.dst p.1) (qX1 hs p.2) (acc++[(wQ p.2,l)]) K)
def qJ5 (v:Option V) (A B:Prop):Prop:=
 match v with
 | some (.t (.bool b))=>(b=true→A)∧(b=false→B)
 | _=>False
def qO3 (v:Option V) (A B:Prop):Prop:=
 match v with
 | some .bq=>A∧B
 | v=>qJ5 v A B
@[congr] theorem zUh {v v':Option V} {A B:Prop} (h:v=v'):qJ5 v A B=qJ5 v' A B:=by rw[h]
theorem zGo {A B:Prop}:qJ5 (some (.t (.bool true))) A B=A:=by simp[qJ5]
@[congr] theorem zUf {v v':Option V} {A B:Prop} (h:v=v'):qO3 v A B=qO3 v' A B:=by rw[h]
theorem zOi {A B:Prop}:qO3 (some .bq) A B=(A∧B):=by simp[qO3]
theorem zUg {x:T} {A B:Prop}:qO3 (some (.t x)) A B=qJ5 (some (.t x)) A B:=by simp[qO3]
theorem zBs {A B:Prop}:qJ5 (some (.t (.bool false))) A B=B:=by simp[qJ5]
def qI (fs:Fs) (hs:Hs) (fs':Fs) (hs':Hs):Prop:=
 ∀ (cx:Cx) (β:Nat→Option BI) (F:Nat→Prop) (a:Act) (w:World),Rel cx β F (jT fs) (jT hs) a w → ∃ β' F',Rel cx β' F' (jT fs') (jT hs') a w
theorem qI.refl {fs:Fs} {hs:Hs}:qI fs hs fs hs:=fun _ β F _ _ R=>⟨β,F,R⟩
theorem qI.trans {fs fs' fs'':Fs} {hs hs' hs'':Hs} (h:qI fs hs fs' hs') (h':qI fs' hs' fs'' hs''):qI fs hs fs'' hs'':=fun cx β F a w R=>
 let ⟨β',F',R'⟩:=h cx β F a w R
 h' cx β' F' a w R'
def zNu (B:Fs→Hs→qD2→Prop) (fs:Fs) (hs:Hs) (Qx:qD2):Prop:=
 ∃ (ι:Type) (I:ι→Fs×Hs) (μ:ι→Nat) (i0:ι),qI fs hs (I i0).1 (I i0).2∧
  ∀ i,B (I i).1 (I i).2 (fun e fs' hs'=>match e with | .normal => ∃ j,μ j<μ i∧qI fs' hs' (I j).1 (I j).2 | e=>Qx e fs' hs')
@[congr] theorem zTz {B:Fs→Hs→qD2→Prop} {fs:Fs} {hs:Hs} {Qx:qD2}:zNu B fs hs Qx=zNu B fs hs Qx:=rfl
def jKl (tab:Tab) (gl:Gl) (nb:Nat) (anc:Option (List Nat)) (ops:List jA) (fs:Fs) (hs:Hs) (Qx:qD2):Prop:=
 zIs tab gl ops nb fs hs [] (fun fs' hs' acc=>(match anc with | none=>True | some l=>chk l acc=true)∧Qx .normal fs' hs')
def AC.wp (tab:Tab) (gl:Gl):AC→Fs→Hs→qD2→Prop
 | .skip,fs,hs,Qx=>Qx .normal fs hs
 | .ret,fs,hs,Qx=>Qx .ret fs hs
 | .exit id,fs,hs,Qx=>Qx (.exit id) fs hs
 | .seq a b,fs,hs,Qx=>a.wp tab gl fs hs (fun e fs' hs'=>match e with | .normal=>b.wp tab gl fs' hs' Qx | e=>Qx e fs' hs')
 | .cond c a b,fs,hs,Qx=>qJ5 (c.val gl (jT fs)) (a.wp tab gl fs hs Qx) (b.wp tab gl fs hs Qx)
 | .condb c a b,fs,hs,Qx=>qO3 (c.val gl (jT fs)) (a.wp tab gl fs hs Qx) (b.wp tab gl fs hs Qx)
 | .block id a,fs,hs,Qx=>a.wp tab gl fs hs (fun e fs' hs'=>match e with | .exit id'=>(if id'=id then Qx .normal fs' hs' else Qx (.exit id') fs' hs') | e=>Qx e fs' hs')
 | .loop a,fs,hs,Qx=>zNu (fun fs hs K=>a.wp tab gl fs hs K) fs hs Qx
 | .reg nb anc ops,fs,hs,Qx=>jKl tab gl nb anc ops fs hs Qx
@[congr] theorem AC.wp_congr {tab:Tab} {gl:Gl} {c:AC} {fs fs':Fs} {hs hs':Hs} {Qx:qD2} (h1:fs=fs') (h2:hs=hs'):c.wp tab gl fs hs Qx=c.wp tab gl fs' hs' Qx:=by rw[h1,h2]
@[congr] theorem zYn {tab:Tab} {gl:Gl} {os:List jA} {nb nb':Nat} {fs fs':Fs} {hs hs':Hs} {acc:List (List Nat×List Nat)} {K:Fs→Hs→List (List Nat×List Nat)→Prop} (h0:nb=nb') (h1:fs=fs') (h2:hs=hs') :
  zIs tab gl os nb fs hs acc K=zIs tab gl os nb' fs' hs' acc K:=by rw[h0,h1,h2]
def zN5 (P:Program) (nt:Nat) (ops:Array Oper) (keeps:List Nat):Nat→List Oper→Option (List jA)
 | _,[]=>some []
 | i,o::r=>(zYw P nt ops (keeps.contains i) o).bind fun x=>(zN5 P nt ops keeps (i+1) r).map (x :: ·)
def zVa (hints:List (Nat×List Nat)) (id:Nat):List Nat:=(jT hints id).getD []
def ann (P:Program) (nt:Nat) (hints:List (Nat×List Nat)):Code→Option AC
 | .skip=>some .skip
 | .label _=>some .skip
 | .ret=>some .ret
 | .exit id=>some (.exit id)
 | .seq a b=>(ann P nt hints a).bind fun x=>(ann P nt hints b).map fun y=> .seq x y
 | .cond c a b=>(zP6 c).bind fun o=>(ann P nt hints a).bind fun x=>(ann P nt hints b).map fun y=>match jT hints 900000 with | some _=> .condb o x y | none=> .cond o x y
 | .block id a=>(ann P nt hints a).map fun x=> .block id x
 | .loop a=>(ann P nt hints a).map fun x=> .loop x
 | .region id ops draw=>(zN5 P nt ops (zVa hints id) 0 ops.toList).bind fun aos=>
  if draw then (if zJ2 (jCu ops.toList []) ops.toList&&zMw (jCu ops.toList []) aos then some (.reg (4096*(id+1)) (some (jCu ops.toList [])) aos) else none)
  else some (.reg (4096*(id+1)) none aos)
 | _=>none
theorem qQm {P:Program} {nt:Nat} {ops:Array Oper} {keeps:List Nat} : ∀ {l:List Oper} {i:Nat} {aos:List jA},zN5 P nt ops keeps i l=some aos→l=ops.toList.drop i→i≤ops.size→zGd P nt ops i aos
 | [],i,aos,h,hl,hi=>by
  cases h
  have:=congrArg List.length hl
  simp at this
  simp only[zGd];omega
 | o::r,i,aos,h,hl,hi=>by
  simp only[zN5,Option.bind_eq_some_iff,Option.map_eq_some_iff] at h
  obtain⟨x,hx,xs,hxs,rfl⟩:=h
  have hlt:i<ops.size:=by
   have:=congrArg List.length hl
   simp at this
   omega
  have h0:ops.toList.drop i=ops.toList[i]'(by simpa using hlt)::ops.toList.drop (i+1):=List.drop_eq_getElem_cons (by simpa using hlt)
  rw[h0] at hl
  simp only[List.cons.injEq] at hl
  refine⟨⟨o,keeps.contains i,?_,hx⟩,qQm hxs hl.2 hlt⟩
  rw[hl.1];simp[hlt]
variable {β:Nat→Option BI} {F:Nat→Prop} {w:World} {cx:Cx} {a:Act}
theorem qWx {tab:Tab} {gl:Gl} : ∀ {aos:List jA} {nb:Nat} {fs:Fs} {hs:Hs} {acc:List (List Nat×List Nat)} {K:Fs→Hs→List (List Nat×List Nat)→Prop},zIs tab gl aos nb fs hs acc K→
  ∃ tr fs' hs',Lex tab gl aos nb (jT fs) (jT hs) tr (jT fs') (jT hs')∧tr.length=aos.length∧K fs' hs' (acc++tr.map fun p=>(wQ p.2.1,p.2.2))
 | [],nb,fs,hs,acc,K,h=>⟨[],fs,hs,.nil,rfl,by simpa [zIs] using h⟩
 | o::r,nb,fs,hs,acc,K,h=>by
  obtain⟨⟨v,W⟩,l,hq,h⟩:=h
  obtain⟨tr,fs',hs',h1,h2,h3⟩:=qWx h
  refine⟨(v,W,l)::tr,fs',hs',.cons hq (by rw[←zLa,←qL3];exact h1),by simp[h2],?_⟩
  simpa using h3
theorem zOg {anc:List Nat} {tr:List (V×Wr×List Nat)} (h:chk anc (tr.map fun p=>(wQ p.2.1,p.2.2))=true) : ∀ i j,i<j→j<tr.length→(anc.getD j 0).testBit i=true∨apartW (wQ (trW tr i),trL tr i) (wQ (trW tr j),trL tr j)=true:=by
 intro i j hij hj
 have h1:=List.all_eq_true.1 h j (by simpa using hj)
 have h2:=List.all_eq_true.1 h1 i (by simpa using hij)
 rw[Bool.or_eq_true] at h2
 rcases h2 with h2 | h2
 ·exact .inl h2
 ·refine .inr ?_
  have e : ∀ k,k<tr.length→(tr.map fun p=>(wQ p.2.1,p.2.2)).getD k ([],[])=(wQ (trW tr k),trL tr k):=by
   intro k hk
   simp[trW,trL,List.getD,hk]
  rw[e i (by omega),e j hj] at h2
  exact h2
theorem qXt {P:Program} {Qx:Exit→Act→World→Prop} {a:Act} {w:World} {c:Code} {ι:Type} (I:ι→Act→World→Prop) (μ:ι→Nat) (i0:ι) (h₀:I i0 a w)
  (round : ∀ i a w,I i a w→c.wp P (Exit.then (fun a' w' => ∃ j,μ j<μ i∧I j a' w') Qx) a w):(Code.loop c).wp P Qx a w:=by
 intro b k cs
 have key : ∀ n i a w,μ i=n→I i a w → ∃ e a' w',Qx e a' w'∧Arrives P (lone (b.at a (.code c :: .inLoop c::k)) cs w) b k cs e a' w':=by
  intro n
  induction n using Nat.strongRecOn with
  | _ n ih=>
   intro i a w hn hI
   obtain⟨e,a₁,w₁,hq,harr⟩:=round i a w hI b (.inLoop c::k) cs
   cases e with
   | normal=>
    obtain⟨j,hlt,hI₁⟩:=hq
    obtain⟨e₂,a₂,w₂,hq₂,harr₂⟩:=ih (μ j) (hn▸hlt) j a₁ w₁ rfl hI₁
    exact⟨e₂,a₂,w₂,hq₂,.of_steps (Steps.trans harr (.one step_inLoop)) harr₂⟩
   | exit id=>exact⟨_,a₁,w₁,hq,.pass (x:= .inLoop c) rfl (fun _ _=> .inl (by simp)) harr⟩
   | goto l=>exact⟨_,a₁,w₁,hq,.pass (x:= .inLoop c) rfl (fun _ _=> .inl (by simp)) harr⟩
   | ret=>exact⟨_,a₁,w₁,hq,.pass (x:= .inLoop c) rfl (fun _ _=> .inl (by simp)) harr⟩
   | panic ch=>exact⟨_,a₁,w₁,hq,.pass (x:= .inLoop c) rfl (fun _ _=> .inl (by simp)) harr⟩
   | outgrown=>exact⟨_,a₁,w₁,hq,.pass (x:= .inLoop c) rfl (fun _ _=> .inl (by simp)) harr⟩
 obtain⟨e,a',w',hq,harr⟩:=key _ i0 a w rfl h₀
 exact⟨e,a',w',hq,.of_steps (.one step_loop) harr⟩
theorem AC.sound {tab:Tab} (ht:qD3 cx.P cx.gl tab) (hmx:cx.P.follows .mixedOrders=true) {hints:List (Nat×List Nat)} : ∀ {c:Code} {ac:AC},ann cx.P cx.nt hints c=some ac→
  ∀ {fs:Fs} {hs:Hs} {Qa:qD2} {Qx:Exit→Act→World→Prop} {β:Nat→Option BI} {F:Nat→Prop} {a:Act} {w:World},ac.wp tab cx.gl fs hs Qa→Rel cx β F (jT fs) (jT hs) a w→
   (∀ e fs' hs' β' F' a' w',Qa e fs' hs'→Rel cx β' F' (jT fs') (jT hs') a' w'→Qx e.ex a' w')→c.wp cx.P Qx a w:=by
 intro c
 induction c with
 | skip=>intro ac h fs hs Qa Qx β F a w hw R hQ;cases h;exact wp_skip (hQ .normal _ _ _ _ _ _ hw R)
 | label l=>intro ac h fs hs Qa Qx β F a w hw R hQ;cases h;exact wp_label (hQ .normal _ _ _ _ _ _ hw R)
 | ret=>intro ac h fs hs Qa Qx β F a w hw R hQ;cases h;exact wp_ret (hQ .ret _ _ _ _ _ _ hw R)
 | exit id=>intro ac h fs hs Qa Qx β F a w hw R hQ;cases h;exact wp_exit (hQ (.exit id) _ _ _ _ _ _ hw R)
 | seq x y ihx ihy=>
  intro ac h fs hs Qa Qx β F a w hw R hQ
  simp only[ann,Option.bind_eq_some_iff,Option.map_eq_some_iff] at h
  obtain⟨cx',hx,cy,hy,rfl⟩:=h
  refine wp_seq (ihx hx hw R (fun e fs' hs' β' F' a' w' hq R'=>?_))
  cases e with
  | normal=>exact ihy hy hq R' hQ
  | exit id=>exact hQ (.exit id) _ _ _ _ _ _ hq R'
  | ret=>exact hQ .ret _ _ _ _ _ _ hq R'
 | cond o x y ihx ihy=>
  intro ac h fs hs Qa Qx β F a w hw R hQ
  simp only[ann,Option.bind_eq_some_iff,Option.map_eq_some_iff] at h
  obtain⟨o',ho,cx',hx,cy,hy,h⟩:=h
  have key : ∀ {Qa:qD2},qJ5 (o'.val cx.gl (jT fs)) (cx'.wp tab cx.gl fs hs Qa) (cy.wp tab cx.gl fs hs Qa)→(∀ e fs' hs' β' F' a' w',Qa e fs' hs'→Rel cx β' F' (jT fs') (jT hs') a' w'→Qx e.ex a' w')→(Code.cond o x y).wp cx.P Qx a w:=by
   intro Qa hw hQ
   simp only[qJ5] at hw
   split at hw
   ·rename_i v b hv
    have:=qRx R ho hv
    refine wp_cond_split (this.bool_inv) (fun e=>ihx hx (hw.1 e) R hQ) (fun e=>ihy hy (hw.2 e) R hQ)
   ·exact hw.elim
  cases hm:jT hints 900000 with
  | none=>
   rw[hm] at h
   subst h
   exact key hw hQ
  | some l=>
   rw[hm] at h
   subst h
   simp only[AC.wp,qO3] at hw
   split at hw
   ·rename_i v hv
    have:=qRx R ho hv
    generalize he:a.eval o=y0 at this
    cases this with
    | bq b=>exact wp_cond_split he (fun _=>ihx hx hw.1 R hQ) (fun _=>ihy hy hw.2 R hQ)
   ·exact key hw hQ
 | block id x ih=>
  intro ac h fs hs Qa Qx β F a w hw R hQ
  simp only[ann,Option.map_eq_some_iff] at h
  obtain⟨x',hx,rfl⟩:=h
  refine wp_block (ih hx hw R (fun e fs' hs' β' F' a' w' hq R'=>?_))
  cases e with
  | normal=>exact hQ .normal _ _ _ _ _ _ hq R'
  | exit id'=>
   simp only[AE.ex,Exit.inBlock]
   simp only at hq
   split
   ·rename_i h1;rw[if_pos h1] at hq;exact hQ .normal _ _ _ _ _ _ hq R'
   ·rename_i h1;rw[if_neg h1] at hq;exact hQ (.exit id') _ _ _ _ _ _ hq R'
  | ret=>exact hQ .ret _ _ _ _ _ _ hq R'
 | loop x ih=>
  intro ac h fs hs Qa Qx β F a w hw R hQ
  simp only[ann,Option.map_eq_some_iff] at h
  obtain⟨x',hx,rfl⟩:=h
  obtain⟨ι,I,μ,i0,h0,hr⟩:=hw
  refine qXt (fun i a w => ∃ β F,Rel cx β F (jT (I i).1) (jT (I i).2) a w) μ i0 (h0 cx β F a w R) (fun i a w ⟨β1,F1,R1⟩=>?_)
  refine ih hx (hr i) R1 (fun e fs' hs' β' F' a' w' hq R'=>?_)
  cases e with
  | normal=>
   obtain⟨j,h1,h2⟩:=hq
   exact⟨j,h1,h2 cx β' F' a' w' R'⟩
  | exit id=>exact hQ (.exit id) _ _ _ _ _ _ hq R'
  | ret=>exact hQ .ret _ _ _ _ _ _ hq R'
 | region id ops draw=>
  intro ac h fs hs Qa Qx β F a w hw R hQ
  simp only[ann,Option.bind_eq_some_iff] at h
  obtain⟨aos,haos,h⟩:=h
  have hag:=qQm haos rfl (Nat.zero_le _)
  cases draw with
  | false=>
   simp only[Bool.false_eq_true,if_false] at h
   cases h
   obtain⟨tr,fs',hs',h1,h2,_,h3⟩:=qWx hw
   exact wp_region (zK7 ht hag h1 R (fun β' F' a' w' R'=>hQ .normal _ _ _ _ _ _ h3 R') _ rfl)
  | true=>
   simp only[if_true] at h
   split at h
   ·rename_i hb
    cases h
    rw[Bool.and_eq_true] at hb
    obtain⟨tr,fs',hs',h1,h2,h4,h3⟩:=qWx hw
    simp only[List.nil_append] at h4
    have hsz:ops.size=aos.length:=by
     have:=(qQi hag).1
     omega
    refine wp_region_any hmx ?_
    refine zVc ht hag h1 hb.1 hb.2 (fun i j hij hj=>zOg h4 i j hij (by omega)) (fun β' F' a' w' R'=>hQ .normal _ _ _ _ _ _ h3 R') ops.size _ (fun _=>false) β F a _ (by simp) (fun i hi=>by simp[hi]) ?_ (fun i o h=>by cases h) ?_
    ·have : ∀ n,cnt (fun _=>false) n=n:=by
      intro n
      induction n with
      | zero=>rfl
      | succ n ih=>simp[cnt,ih]
     exact this _
    ·have e1 : ∀ n,SF (aoD aos) (trV tr) (fun _=>false) (jT fs) n=jT fs:=by
      intro n
      induction n with
      | zero=>rfl
      | succ n ih=>simp[SF,ih]
     have e2 : ∀ n,SH (trW tr) (fun _=>false) (jT hs) n=jT hs:=by
      intro n
      induction n with
      | zero=>rfl
      | succ n ih=>simp[SH,ih]
     rw[e1,e2]
     exact R.drew
   ·cases h
 | rangeFunc f ps x y _ _=>intro ac h;cases h
 | scope x _=>intro ac h;cases h
 | goto l=>intro ac h;cases h
 | refuse s=>intro ac h;cases h
end Go.Eng
end
section
namespace Go.Eng
theorem qM5 {hm:Nat→Option Ob} : ∀ {n:Nat} {todo ids:List Nat} {obs:List Ob} {fz ids':List Nat} {obs':List Ob} {fz' l:List Nat},(qB2 n todo ids obs fz).run hm=some ((ids',obs',fz'),l) → ∃ s,ids'=ids++s
 | n,[],ids,obs,fz,ids',obs',fz',l,h=>by
  have h':(Q.ret (ids,obs,fz):Q _).run hm=some ((ids',obs',fz'),l):=by cases n<;>exact h
  obtain⟨e,_⟩:=qC h'
  cases e
  exact⟨[],by simp⟩
 | 0,_::_,ids,obs,fz,ids',obs',fz',l,h=>by cases h
 | n+1,id::todo,ids,obs,fz,ids',obs',fz',l,h=>by
  simp only[qB2] at h
  split at h
  ·exact qM5 h
  ·obtain⟨o,l',ho,hs2,_⟩:=vO h
   cases o with
   | dead=>cases hs2
   | live z es wr full=>
    cases wr with
    | false=>cases hs2
    | true=>
     obtain⟨p,l1,l2,hp,hs3,_⟩:=zB hs2
     obtain⟨s,hs⟩:=qM5 hs3
     exact⟨id::s,by rw[hs];simp⟩
theorem qOr {hm:Nat→Option Ob} : ∀ {m n s:Nat} {rest:List Nat} {obs:List Ob} {fz ids':List Nat} {obs':List Ob} {fz' l:List Nat},(qB2 n (List.range' s m++rest) (List.range s) obs fz).run hm=some ((ids',obs',fz'),l) → ∃ t,ids'=List.range (s+m)++t
 | 0,n,s,rest,obs,fz,ids',obs',fz',l,h=>by
  obtain⟨t,ht⟩:=qM5 h
  exact⟨t,ht⟩
 | m+1,n,s,rest,obs,fz,ids',obs',fz',l,h=>by
  cases n with
  | zero=>rw[List.range'_succ] at h;cases h
  | succ n=>
   rw[List.range'_succ,List.cons_append] at h
   simp only[qB2] at h
   split at h
   ·rename_i hc
    simp at hc
   ·obtain⟨o,l',ho,hs2,_⟩:=vO h
    cases o with
    | dead=>cases hs2
    | live z es wr full=>
     cases wr with
     | false=>cases hs2
     | true=>
      obtain⟨p,l1,l2,hp,hs3,_⟩:=zB hs2
      rw[←List.range_succ,List.append_assoc] at hs3
      obtain⟨t,ht⟩:=qOr hs3
      exact⟨t,by rw[ht];congr 2;omega⟩
def zTm:List V→V
 | [x]=>x
 | xs=> .tup xs
def jC0 (n:Nat) (vs:List V):Q (V×List Ob):=
 (qDk (zN 4) vs).bind fun p=>(qB2 (12+n) (List.range n++qBa p.1) [] [] []).bind fun q=>
  Q.assert ((q.1.all fun i => !(p.2++q.2.2).contains i)=true) ((qV0 (p.2++q.2.2)).bind fun _=> .ret (zTm (qFs (fun r=>q.1.idxOf r) p.1),q.2.1.map (Ob.ren fun r=>q.1.idxOf r)))
def rsQ (fs:Fs):List (Nat×Option (Nat×Bool))→Q (List V)
 | []=> .ret []
 | (t,none)::r=>(Q.of (jT fs t)).bind fun v=>(rsQ fs r).bind fun vs=> .ret (v::vs)
 | (t,some (n,agg))::r=>(Q.of (jT fs t)).bind fun v=>(qNf n agg [v]).bind fun p=>(rsQ fs r).bind fun vs=> .ret (p.1::vs)
def zZ (rs:List (Nat×Option (Nat×Bool))) (n:Nat) (R:V→List Ob→Prop):qD2:=fun e fs hs=>
 match e with
 | .exit _=>False
 | _=>((rsQ fs rs).bind fun vs=>jC0 n vs).wp hs (fun p _=>R p.1 p.2)
def qE {α:Type}:Nat→List α→List (Nat×α)
 | _,[]=>[]
 | i,x::r=>(i,x)::qE (i+1) r
theorem qDo {α:Type} : ∀ {l:List α} {i t:Nat},jT (qE i l) t=if i≤t then l[t-i]? else none
 | [],i,t=>by simp[qE,jT]
 | x::r,i,t=>by
  simp only[qE,jT]
  by_cases h:i=t
  ·subst h;simp
  ·rw[if_neg h,qDo]
   by_cases h1:i≤t
   ·have h2:i+1≤t:=by omega
    rw[if_pos h1,if_pos h2,show t-i=(t-(i+1))+1 by omega]
    simp
   ·have h2 : ¬ i+1≤t:=by omega
    rw[if_neg h1,if_neg h2]
def qZp (vs:List Value):Value:=match vs with
 | [x]=>x
 | xs=> .tuple xs.toArray
def qNd (P:Program):List ResultVar→Option (List (Nat×Option (Nat×Bool)))
 | []=>some []
 | .tmp t::r=>(qNd P r).map fun l=>(t,none)::l
 | .cell a t::r=>match P.info? t,P.underlying t with
  | some i,some d=>if vX d∨i.size=1 then (qNd P r).map fun l=>(a,some (i.size,vX d))::l else none
  | _,_=>none
def zTl (tmps:Array Value):ResultVar→Sem Value
 | .tmp t=>pure (tmps.getD t undef)
 | .cell a t=>do loadVar t (←asAddr (tmps.getD a undef))
theorem qPz {cx:Cx} {β:Nat→Option BI} {F:Nat→Prop} {fs:Fs} {hs:Hs} {a:Act} {w:World} (R:Rel cx β F (jT fs) (jT hs) a w) : ∀ {rv:List ResultVar} {rs:List (Nat×Option (Nat×Bool))} {vs:List V} {l:List Nat},qNd cx.P rv=some rs→(rsQ fs rs).run (jT hs)=some (vs,l)→
  ∃ xs,(rv.mapM (zTl a.tmps)).run cx.P w = .ok xs w∧qAl (qU β F w) vs xs
 | [],rs,vs,l,h,hq=>by
  cases h
  obtain⟨rfl,_⟩:=qC hq
  exact⟨[],by simp,.nil⟩
 | .tmp t::r,rs,vs,l,h,hq=>by
  simp only[qNd,Option.map_eq_some_iff] at h
  obtain⟨rs',hrs,rfl⟩:=h
  simp only[rsQ] at hq
  obtain⟨v,hv,hq⟩:=qH hq
  obtain⟨us,l1,l2,hu,hq,_⟩:=zB hq
  obtain⟨rfl,_⟩:=qC hq
  obtain⟨x,h1,h2⟩:=R.fr t v hv
  obtain⟨xs,h3,h4⟩:=qPz R hrs hu
  refine⟨x::xs,?_,.cons h2 h4⟩
  rw[List.mapM_cons,Sem.run_bind]
  have e:(zTl a.tmps (.tmp t)).run cx.P w = .ok x w:=by simp[zTl,h1]
  rw[e,Result.andThen]
  simp only[Sem.run_bind,h3,Result.andThen]
  simp
 | .cell t ty::r,rs,vs,l,h,hq=>by
  simp only[qNd] at h
  split at h
  ·rename_i i d hi hd
   split at h
   ·rename_i hcond
    simp only[Option.map_eq_some_iff] at h
    obtain⟨rs',hrs,rfl⟩:=h
    simp only[rsQ] at hq
    obtain⟨v,hv,hq⟩:=qH hq
    obtain⟨⟨u,W⟩,l0,l3,hl,hq,_⟩:=zB hq
    obtain⟨us,l1,l2,hu,hq,_⟩:=zB hq
    obtain⟨rfl,_⟩:=qC hq
    obtain⟨x,h1,h2⟩:=R.fr t v hv
    obtain⟨xs,h3,h4⟩:=qPz R hrs hu
    have hx:a.eval (.tmp t)=x:=by simp[Act.eval,h1]
    have han:qMz cx.P ty (.tmp t)=some (.load i.size (vX d),[.tmp t]):=by simp[qMz,hi,hd,hcond]
    obtain⟨_,y,h5,h6⟩:=zL8 (nb:=0) R han (vs:=[v]) (.cons (by rw[hx];exact h2) .nil) (by simpa [sem] using hl)
    rw[hx] at h5
    have hptr : ∃ ad,x = .pointer (some ad):=by
     cases v<;>simp only[qNf] at hl<;>(try (cases hl;done))
     ·cases h2;exact⟨_,rfl⟩
     ·cases h2;exact⟨_,rfl⟩
    obtain⟨ad,rfl⟩:=hptr
    refine⟨y::xs,?_,.cons h6 h4⟩
    rw[List.mapM_cons,Sem.run_bind]
    have e:(zTl a.tmps (.cell t ty)).run cx.P w = .ok y w:=by
     have e0:a.tmps.getD t undef = .pointer (some ad):=by simp[h1]
     rw[←h5]
     simp only[zTl,e0,Instr.loadAt,Instr.sureAddr,asAddr]
    rw[e,Result.andThen]
    simp only[Sem.run_bind,h3,Result.andThen]
    simp
   ·cases h
  ·cases h
theorem qSd {P:Program} {fn:Func} {tmps:Array Value} {w:World} {xs:List Value} (h:(fn.results.toList.mapM (zTl tmps)).run P w = .ok xs w):(results fn tmps).run P w = .ok (qZp xs) w:=by
 have e:results fn tmps=(do
   let vs ←fn.results.mapM (zTl tmps)
   pure (if h:vs.size=1 then vs[0] else .tuple vs)):=by
  unfold results
  congr 1
 rw[e,Array.mapM_eq_mapM_toList,Sem.run_bind]
 have k2:(Functor.map List.toArray (fn.results.toList.mapM (zTl tmps))).run P w = .ok xs.toArray w:=by
  rw[map_eq_pure_bind,Sem.run_bind,h,Result.andThen]
  simp
 rw[k2,Result.andThen]
 cases xs with
 | nil=>simp[qZp]
 | cons t r=>cases r with
  | nil=>simp[qZp]
  | cons t2 r=>simp[qZp]
theorem qZq {β:Nat→Option BI} {F:Nat→Prop} {w:World} {vs:List V} {us:List Value} (h:qAl (qU β F w) vs us):qU β F w (zTm vs) (qZp us):=by
 have tup:qU β F w (.tup vs) (.tuple us.toArray):=by
  refine .tup vs _ (by simpa using h.length.symm) (fun i c u hc hu=>?_)
  obtain⟨y,h1,h2⟩:=h.get' i c hc
  have:us[i]?=some u:=by simpa using hu
  rw[this] at h1;cases h1
  exact h2
 cases h with
 | nil=>exact tup
 | cons h1 t=>cases t with
  | nil=>exact h1
  | cons h2 t=>exact tup
theorem zMy {P:Program} {G:Gl} {tab:Tab} {f:FuncId} {fn:Func} {c:Code} {ac:AC} {hints:List (Nat×List Nat)} {rs:List (Nat×Option (Nat×Bool))} (hf:P.funcs[f]?=some fn) (hb:fn.body=some c) (hann:ann P fn.ntmps hints c=some ac) (hmx:P.follows .mixedOrders=true)
  (ht:qD3 P G tab) (hrs:qNd P fn.results.toList=some rs) {as:List V} {ins:List Ob} {r:V} {outs:List Ob} (hn:as.length≤fn.ntmps) (hi:ins.length≤100)
  (h:ac.wp tab G (qE 0 as) (qE 0 ins) (zZ rs ins.length (fun r' outs'=>r'=r∧outs'=outs))):qX2 P G f as ins r outs:=by
 intro w β F vals env fits hargs
 have hd0 : ∀ k bi,β k=some bi→k<100:=by
  intro k bi h
  rcases Nat.lt_or_ge k ins.length with h1 | h1
  ·omega
  ·rw[fits.dom k h1] at h;cases h
 let cx:Cx := { P,w0:=w,F0:=F,inb:=fun b => ∃ k bi,β k=some bi∧bi.blk=some b,nt:=fn.ntmps,gl:=G,β0:=β,d0:=hd0 }
 have hlen:as.length=vals.size:=by simpa using hargs.length
 have lookAs : ∀ t v,jT (qE 0 as) t=some v→as[t]?=some v:=by
  intro t v h;simpa [qDo] using h
 have lookIns : ∀ t v,jT (qE 0 ins) t=some v→ins[t]?=some v:=by
  intro t v h;simpa [qDo] using h
 have R0:Rel cx β F (jT (qE 0 as)) (jT (qE 0 ins)) { tmps:=vals++Array.replicate (fn.ntmps-vals.size) undef,defers:=[] } w:=by
  refine⟨by simp[cx];omega,rfl,fun t v hv=>?_,fun id o ho=>?_,fun id hn=>?_,fun i j bi bj b oi oj h1 h2 h3 h4 _ _ _ _=>fits.inj i j bi bj b h1 h2 h3 h4,rfl,rfl,rfl,Nat.le_refl _,fun _ _ _=>rfl,fun id z es full bi b h1 h2 h3=> .inr ⟨?_,id,bi,h2,h3⟩,fun b hb=>?_,fun b hb=>?_,env.Fw,fun _ _=>Iff.rfl,fun id bi b h1 h2=>(fits.blt id bi b h1 h2).1,fun g cs hg=>?_,fun _ _ h=>h,env.gs⟩
  ·obtain⟨x,h1,h2⟩:=hargs.get' t v (lookAs t v hv)
   refine⟨x,?_,h2⟩
   have hlt:t<vals.size:=by
    have:=(List.getElem?_eq_some_iff.1 (lookAs t v hv)).1
    omega
   rw[Array.getElem?_append_left hlt]
   simpa using h1
  ·obtain⟨bi,h1,h2,_⟩:=fits.ok id o (lookIns id o ho)
   exact⟨bi,h1,h2⟩
  ·refine fits.dom id ?_
   rcases Nat.lt_or_ge id ins.length with h1 | h1
   ·rw[qDo] at hn
    simp[h1] at hn
   ·exact h1
  ·have:=(List.getElem?_eq_some_iff.1 (lookIns id _ h1)).1
   omega
  ·obtain⟨k,bi,h1,h2⟩:=hb
   exact (fits.blt k bi b h1 h2).2
  ·obtain⟨k,bi,h1,h2⟩:=hb
   exact (fits.blt k bi b h1 h2).1
  ·exact (env.gl g cs hg).mono (fun _ _ h=>by cases h) (fun _ h=>h) (fun _ _=>rfl)
 refine calls_of_wp hf hb (AC.sound (cx:=cx) ht hmx hann h R0 (fun e fs hs βR FR a w' hq R=>?_))
 have fin:((rsQ fs rs).bind fun vs=>jC0 ins.length vs).wp hs (fun p _=>p.1=r∧p.2=outs)→a.defers=[] ∧ ∃ v,(results fn a.tmps).run P w' = .ok v w' ∧ ∃ x β' F',Ending.returned v = .returned x∧qPm w β F ins r outs x β' F' w':=by
  intro hq
  rw[Q.wp_bind] at hq
  obtain⟨vs,l0,hvs,⟨r',outs'⟩,l,hrun,e1,e2⟩:=hq
  obtain⟨xs,hxs,hall⟩:=qPz (cx:=cx) R hrs hvs
  refine⟨R.dfr,_,qSd hxs,?_⟩
  ·simp only at e1 e2
   subst e1 e2
   unfold jC0 at hrun
   obtain⟨p,l1,l2,hp,hrun,_⟩:=zB hrun
   obtain⟨q,l3,l4,hqq,hrun,_⟩:=zB hrun
   obtain⟨hdis,hrun⟩:=qO hrun
   obtain⟨fw,l5,l6,hfw,hrun,_⟩:=zB hrun
   obtain⟨e,_⟩:=qC hrun
   simp only[Prod.mk.injEq] at e
   obtain⟨rfl,rfl⟩:=e
   obtain⟨ids,obs,fzq⟩:=q
   obtain⟨t,htt⟩:=qOr (s:=0) (m:=ins.length) (n:=12+ins.length) (rest:=qBa p.1) (by simpa [List.range_eq_range'] using hqq)
   have hidk : ∀ k,k<ins.length→ids[k]?=some k:=by
    intro k hk
    rw[htt,List.getElem?_append_left (by simpa using hk)]
    simp[hk]
   obtain⟨F1,R1,hFF,hnd,hlo,hfwl,hlive,fits',hres⟩:=zFu R hp hqq (fun r h=>by simp[h]) hdis hfw hall
   have hβk : ∀ k bi,β k=some bi→βR k=some bi:=R1.ext0
   have hklt : ∀ k bi,β k=some bi→k<ins.length:=by
    intro k bi h
    rcases Nat.lt_or_ge k ins.length with h1 | h1
    ·exact h1
    ·rw[fits.dom k h1] at h;cases h
   refine⟨_,qJu ids βR,F1,rfl,fits',qZq hres,fun k hk=>?_,fun k bi b hk h1 h2=>?_,fun b hb=>R1.F0 b hb,R1.Fw,R1.os,R1.tape,R1.output,R1.size,fun b hb hk=>R1.ext b hb (fun ⟨k,bi,h1,h2⟩=>hk k bi h1 h2)⟩
   ·obtain⟨bi,h1,_⟩:=fits.ok k ins[k] (by simp[hk])
    simp[qJu,hidk k hk,hβk k bi h1,h1]
   ·unfold qJu at h1
    rw[Option.bind_eq_some_iff] at h1
    obtain⟨id,hid,h1⟩:=h1
    obtain⟨z,es,full,_,hl⟩:=hlive k id hid
    rcases R1.old id z es full bi b hl h1 h2 with h | ⟨_,k0,bi0,g1,g2⟩
    ·exact h
    ·exfalso
     have hk0:=hklt k0 bi0 g1
     obtain⟨z0,es0,full0,_,hl0⟩:=hlive k0 k0 (hidk k0 hk0)
     have e:=R1.inj id k0 bi bi0 b _ _ h1 (hβk k0 bi0 g1) h2 g2 hl hl0 (by simp) (by simp)
     subst e
     have hi1:k<ids.length:=(List.getElem?_eq_some_iff.1 hid).1
     have hi2:id<ids.length:=(List.getElem?_eq_some_iff.1 (hidk id hk0)).1
     have:=qDs hnd hi1 hi2 (by
      have a1:=hid
      have a2:=hidk id hk0
      rw[List.getElem?_eq_getElem hi1] at a1
      rw[List.getElem?_eq_getElem hi2] at a2
      rw[Option.some.inj a1,Option.some.inj a2])
     omega
 cases e with
 | normal=>exact fin hq
 | ret=>exact fin hq
 | exit id=>exact hq.elim
end Go.Eng
end
section
namespace Go.Eng
variable {tab:Tab} {gl:Gl} {fs:Fs} {hs:Hs} {Qx:qD2}
theorem jCm:AC.skip.wp tab gl fs hs Qx=Qx .normal fs hs:=Eq.trans (Eq.refl _) rfl
theorem jGv:AC.ret.wp tab gl fs hs Qx=Qx .ret fs hs:=Eq.trans (Eq.refl _) rfl
theorem jCk {id:Nat}:(AC.exit id).wp tab gl fs hs Qx=Qx (.exit id) fs hs:=Eq.trans (Eq.refl _) rfl
def zMl (tab:Tab) (gl:Gl) (b:AC) (Qx:qD2):qD2:=fun e fs' hs'=>match e with | .normal=>b.wp tab gl fs' hs' Qx | e=>Qx e fs' hs'
def qFe (id:Nat) (Qx:qD2):qD2:=fun e fs' hs'=>match e with | .exit id'=>(if id'=id then Qx .normal fs' hs' else Qx (.exit id') fs' hs') | e=>Qx e fs' hs'
theorem jGw {a b:AC}:(AC.seq a b).wp tab gl fs hs Qx=a.wp tab gl fs hs (zMl tab gl b Qx):=Eq.trans (Eq.refl _) rfl
theorem zC3 {b:AC}:zMl tab gl b Qx .normal fs hs=b.wp tab gl fs hs Qx:=Eq.trans (Eq.refl _) rfl
theorem zMm {b:AC} {id:Nat}:zMl tab gl b Qx (.exit id) fs hs=Qx (.exit id) fs hs:=Eq.trans (Eq.refl _) rfl
theorem zRh {b:AC}:zMl tab gl b Qx .ret fs hs=Qx .ret fs hs:=Eq.trans (Eq.refl _) rfl
theorem zX9 {id:Nat} {a:AC}:(AC.block id a).wp tab gl fs hs Qx=a.wp tab gl fs hs (qFe id Qx):=Eq.trans (Eq.refl _) rfl
theorem qVs {id:Nat}:qFe id Qx .normal fs hs=Qx .normal fs hs:=Eq.trans (Eq.refl _) rfl
theorem zGj {id:Nat}:qFe id Qx .ret fs hs=Qx .ret fs hs:=Eq.trans (Eq.refl _) rfl
theorem zBm {id id':Nat}:qFe id Qx (.exit id') fs hs=if id'=id then Qx .normal fs hs else Qx (.exit id') fs hs:=Eq.trans (Eq.refl _) rfl
theorem jCj {c:qE8} {a b:AC}:(AC.cond c a b).wp tab gl fs hs Qx=qJ5 (c.val gl (jT fs)) (a.wp tab gl fs hs Qx) (b.wp tab gl fs hs Qx):=Eq.trans (Eq.refl _) rfl
theorem zYa {c:qE8} {a b:AC}:(AC.condb c a b).wp tab gl fs hs Qx=qO3 (c.val gl (jT fs)) (a.wp tab gl fs hs Qx) (b.wp tab gl fs hs Qx):=Eq.trans (Eq.refl _) rfl
def qIv (tab:Tab) (gl:Gl) (a:AC) (fs:Fs) (hs:Hs) (Qx:qD2):Prop:=zNu (fun fs hs K=>a.wp tab gl fs hs K) fs hs Qx
theorem jCl {a:AC}:(AC.loop a).wp tab gl fs hs Qx=qIv tab gl a fs hs Qx:=Eq.trans (Eq.refl _) rfl
@[congr] theorem zVi {a:AC} {fs':Fs} {hs':Hs} (h1:fs=fs') (h2:hs=hs'):qIv tab gl a fs hs Qx=qIv tab gl a fs' hs' Qx:=by rw[h1,h2]
def jAu (anc:Option (List Nat)) (Qx:qD2):Fs→Hs→List (List Nat×List Nat)→Prop:=fun fs' hs' acc=>(match anc with | none=>True | some l=>chk l acc=true)∧Qx .normal fs' hs'
theorem zLx {acc:List (List Nat×List Nat)}:jAu none Qx fs hs acc=Qx .normal fs hs:=by simp[jAu]
theorem zLy {l:List Nat} {acc:List (List Nat×List Nat)}:jAu (some l) Qx fs hs acc=(chk l acc=true∧Qx .normal fs hs):=Eq.trans (Eq.refl _) rfl
def opK (tab:Tab) (gl:Gl) (r:List jA) (nb:Nat) (fs:Fs) (d:Option Nat) (hs:Hs) (acc:List (List Nat×List Nat)) (K:Fs→Hs→List (List Nat×List Nat)→Prop):V×Wr→List Nat→Prop:=
 fun p l=>zIs tab gl r nb (zTr fs d p.1) (qX1 hs p.2) (acc++[(wQ p.2,l)]) K
theorem zVv {r:List jA} {nb:Nat} {d:Option Nat} {acc:List (List Nat×List Nat)} {K:Fs→Hs→List (List Nat×List Nat)→Prop} {v:V} {W:Wr} {l:List Nat} :
  opK tab gl r nb fs d hs acc K (v,W) l=zIs tab gl r nb (zTr fs d v) (qX1 hs W) (acc++[(wQ W,l)]) K:=Eq.trans (Eq.refl _) rfl
def jDu {α:Type} (id:Nat) (K:α→List Nat→Prop):α→List Nat→Prop:=fun x l=>K x (id::l)
theorem zPj {α:Type} {id:Nat} {K:α→List Nat→Prop} {x:α} {l:List Nat}:jDu id K x l=K x (id::l):=Eq.trans (Eq.refl _) rfl
def jDb {α:Type} (l:List Nat) (K:α→List Nat→Prop):α→List Nat→Prop:=fun x l'=>K x (l++l')
theorem zN6 {α:Type} {l l':List Nat} {K:α→List Nat→Prop} {x:α}:jDb l K x l'=K x (l++l'):=Eq.trans (Eq.refl _) rfl
def jDf {α γ:Type} (hs:Hs) (f:γ→Q α) (K:α→List Nat→Prop):γ→List Nat→Prop:=fun x l=>(f x).wp hs (jDb l K)
theorem zI9 {α γ:Type} {f:γ→Q α} {K:α→List Nat→Prop} {x:γ} {l:List Nat}:jDf hs f K x l=(f x).wp hs (jDb l K):=Eq.trans (Eq.refl _) rfl
theorem zEa {α:Type} {o:Ob} {id:Nat} {k:Ob→Q α} {K:α→List Nat→Prop}:zIj hs (some o) id k K=(k o).wp hs (jDu id K):=Eq.trans (Eq.refl _) rfl
theorem zAw {α:Type} {id:Nat} {k:Q α} {K:α→List Nat→Prop}:qVb hs none id k K=k.wp hs (jDu id K):=Eq.trans (Eq.refl _) rfl
theorem jGu {nb:Nat} {anc:Option (List Nat)} {o:jA} {os:List jA}:(AC.reg nb anc (o::os)).wp tab gl fs hs Qx =
  (o.q tab gl (jT fs) nb).wp hs (opK tab gl os (nb+16) fs o.dst hs [] (jAu anc Qx)):=Eq.trans (Eq.refl _) rfl
theorem zNf {nb:Nat} {anc:Option (List Nat)}:(AC.reg nb anc []).wp tab gl fs hs Qx=jAu anc Qx fs hs []:=Eq.trans (Eq.refl _) rfl
theorem zR2 {nb:Nat} {acc:List (List Nat×List Nat)} {K:Fs→Hs→List (List Nat×List Nat)→Prop}:zIs tab gl [] nb fs hs acc K=K fs hs acc:=Eq.trans (Eq.refl _) rfl
theorem zNa {o:jA} {r:List jA} {nb:Nat} {acc:List (List Nat×List Nat)} {K:Fs→Hs→List (List Nat×List Nat)→Prop} :
  zIs tab gl (o::r) nb fs hs acc K=(o.q tab gl (jT fs) nb).wp hs (opK tab gl r (nb+16) fs o.dst hs acc K):=Eq.trans (Eq.refl _) rfl
theorem zK3:wQ []=[]:=Eq.trans (Eq.refl _) rfl
theorem zG2 {p:Nat×Ob} {r:Wr}:wQ (p::r)=p.1::wQ r:=Eq.trans (Eq.refl _) rfl
theorem zPk {α:Type} {t:Nat}:jT ([]:List (Nat×α)) t=none:=Eq.trans (Eq.refl _) rfl
theorem zK9 {α:Type} {k t:Nat} {v:α} {r:List (Nat×α)}:jT ((k,v)::r) t=if k=t then some v else jT r t:=Eq.trans (Eq.refl _) rfl
theorem zRj {α:Type} {k:Nat} {v:α}:jC2 [] k v=[(k,v)]:=Eq.trans (Eq.refl _) rfl
theorem zMn {α:Type} {k k':Nat} {v v':α} {r:List (Nat×α)}:jC2 ((k',v')::r) k v=if k'=k then (k,v)::r else (k',v')::jC2 r k v:=Eq.trans (Eq.refl _) rfl
theorem zMp {d:Nat} {v:V}:zTr fs (some d) v=(d,v)::fs:=Eq.trans (Eq.refl _) rfl
theorem zMo {v:V}:zTr fs none v=fs:=Eq.trans (Eq.refl _) rfl
theorem zRw:qX1 hs []=hs:=Eq.trans (Eq.refl _) rfl
theorem zM4 {i:Nat} {o:Ob} {r:Wr}:qX1 hs ((i,o)::r)=qX1 ((i,o)::hs) r:=Eq.trans (Eq.refl _) rfl
theorem zR9 {α:Type} {i:Nat}:qE i ([]:List α)=[]:=Eq.trans (Eq.refl _) rfl
theorem zNm {α:Type} {i:Nat} {x:α} {r:List α}:qE i (x::r)=(i,x)::qE (i+1) r:=Eq.trans (Eq.refl _) rfl
variable {K:V×Wr→List Nat→Prop} {nb:Nat} {fm:Nat→Option V}
theorem zV9 {d:Option Nat} {k:AK} {xs:List qE8}:((⟨d,k,xs,none⟩:jA).q tab gl fm nb).wp hs K=zAx hs (qBe gl fm xs) (fun vs=>k.q tab nb vs) K:=by
 simp only[jA.q,qE4,Q.wp_of_bind,qS5,if_true,jA.go]
def qUz (g:Option Bool) (A B:Prop):Prop:=
 match g with
 | some true=>A
 | some false=>B
 | none=>False
@[congr] theorem zSx {g g':Option Bool} {A B:Prop} (h:g=g'):qUz g A B=qUz g' A B:=by rw[h]
theorem zCc {A B:Prop}:qUz (some true) A B=A:=Eq.trans (Eq.refl _) rfl
theorem qY4 {A B:Prop}:qUz (some false) A B=B:=Eq.trans (Eq.refl _) rfl
theorem zV8 {d:Option Nat} {k:AK} {xs:List qE8} {t:Nat} {b:Bool}:((⟨d,k,xs,some (t,b)⟩:jA).q tab gl fm nb).wp hs K =
  qUz (qE4 fm (some (t,b))) (zAx hs (qBe gl fm xs) (fun vs=>k.q tab nb vs) K) (K (.tup [],[]) []):=by
 simp only[jA.q,Q.wp_of_bind]
 cases h:qE4 fm (some (t,b)) with
 | none=>rfl
 | some g=>cases g<;>simp[qUz,qS5,jA.go,Q.wp_of_bind,Q.wp_ret]
theorem qY3 {t:Nat} {b:Bool}:qE4 fm (some (t,b))=match fm t with
  | some (.t (.bool c))=>some (c==b)
  | some (.tup [])=>some false
  | _=>none:=Eq.trans (Eq.refl _) rfl
theorem zR0:qBe gl fm []=some []:=Eq.trans (Eq.refl _) rfl
theorem zR1 {t:Nat} {r:List qE8}:qBe gl fm (.tmp t::r)=(fm t).bind fun v=>(qBe gl fm r).map (v :: ·):=Eq.trans (Eq.refl _) rfl
theorem zRz {v:V} {r:List qE8}:qBe gl fm (.cst v::r)=(qBe gl fm r).map (v :: ·):=Eq.trans (Eq.refl _) rfl
theorem zM8 {g:Nat} {r:List qE8}:qBe gl fm (.glob g::r)=((gl g).map V.ro).bind fun v=>(qBe gl fm r).map (v :: ·):=Eq.trans (Eq.refl _) rfl
theorem zXx {t:Nat}:(qE8.tmp t).val gl fm=fm t:=Eq.trans (Eq.refl _) rfl
theorem zXw {v:V}:(qE8.cst v).val gl fm=some v:=Eq.trans (Eq.refl _) rfl
theorem jDt {ao:AO} {vs:List V}:(AK.op ao).q tab nb vs=sem ao vs nb:=Eq.trans (Eq.refl _) rfl
theorem zVb {f:FuncId} {keep:Bool} {vs:List V}:(AK.call f keep).q tab nb vs=qTc tab f keep vs nb:=Eq.trans (Eq.refl _) rfl
theorem zPd {f:FuncId} {keep:Bool} {caps rest:List V}:(AK.callv keep).q tab nb (.fn f caps::rest)=qTc tab f keep (rest++caps) nb:=Eq.trans (Eq.refl _) rfl
theorem zPc {g id i f:Nat} {keep:Bool} {rest:List V}:(AK.callv keep).q tab nb (.bd g id i f::rest)=qTc tab g keep (.ref id i f::rest) nb:=Eq.trans (Eq.refl _) rfl
attribute [go_sem] zPc
theorem qEo {α β γ:Type} {q:Q α} {f:α→Q β} {g:β→Q γ}:(q.bind f).bind g=q.bind fun x=>(f x).bind g:=by
 induction q with
 | ret a=>rfl
 | fail=>rfl
 | get id k ih=>simp only[Q.bind,ih]
 | free id k ih=>simp only[Q.bind,ih]
theorem zEc {α γ:Type} {x:γ} {f:γ→Q α} {K:α→List Nat→Prop}:((Q.ret x).bind f).wp hs K=(f x).wp hs K:=Eq.trans (Eq.refl _) rfl
theorem zAz {α γ:Type} {f:γ→Q α} {K:α→List Nat→Prop}:((Q.fail).bind f).wp hs K=False:=Q.wp_fail
theorem zAy {α β γ:Type} {q:Q α} {f:α→Q β} {g:β→Q γ} {K:γ→List Nat→Prop}:((q.bind f).bind g).wp hs K=(q.bind fun x=>(f x).bind g).wp hs K:=by rw[qEo]
theorem zEb {α γ:Type} {id:Nat} {k:Ob→Q γ} {f:γ→Q α} {K:α→List Nat→Prop}:((Q.get id k).bind f).wp hs K=zIj hs (jT hs id) id (fun o=>(k o).bind f) K:=Q.wp_get
theorem zA0 {α γ:Type} {id:Nat} {k:Q γ} {f:γ→Q α} {K:α→List Nat→Prop}:((Q.free id k).bind f).wp hs K=qVb hs (jT hs id) id (k.bind f) K:=Q.wp_free
theorem qUi {α γ:Type} {b:Prop} [Decidable b] {q:Q γ} {f:γ→Q α} {K:α→List Nat→Prop}:((Q.assert b q).bind f).wp hs K=(b∧(q.bind f).wp hs K):=by
 rw[←Q.wp_assert]
 unfold Q.assert
 split<;>rfl
def wpA (b P:Prop):Prop:=b∧P
@[congr] theorem jCn {b b' P:Prop} (h:b=b'):wpA b P=wpA b' P:=by rw[h]
theorem zR3 {P:Prop}:wpA True P=P:=by simp[wpA]
theorem jGx {b P:Prop} (h:b):wpA b P=P:=by simp[wpA,h]
theorem zYc {a b P:Prop}:wpA (a∧b) P=wpA a (wpA b P):=by simp[wpA,and_assoc]
theorem zIm {α:Type} {b:Prop} [Decidable b] {q:Q α} {K:α→List Nat→Prop}:(Q.assert b q).wp hs K=wpA b (q.wp hs K):=Q.wp_assert
theorem qS6 {α γ:Type} {b:Prop} [Decidable b] {q:Q γ} {f:γ→Q α} {K:α→List Nat→Prop}:((Q.assert b q).bind f).wp hs K=wpA b ((q.bind f).wp hs K):=qUi
theorem zNh {α γ:Type} {b:Prop} [Decidable b] {o:Option γ} {f:γ→Q α} {K:α→List Nat→Prop}:zAx hs (if b then o else none) f K=wpA b (zAx hs o f K):=zR4
theorem zIl {α γ:Type} {b:Prop} [Decidable b] {o:Option γ} {f:γ→Q α} {K:α→List Nat→Prop}:zAx hs (if b then none else o) f K=wpA (¬ b) (zAx hs o f K):=zNg
theorem qPo {α γ:Type} {x:γ} {f:γ→Q α}:(Q.ret x).bind f=f x:=Eq.trans (Eq.refl _) rfl
theorem zXg {vs:List V}:sem .mov vs nb=zF3 vs:=Eq.trans (Eq.refl _) rfl
theorem zRg {vs:List V}:sem .smov vs nb=qWn vs:=Eq.trans (Eq.refl _) rfl
theorem zRe {vs:List V}:sem .pick vs nb=qSk vs:=Eq.trans (Eq.refl _) rfl
theorem zXc {vs:List V}:sem .box vs nb=qZu nb vs:=Eq.trans (Eq.refl _) rfl
theorem zHg {vs:List V}:sem .boxArr vs nb=qIc nb vs:=Eq.trans (Eq.refl _) rfl
theorem zXi {vs:List V}:sem .s2b vs nb=qU5 nb vs:=Eq.trans (Eq.refl _) rfl
theorem zW9 {vs:List V}:sem .b2s vs nb=zFz vs:=Eq.trans (Eq.refl _) rfl
theorem zHj {vs:List V}:sem .sindex vs nb=qFq vs:=Eq.trans (Eq.refl _) rfl
theorem zXd {vs:List V}:sem .len vs nb=qZv vs:=Eq.trans (Eq.refl _) rfl
theorem zRf {vs:List V}:sem .slen vs nb=qNg vs:=Eq.trans (Eq.refl _) rfl
theorem zHe {vs:List V}:sem .appstr vs nb=qB5 nb vs:=Eq.trans (Eq.refl _) rfl
theorem zXf {vs:List V}:sem .min vs nb=zF2 vs:=Eq.trans (Eq.refl _) rfl
theorem zXe {vs:List V}:sem .max vs nb=zF1 vs:=Eq.trans (Eq.refl _) rfl
theorem zW8 {n:Nat} {k:IntKind} {neg:Bool} {vs:List V}:sem (.aeq n k neg) vs nb=qSh n k neg vs:=Eq.trans (Eq.refl _) rfl
theorem zHi {vs:List V}:sem .nilchk vs nb=qId vs:=Eq.trans (Eq.refl _) rfl
theorem zXh {z:Nat} {es:List V} {vs:List V}:sem (.new z es) vs nb=qZw z es nb vs:=Eq.trans (Eq.refl _) rfl
theorem zMc {z:List V} {pl:List (Nat×Nat)} {vs:List V}:sem (.build z pl) vs nb=qMe z pl vs:=Eq.trans (Eq.refl _) rfl
theorem zHh {z len:Nat} {zero:V} {ix:List Nat} {vs:List V}:sem (.bslice z len zero ix) vs nb=qMd z len zero ix nb vs:=Eq.trans (Eq.refl _) rfl
theorem zRb {n:Nat} {agg:Bool} {vs:List V}:sem (.load n agg) vs nb=qNf n agg vs:=Eq.trans (Eq.refl _) rfl
theorem zMj {n:Nat} {vs:List V}:sem (.store n) vs nb=qMi n vs:=Eq.trans (Eq.refl _) rfl
theorem zXb {op:BinOp} {vs:List V}:sem (.bin op) vs nb=zF0 op vs:=Eq.trans (Eq.refl _) rfl
theorem zXa {neg:Bool} {vs:List V}:sem (.beq neg) vs nb=qZt neg vs:=Eq.trans (Eq.refl _) rfl
theorem jA9 {op:UnOp} {vs:List V}:sem (.un op) vs nb=zQ6 op vs:=Eq.trans (Eq.refl _) rfl
theorem zQ7 {k:IntKind} {vs:List V}:sem (.conv k) vs nb=qGe k vs:=Eq.trans (Eq.refl _) rfl
theorem zC2 {z by_:Nat} {zero:V} {vs:List V}:sem (.mkslice z by_ zero) vs nb=zQ5 z by_ zero nb vs:=Eq.trans (Eq.refl _) rfl
theorem zHk {lo hi mx:Bool} {vs:List V}:sem (.sslice lo hi mx) vs nb=qMh lo hi mx vs:=Eq.trans (Eq.refl _) rfl
theorem zMi {z:Nat} {lo hi mx:Bool} {vs:List V}:sem (.slice z lo hi mx) vs nb=qP5 z lo hi mx vs:=Eq.trans (Eq.refl _) rfl
theorem zHf {n z:Nat} {lo hi mx:Bool} {vs:List V}:sem (.aslice n z lo hi mx) vs nb=qMc n z lo hi mx vs:=Eq.trans (Eq.refl _) rfl
theorem zMd {off:Nat} {vs:List V}:sem (.faddr off) vs nb=qP2 off vs:=Eq.trans (Eq.refl _) rfl
theorem zMe {off n:Nat} {agg:Bool} {vs:List V}:sem (.field off n agg) vs nb=qP3 off n agg vs:=Eq.trans (Eq.refl _) rfl
theorem zMf {z:Nat} {vs:List V}:sem (.iaddr z) vs nb=qMf z vs:=Eq.trans (Eq.refl _) rfl
theorem zMb {n z:Nat} {vs:List V}:sem (.aaddr n z) vs nb=qMb n z vs:=Eq.trans (Eq.refl _) rfl
theorem zMg {n z:Nat} {agg:Bool} {vs:List V}:sem (.index n z agg) vs nb=qP4 n z agg vs:=Eq.trans (Eq.refl _) rfl
theorem zC1 {i:Nat} {vs:List V}:sem (.extract i) vs nb=qFp i vs:=Eq.trans (Eq.refl _) rfl
theorem zRa {n:Nat} {vs:List V}:sem (.lenc n) vs nb=qSj n vs:=Eq.trans (Eq.refl _) rfl
theorem zHd {z by_:Nat} {vs:List V}:sem (.append z by_) vs nb=qFo z by_ nb vs:=Eq.trans (Eq.refl _) rfl
theorem zC0 {z by_:Nat} {vs:List V}:sem (.appendt z by_) vs nb=qIs z by_ nb vs:=Eq.trans (Eq.refl _) rfl
theorem zRc {f:FuncId} {vs:List V}:sem (.mkbd f) vs nb=qWl f vs:=Eq.trans (Eq.refl _) rfl
theorem zQ9 {vs:List V}:sem .idsl vs nb=qWk vs:=Eq.trans (Eq.refl _) rfl
theorem zMh {neg:Bool} {vs:List V}:sem (.nileq neg) vs nb=qMg neg vs:=Eq.trans (Eq.refl _) rfl
attribute [go_sem] zMh qMg
attribute [go_sem] zC0 zRc zQ9
theorem zQ8 {z:Nat} {vs:List V}:sem (.copy z) vs nb=qSi z vs:=Eq.trans (Eq.refl _) rfl
theorem zRd {f:FuncId} {vs:List V}:sem (.mkfn f) vs nb=qWm f vs:=Eq.trans (Eq.refl _) rfl
theorem jBh {k:IntKind} {n:Int}:(T.int k n).cells=[T.int k n]:=Eq.trans (Eq.refl _) rfl
theorem zXn {b:Bool}:(T.bool b).cells=[T.bool b]:=Eq.trans (Eq.refl _) rfl
theorem jBi {s:ByteArray}:(T.str s).cells=[T.str s]:=Eq.trans (Eq.refl _) rfl
theorem zXo  : T.fnil.cells=[T.fnil]:=Eq.trans (Eq.refl _) rfl
theorem zXp  : T.pnil.cells=[T.pnil]:=Eq.trans (Eq.refl _) rfl
theorem jBg {cs:List T}:(T.agg cs).cells=cs:=Eq.trans (Eq.refl _) rfl
theorem jGh {cs:List T}:(T.sl cs).cells=[T.sl cs]:=Eq.trans (Eq.refl _) rfl
theorem jB4 {k:IntKind} {n:Int}:(V.t (T.int k n)).cells=[V.t (T.int k n)]:=Eq.trans (Eq.refl _) rfl
theorem zXy {b:Bool}:(V.t (T.bool b)).cells=[V.t (T.bool b)]:=Eq.trans (Eq.refl _) rfl
theorem jB7 {s:ByteArray}:(V.t (T.str s)).cells=[V.t (T.str s)]:=Eq.trans (Eq.refl _) rfl
theorem zXz  : (V.t T.fnil).cells=[V.t T.fnil]:=Eq.trans (Eq.refl _) rfl
theorem zX0  : (V.t T.pnil).cells=[V.t T.pnil]:=Eq.trans (Eq.refl _) rfl
theorem zX2 {cs:List T}:(V.t (T.agg cs)).cells=cs.map V.t:=Eq.trans (Eq.refl _) rfl
theorem jB8 {cs:List T}:(V.t (T.sl cs)).cells=[V.t (T.sl cs)]:=Eq.trans (Eq.refl _) rfl
theorem jB5  : V.nil.cells=[V.nil]:=Eq.trans (Eq.refl _) rfl
theorem jB6 {id i f:Nat}:(V.ref id i f).cells=[V.ref id i f]:=Eq.trans (Eq.refl _) rfl
theorem jGk {g id i f:Nat}:(V.bd g id i f).cells=[V.bd g id i f]:=Eq.trans (Eq.refl _) rfl
theorem jGl:V.bq.cells=[V.bq]:=Eq.trans (Eq.refl _) rfl
attribute [go_sem] jGl
attribute [go_sem] jGk
theorem jGn {cs:List T}:(V.ro cs).cells=[V.ro cs]:=Eq.trans (Eq.refl _) rfl
theorem jGo {id i f:Nat}:(V.sl id i f).cells=[V.sl id i f]:=Eq.trans (Eq.refl _) rfl
theorem jB3 {cs:List V}:(V.agg cs).cells=cs:=Eq.trans (Eq.refl _) rfl
theorem jGm {f:FuncId} {cs:List V}:(V.fn f cs).cells=[V.fn f cs]:=Eq.trans (Eq.refl _) rfl
theorem jCa {k:IntKind} {n:Int}:(V.t (T.int k n)).plain=true:=Eq.trans (Eq.refl _) rfl
theorem zX3 {b:Bool}:(V.t (T.bool b)).plain=true:=Eq.trans (Eq.refl _) rfl
theorem jCd {s:ByteArray}:(V.t (T.str s)).plain=true:=Eq.trans (Eq.refl _) rfl
theorem zX5  : (V.t T.fnil).plain=true:=Eq.trans (Eq.refl _) rfl
theorem zX6  : (V.t T.pnil).plain=true:=Eq.trans (Eq.refl _) rfl
theorem zX8 {cs:List T}:(V.t (T.agg cs)).plain=true:=Eq.trans (Eq.refl _) rfl
theorem jCe {cs:List T}:(V.t (T.sl cs)).plain=true:=Eq.trans (Eq.refl _) rfl
theorem jCb  : V.nil.plain=true:=Eq.trans (Eq.refl _) rfl
theorem jCc {id i f:Nat}:(V.ref id i f).plain=true:=Eq.trans (Eq.refl _) rfl
theorem jGp {g id i f:Nat}:(V.bd g id i f).plain=true:=Eq.trans (Eq.refl _) rfl
theorem jGq:V.bq.plain=true:=Eq.trans (Eq.refl _) rfl
attribute [go_sem] jGq
attribute [go_sem] jGp
theorem jGs {cs:List T}:(V.ro cs).plain=true:=Eq.trans (Eq.refl _) rfl
theorem jGt {id i f:Nat}:(V.sl id i f).plain=true:=Eq.trans (Eq.refl _) rfl
theorem jB9 {cs:List V}:(V.agg cs).plain=true:=Eq.trans (Eq.refl _) rfl
theorem jGr {f:FuncId} {cs:List V}:(V.fn f cs).plain=true:=Eq.trans (Eq.refl _) rfl
theorem zYy {op:BinOp} {k k':IntKind} {x y:Int}:qIi op (.int k x) (.int k' y)=qTb op k x k' y:=Eq.trans (Eq.refl _) rfl
theorem zUc {x y:ByteArray}:qIi .add (.str x) (.str y)=if x.size+y.size≤maxLen then some (.str (x++y)) else none:=Eq.trans (Eq.refl _) rfl
theorem zYz {x y:ByteArray}:qIi .eql (.str x) (.str y)=some (.bool (x.toList==y.toList)):=Eq.trans (Eq.refl _) rfl
theorem zY0 {x y:ByteArray}:qIi .neq (.str x) (.str y)=some (.bool !(x.toList==y.toList)):=Eq.trans (Eq.refl _) rfl
theorem jBq {b:Bool}:unT .not (.bool b)=some (.bool !b):=Eq.trans (Eq.refl _) rfl
theorem jBp {k:IntKind} {n:Int}:unT .neg (.int k n)=some (.int k (k.wrap (0-n))):=Eq.trans (Eq.refl _) rfl
theorem zZa {k:IntKind} {n:Int}:wA (.t (.int k n))=some n:=Eq.trans (Eq.refl _) rfl
theorem jA7 {k k':IntKind} {n:Int}:qGe k [.t (.int k' n)] = .ret (.t (.int k (k.wrap n)),[]):=Eq.trans (Eq.refl _) rfl
attribute [go_sem] jBh zXn jBi zXo zXp jBg jGh jB4 zXy jB7 zXz zX0 zX2 jB8 jB5 jB6 jGn jGo jB3 jGm jCa zX3 jCd zX5 zX6 zX8 jCe jCb jCc jGs jGt jB9 jGr zYy zUc zYz zY0 jBq jBp zZa jA7
attribute [go_sem ↓] jCm jGv jCk jGw zX9 jCl jCj zYa jGu zNf zC3 zMm zRh qVs zGj zBm zLx zLy zV9 zV8 jDt zVb zPd
 zVv zPj zN6 zI9 Q.wp_of_bind Q.wp_ret Q.wp_fail Q.wp_get Q.wp_free zIm zEc zAz zAy zEb zA0 qS6
attribute [go_sem] zOi zUg
attribute [go_sem] zR3 zYc zR2 zNa zR0 zR1 zRz zM8 zXx zXw zPk zK9 zRj zMn zMp zMo zRw zM4 zR9 zNm zK3 zG2
 qS5 zNi zNh zIl zEa zIk zD9 zAw Q.wp_ite zGo zBs zCc qY4 qY3
attribute [go_sem] Option.bind_some Option.map_some Option.bind_none Option.map_none true_and and_true List.nil_append List.cons_append List.append_nil
attribute [go_sem] zW8 qSh zXg zRg zRe zXc zHg zXi zW9 zHj zXd zRf zHe zXf zXe zHi zXh zMc zHh zRb zMj zXb zXa jA9 zQ7 zC2 zHk zMi zHf zMd zMe zMf zMb zMg zC1 zRa zHd zQ8 zRd
attribute [go_sem] zF3 qWn qSk qZw qZu qIc qMe qMd qNf qMi zF0 qZt zQ6 qU5 zFz zQ5 qMh qP5 qMc qP2 qP3 qMf qMb qP4 qFq qFp qNg qZv qSj qFo qB5 qSi zF2 zF1 qWm qWl qWk qIs qId
 qTb qO8 qDi qO1 zZ rsQ
end Go.Eng
end
section
namespace Go.Eng
mutual
def V.ids:V→List Nat
 | .ref id _ _=>[id]
 | .bd _ id _ _=>[id]
 | .sl id _ _=>[id]
 | .agg cs=>qLz cs
 | .tup cs=>qLz cs
 | .fn _ cs=>qLz cs
 | _=>[]
def qLz:List V→List Nat
 | []=>[]
 | c::r=>c.ids++qLz r
end
theorem xJ : ∀ {cs:List V} {c:V} {r:Nat},c∈cs→r∈c.ids→r∈qLz cs
 | x::cs,c,r,hc,hr=>by
  simp only[qLz,List.mem_append]
  simp only[List.mem_cons] at hc
  rcases hc with rfl | hc
  ·exact .inl hr
  ·exact .inr (xJ hc hr)
theorem zSz (ts:List T):qLz (ts.map .t)=[]:=by
 induction ts with
 | nil=>rfl
 | cons x r ih=>simp[qLz,V.ids,ih]
theorem qU.sub {β β':Nat→Option BI} {F:Nat→Prop} {w:World} {v:V} {x:Value} (h:qU β F w v x):(∀ i∈v.ids,∀ bi,β i=some bi→β' i=some bi)→qU β' F w v x:=by
 induction h with
 | t h=>intro _;exact .t h
 | nil=>intro _;exact .nil
 | ref id i f b sz room hb=>intro hs;exact .ref id i f b sz room (hs id (by simp[V.ids]) _ hb)
 | bd g id i f b sz room hb=>intro hs;exact .bd g id i f b sz room (hs id (by simp[V.ids]) _ hb)
 | bq b=>intro _;exact .bq b
 | ro cs a news ha hn h1 hF hw h=>intro _;exact .ro cs a news ha hn h1 hF hw h
 | sl id off len cap b sz room a hb hlc hr ha hs=>intro hsub;exact .sl id off len cap b sz room a (hsub id (by simp[V.ids]) _ hb) hlc hr ha hs
 | slv id sz room hb=>intro hsub;exact .slv id sz room (hsub id (by simp[V.ids]) _ hb)
 | agg cs vs hl h1 _ ih=>intro hs;exact .agg cs vs hl h1 (fun i c u hc hu=>ih i c u hc hu (fun k hk=>hs k (by simp only[V.ids];exact xJ (List.mem_of_getElem? hc) hk)))
 | tup cs vs hl _ ih=>intro hs;exact .tup cs vs hl (fun i c u hc hu=>ih i c u hc hu (fun k hk=>hs k (by simp only[V.ids];exact xJ (List.mem_of_getElem? hc) hk)))
 | fn f cs vs hl _ ih=>intro hs;exact .fn f cs vs hl (fun i c u hc hu=>ih i c u hc hu (fun k hk=>hs k (by simp only[V.ids];exact xJ (List.mem_of_getElem? hc) hk)))
def Cv (hs:Hs) (ρ:Nat→Nat) (vt ks:List Nat) (v v':V):Prop:=
 ((v=v'.ren ρ ∨ ∃ l,(zN 4 v).run (jT hs)=some ((v'.ren ρ,[]),l)) ∧ ∀ i∈v'.ids,i∈ks)∨(v = .nil ∧ ∃ id,id∈vt∧v' = .sl id 0 0)
def CvO (hs:Hs) (ρ:Nat→Nat) (ks:List Nat):Ob→Ob→Prop
 | .live z es wr full,.live z' es' wr' full'=>z=z'∧wr=wr'∧(full'=true→full=true)∧(es=qFs ρ es' ∨ ∃ l,(qDj es).run (jT hs)=some ((qFs ρ es',[]),l)) ∧ ∀ i∈qLz es',i∈ks
 | _,.dead=>True
 | _,_=>False
def qUk (fs:Fs) (hs:Hs) (ρ:Nat→Nat) (vt ks:List Nat):Fs→Prop
 | []=>True
 | (t,v')::r=>(∃ v,jT fs t=some v∧Cv hs ρ vt ks v v')∧qUk fs hs ρ vt ks r
def zYh (hs:Hs) (ρ:Nat→Nat) (ks:List Nat):Hs→Prop
 | []=>True
 | (i,o')::r=>((∃ o,jT hs (ρ i)=some o∧CvO hs ρ ks o o')∧(i<100→ρ i=i)∧(100≤i→100≤ρ i))∧zYh hs ρ ks r
def VtW:Hs→Prop
 | []=>True
 | (i,o')::r=>((∃ z full,o' = .live z [] true full)∧100≤i)∧VtW r
theorem qUk.get {fs:Fs} {hs:Hs} {ρ:Nat→Nat} {vt ks:List Nat} : ∀ {fs':Fs},qUk fs hs ρ vt ks fs' → ∀ t v',jT fs' t=some v' → ∃ v,jT fs t=some v∧Cv hs ρ vt ks v v'
 | [],_,t,v',h=>by cases h
 | (k,u)::r,hw,t,v',h=>by
  simp only[jT] at h
  split at h
  ·cases h;subst_vars;exact hw.1
  ·exact qUk.get hw.2 t v' h
theorem zYh.get {hs:Hs} {ρ:Nat→Nat} {ks:List Nat} : ∀ {hs':Hs},zYh hs ρ ks hs' → ∀ i o',jT hs' i=some o'→(∃ o,jT hs (ρ i)=some o∧CvO hs ρ ks o o')∧(i<100→ρ i=i)∧(100≤i→100≤ρ i)
 | [],_,t,v',h=>by cases h
 | (k,u)::r,hw,t,v',h=>by
  simp only[jT] at h
  split at h
  ·cases h;subst_vars;exact hw.1
  ·exact zYh.get hw.2 t v' h
theorem VtW.get : ∀ {hs':Hs},VtW hs' → ∀ i o',jT hs' i=some o'→(∃ z full,o' = .live z [] true full)∧100≤i
 | [],_,t,v',h=>by cases h
 | (k,u)::r,hw,t,v',h=>by
  simp only[jT] at h
  split at h
  ·cases h;subst_vars;exact hw.1
  ·exact VtW.get hw.2 t v' h
def Ob.z:Ob→Nat
 | .live z _ _ _=>z
 | .dead=>0
theorem qFl {α:Type} : ∀ {l:List (Nat×α)} {i:Nat},i∈l.map (·.1) → ∃ o,jT l i=some o
 | (k,u)::r,i,h=>by
  simp only[jT]
  split
  ·exact⟨_,rfl⟩
  ·rename_i hne
   simp only[List.map_cons,List.mem_cons] at h
   rcases h with h | h
   ·exact absurd h.symm hne
   ·exact qFl h
theorem qA4 {α:Type} : ∀ {l:List (Nat×α)} {i:Nat} {o:α},jT l i=some o→i∈l.map (·.1)
 | (k,u)::r,i,o,h=>by
  simp only[jT] at h
  split at h
  ·subst_vars;simp
  ·simp[qA4 h]
theorem qL2 {α:Type} : ∀ {l r:List (Nat×α)} {i:Nat},jT (l++r) i=match jT l i with | some o=>some o | none=>jT r i
 | [],r,i=>rfl
 | (k,u)::l,r,i=>by
  simp only[List.cons_append,jT]
  split
  ·rfl
  ·exact qL2
theorem qV1 {β:Nat→Option BI} {F:Nat→Prop}:qPl β F []=F:=by
 funext b
 apply propext
 constructor
 ·intro h
  rcases h with h | ⟨i,hi,_⟩
  ·exact h
  ·simp at hi
 ·exact .inl
variable {cx:Cx} {β:Nat→Option BI} {F:Nat→Prop} {a:Act} {w:World}
theorem zG0 {fm:Nat→Option V} {hm:Nat→Option Ob} (R:Rel cx β F fm hm a w) {es es':List V} {l:List Nat} (h:(qDj es).run hm=some ((es',[]),l)) {sz:Nat} {c:Array Value} (hh:vJ β F w es sz c):es'.length=es.length∧vJ β F w es' sz c:=by
 unfold qDj at h
 split at h
 ·obtain⟨e,_⟩:=qC h
  cases e
  exact⟨rfl,hh⟩
 ·obtain⟨g1,g2⟩:=vM h
  refine⟨g1,fun i x hx=>?_⟩
  have hi:i<es.length:=by rw[←g1];exact (List.getElem?_eq_some_iff.1 hx).1
  obtain⟨fzi,li,m1,m2⟩:=g2 i es[i] x (by simp[hi]) hx
  obtain⟨k1,k2⟩:=hh i es[i] (by simp[hi])
  by_cases hz:es[i].cells=[]
  ·
   have:x.cells=[]:=by
    cases hx0:es[i] with
    | t y=>
     rw[hx0] at m1 hz
     obtain⟨e,_⟩:=qC (x:=(V.t y,([]:List Nat))) m1
     cases e
     exact hz
    | agg cs=>
     rw[hx0] at m1 hz
     simp only[zN] at m1
     obtain⟨p,l1,l2,hp,m1,_⟩:=zB m1
     obtain⟨e,_⟩:=qC m1
     cases e
     have hcs:cs=[]:=hz
     subst hcs
     have:=(vM hp).1
     rw[qPw]
     exact List.eq_nil_of_length_eq_zero this
    | _=>rw[hx0] at hz;simp[V.cells] at hz
   rw[this]
   rw[hz] at k1
   exact⟨k1,by intro j y hy;simp at hy⟩
  ·obtain⟨q1,q2⟩:=qYa R m1 (fz':=[]) m2 hz (fun j y hy=>let ⟨u,_,b,d⟩:=k2 j y hy;⟨u,b,d⟩)
   refine⟨q1.trans k1,fun j y' hy'=>?_⟩
   have hj:j<es[i].cells.length:=by rw[←q1];exact (List.getElem?_eq_some_iff.1 hy').1
   obtain⟨u,hu,hr,ho⟩:=k2 j (es[i].cells[j]'hj) (by simp[hj])
   obtain⟨s1,_,_⟩:=q2 j (es[i].cells[j]'hj) y' u (by simp[hj]) hy' hr ho
   rw[qV1] at s1
   exact⟨u,hu,s1,ho⟩
theorem qI.of {fs fs':Fs} {hs hv ho:Hs} (ρ:Nat→Nat) (h1:qUk fs hs ρ (hv.map (·.1)) (ho.map (·.1)) fs') (h2:zYh hs ρ (ho.map (·.1)) ho) (h3:VtW hv) (hdis : ∀ i∈hv.map (·.1),i ∉ ho.map (·.1))
  (hinj:((ho.map (·.1)).map ρ).Nodup) (hkeep : ∀ k∈hs.map (·.1),k<100→k∈ho.map (·.1)):qI fs hs fs' (hv++ho):=by
 intro cx β F a w R
 let β':Nat→Option BI:=fun i=>match jT hv i with
  | some o=>some ⟨none,o.z,0⟩
  | none=>match jT ho i with
   | some _=>β (ρ i)
   | none=>none
 have bv : ∀ i o,jT hv i=some o→β' i=some ⟨none,o.z,0⟩:=fun i o h=>by simp[β',h]
 have hvo : ∀ i,i∈ho.map (·.1)→jT hv i=none:=by
  intro i hi
  cases h:jT hv i with
  | none=>rfl
  | some o=>exact absurd hi (hdis i (qA4 h))
 have bo : ∀ i,i∈ho.map (·.1)→β' i=β (ρ i):=by
  intro i hi
  obtain⟨o,h⟩:=qFl hi
  simp[β',hvo i hi,h]
 have inj : ∀ i j,i∈ho.map (·.1)→j∈ho.map (·.1)→ρ i=ρ j→i=j:=by
  intro i j hi hj e
  obtain⟨m,hm⟩:=List.getElem?_of_mem hi
  obtain⟨n,hn⟩:=List.getElem?_of_mem hj
  have hml:m<(ho.map (·.1)).length:=(List.getElem?_eq_some_iff.1 hm).1
  have hnl:n<(ho.map (·.1)).length:=(List.getElem?_eq_some_iff.1 hn).1
  have:=qDs hinj (i:=m) (j:=n) (by simpa using hml) (by simpa using hnl) (by
   have a1:(ho.map (·.1))[m]=i:=by rw[List.getElem?_eq_getElem hml] at hm;exact Option.some.inj hm
   have a2:(ho.map (·.1))[n]=j:=by rw[List.getElem?_eq_getElem hnl] at hn;exact Option.some.inj hn
   simp only[List.getElem_map] at a1 a2 ⊢
   rw[a1,a2];exact e)
  subst this
  rw[hm] at hn;exact Option.some.inj hn
 have val : ∀ {v v':V} {x:Value},qU β F w v x→Cv hs ρ (hv.map (·.1)) (ho.map (·.1)) v v'→qU β' F w v' x:=by
  intro v v' x hx hc
  rcases hc with⟨hc,hids⟩ | ⟨rfl,id,hid,rfl⟩
  ·have h0:qU β F w (v'.ren ρ) x:=by
    rcases hc with hc | ⟨l,hc⟩
    ·rw[←hc];exact hx
    ·have:=wX R hc hx (fz':=[]) (by simp)
     rw[qV1] at this
     exact this
   have h1:=h0.unren (ρ:=ρ) rfl
   exact h1.sub (fun i hi bi hb=>by rw[bo i (hids i hi)];exact hb)
  ·obtain⟨o,ho'⟩:=qFl hid
   cases hx
   exact .slv id _ _ (bv id o ho')
 have ob : ∀ {bi:BI} {o o':Ob},qE9 β F w bi o→CvO hs ρ (ho.map (·.1)) o o'→qE9 β' F w bi o':=by
  intro bi o o' hok hc
  cases o' with
  | dead=>trivial
  | live z' es' wr' full'=>
   cases o with
   | dead=>exact hc.elim
   | live z es wr full=>
    obtain⟨rfl,rfl,hfull,hes,hids⟩:=hc
    have hren : ∀ {c:Array Value} {sz:Nat},vJ β F w (qFs ρ es') sz c→vJ β' F w es' sz c:=by
     intro c sz hh
     have h1:=hh.unren
     intro i x hx
     obtain⟨k1,k2⟩:=h1 i x hx
     refine⟨k1,fun j y hy=>?_⟩
     obtain⟨u,g1,g2,g3⟩:=k2 j y hy
     refine⟨u,g1,g2.sub (fun r hr bi hb=>?_),g3⟩
     have hrx:r∈x.ids:=by
      cases x with
      | agg cs=>simp only[V.ids];exact xJ (List.mem_of_getElem? hy) hr
      | t t=>
       obtain⟨c,_,rfl⟩:=qAe hy
       simp[V.ids] at hr
      | _=>
       simp only[V.cells] at hy
       cases j with
       | zero=>simp at hy;subst hy;exact hr
       | succ j=>simp at hy
     rw[bo r (hids r (xJ (List.mem_of_getElem? hx) hrx))]
     exact hb
    unfold qE9 at hok ⊢
    obtain⟨g1,g2,g3⟩:=hok
    have hlen:es'.length=es.length ∧ ∀ {c:Array Value},vJ β F w es bi.sz c→vJ β' F w es' bi.sz c:=by
     rcases hes with rfl | ⟨l,hes⟩
     ·exact⟨by rw[zO];simp,fun hh=>hren hh⟩
     ·refine⟨?_,fun hh=>hren (zG0 R hes hh).2⟩
      have:(qFs ρ es').length=es.length:=by
       unfold qDj at hes
       split at hes
       ·obtain⟨e,_⟩:=qC hes
        simp only[Prod.mk.injEq] at e
        rw[e.1]
       ·exact (vM hes).1
      rw[zO,List.length_map] at this
      exact this
    refine⟨g1,fun h=>by rw[hlen.1];exact g2 (hfull h),?_⟩
    cases hb:bi.blk with
    | none=>
     simp only[hb] at g3 ⊢
     refine⟨?_,g3.2⟩
     have:=hlen.1
     rw[g3.1] at this
     exact List.eq_nil_of_length_eq_zero this
    | some b=>
     simp only[hb] at g3 ⊢
     obtain⟨c,e,fz,k1,k2,k3,k4,k5,k6,k7⟩:=g3
     exact⟨c,e,fz,k1,k2,k3,by rw[hlen.1];exact k4,k5,hlen.2 k6,k7⟩
 have cases_ : ∀ id o',jT (hv++ho) id=some o'→(∃ z full,o' = .live z [] true full∧β' id=some ⟨none,z,0⟩∧100≤id)∨(id∈ho.map (·.1) ∧ ∃ o,jT hs (ρ id)=some o∧CvO hs ρ (ho.map (·.1)) o o'∧(id<100→ρ id=id)∧(100≤id→100≤ρ id)):=by
  intro id o' h
  rw[qL2] at h
  split at h
  ·rename_i o hvl
   cases h
   obtain⟨⟨z,full,rfl⟩,h100⟩:=h3.get id o' hvl
   exact .inl ⟨z,full,rfl,bv id _ hvl,h100⟩
  ·obtain⟨⟨o,g1,g2⟩,g3,g4⟩:=h2.get id o' h
   exact .inr ⟨qA4 h,o,g1,g2,g3,g4⟩
 have notdead : ∀ {o o':Ob},CvO hs ρ (ho.map (·.1)) o o'→o'≠ .dead→o≠ .dead:=by
  intro o o' hc hd hd'
  subst hd'
  cases o' with
  | dead=>exact hd rfl
  | live _ _ _ _=>exact hc
 refine⟨β',F,R.tsz,R.dfr,fun t v' hv'=>?_,fun id o' ho'=>?_,fun id hn=>?_,fun i j bi bj b oi oj e1 e2 e3 e4 e5 e6 e7 e8=>?_,R.os,R.tape,R.output,R.size,R.ext,fun id z es full bi b e1 e2 e3=>?_,R.inF,R.inw,R.Fw,R.F0,fun id bi b e1 e2=>?_,fun g cs hg=>?_,fun k bi hk=>?_,R.gs⟩
 ·obtain⟨v,g1,g2⟩:=h1.get t v' hv'
  obtain⟨x,g3,g4⟩:=R.fr t v g1
  exact⟨x,g3,val g4 g2⟩
 ·rcases cases_ id o' ho' with⟨z,full,rfl,hb,_⟩ | ⟨hm,o,g1,g2,_⟩
  ·exact⟨_,hb,rfl,fun _=>rfl,rfl,rfl⟩
  ·obtain⟨bi,g3,g4⟩:=R.hp _ o g1
   exact⟨bi,by rw[bo id hm];exact g3,ob g4 g2⟩
 ·rw[qL2] at hn
  split at hn
  ·cases hn
  ·rename_i hv0
   simp[β',hv0,hn]
 ·rcases cases_ i oi e5 with⟨z,full,rfl,hb,_⟩ | ⟨hm,o,g1,g2,_⟩
  ·rw[hb] at e1;cases e1;cases e3
  ·rcases cases_ j oj e6 with⟨z,full,rfl,hb,_⟩ | ⟨hm',o',g1',g2',_⟩
   ·rw[hb] at e2;cases e2;cases e4
   ·rw[bo i hm] at e1
    rw[bo j hm'] at e2
    exact inj i j hm hm' (R.inj _ _ bi bj b o o' e1 e2 e3 e4 g1 g1' (notdead g2 e7) (notdead g2' e8))
 ·rcases cases_ id _ e1 with⟨z',full',_,hb,_⟩ | ⟨hm,o,g1,g2,g3,g4⟩
  ·rw[hb] at e2;cases e2;cases e3
  ·rw[bo id hm] at e2
   cases o with
   | dead=>exact g2.elim
   | live z0 es0 wr0 full0=>
    obtain⟨_,rfl,_⟩:=g2
    rcases R.old _ z0 es0 full0 bi b g1 e2 e3 with h | ⟨h,h'⟩
    ·exact .inl h
    ·refine .inr ⟨?_,h'⟩
     rcases Nat.lt_or_ge id 100 with h7 | h7
     ·exact h7
     ·have:=g4 h7;omega
 ·cases hl:jT hv id with
  | some o=>rw[bv id o hl] at e1;cases e1;cases e2
  | none=>
   cases hl2:jT ho id with
   | none=>simp[β',hl,hl2] at e1
   | some o=>
    rw[bo id (qA4 hl2)] at e1
    exact R.blt _ bi b e1 e2
 ·have:=R.gl g cs hg
  cases this with
  | ro _ ad news ha hn h1' hF hw h=>exact .ro cs _ news ha hn h1' hF hw h
 ·have hβ:=R.ext0 k bi hk
  cases hl:jT hs k with
  | none=>rw[R.dom k hl] at hβ;cases hβ
  | some o=>
   have hk100:=cx.d0 k bi hk
   have hm:=hkeep k (qA4 hl) hk100
   rw[bo k hm]
   obtain⟨o',ho'⟩:=qFl hm
   rw[(h2.get k o' ho').2.1 hk100]
   exact hβ
end Go.Eng
end
section
namespace Go.Eng
variable {tab:Tab} {gl:Gl} {fs:Fs} {hs:Hs} {Qx:qD2}
def zPm {ι:Type} (I:ι→Fs×Hs) (μ:ι→Nat) (i:ι) (Qx:qD2):qD2:=fun e fs' hs'=>match e with | .normal => ∃ j,μ j<μ i∧qI fs' hs' (I j).1 (I j).2 | e=>Qx e fs' hs'
theorem qH6 {a:AC} {ι:Type} (I:ι→Fs×Hs) (μ:ι→Nat) (i0:ι) (h0:qI fs hs (I i0).1 (I i0).2) (h : ∀ i,a.wp tab gl (I i).1 (I i).2 (zPm I μ i Qx)):qIv tab gl a fs hs Qx:=⟨ι,I,μ,i0,h0,h⟩
def upK (n:Nat) (fI:Nat→Fs) (hI:Nat→Hs) (i:Nat) (Qx:qD2):qD2:=fun e fs' hs'=>match e with | .normal=>i<n∧qI fs' hs' (fI (i+1)) (hI (i+1)) | e=>Qx e fs' hs'
theorem zH1 {n:Nat} {fI:Nat→Fs} {hI:Nat→Hs} {i:Nat}:upK n fI hI i Qx .normal fs hs=(i<n∧qI fs hs (fI (i+1)) (hI (i+1))):=Eq.trans (Eq.refl _) rfl
theorem zRu {n:Nat} {fI:Nat→Fs} {hI:Nat→Hs} {i id:Nat}:upK n fI hI i Qx (.exit id) fs hs=Qx (.exit id) fs hs:=Eq.trans (Eq.refl _) rfl
theorem zXt {n:Nat} {fI:Nat→Fs} {hI:Nat→Hs} {i:Nat}:upK n fI hI i Qx .ret fs hs=Qx .ret fs hs:=Eq.trans (Eq.refl _) rfl
theorem qUt {v:Option V} {A B A' B':Prop} (hA:A→A') (hB:B→B'):qJ5 v A B→qJ5 v A' B':=by
 unfold qJ5
 split
 ·exact fun h=>⟨fun e=>hA (h.1 e),fun e=>hB (h.2 e)⟩
 ·exact id
theorem zGn {v:Option V} {A B A' B':Prop} (hA:A→A') (hB:B→B'):qO3 v A B→qO3 v A' B':=by
 unfold qO3
 split
 ·exact fun h=>⟨hA h.1,hB h.2⟩
 ·exact qUt hA hB
theorem qEu {a:AC} : ∀ {fs:Fs} {hs:Hs} {Q Q':qD2},(∀ e f h,Q e f h→Q' e f h)→a.wp tab gl fs hs Q→a.wp tab gl fs hs Q':=by
 induction a with
 | skip=>intro fs hs Q Q' h hw;exact h _ _ _ hw
 | ret=>intro fs hs Q Q' h hw;exact h _ _ _ hw
 | exit id=>intro fs hs Q Q' h hw;exact h _ _ _ hw
 | seq a b iha ihb=>
  intro fs hs Q Q' h hw
  refine iha (fun e f g hq=>?_) hw
  cases e with
  | normal=>exact ihb h hq
  | exit id=>exact h _ _ _ hq
  | ret=>exact h _ _ _ hq
 | cond c a b iha ihb=>
  intro fs hs Q Q' h hw
  exact qUt (iha h) (ihb h) hw
 | condb c a b iha ihb=>
  intro fs hs Q Q' h hw
  exact zGn (iha h) (ihb h) hw
 | block id a ih=>
  intro fs hs Q Q' h hw
  refine ih (fun e f g hq=>?_) hw
  cases e with
  | normal=>exact h _ _ _ hq
  | exit id'=>
   simp only at hq ⊢
   split
   ·rename_i h1;rw[if_pos h1] at hq;exact h _ _ _ hq
   ·rename_i h1;rw[if_neg h1] at hq;exact h _ _ _ hq
  | ret=>exact h _ _ _ hq
 | loop a ih=>
  intro fs hs Q Q' h hw
  obtain⟨ι,I,μ,i0,h0,hr⟩:=hw
  refine⟨ι,I,μ,i0,h0,fun i=>ih (fun e f g hq=>?_) (hr i)⟩
  cases e with
  | normal=>exact hq
  | exit id=>exact h _ _ _ hq
  | ret=>exact h _ _ _ hq
 | reg nb anc ops=>
  intro fs hs Q Q' h hw
  have key : ∀ (ops:List jA) (nb:Nat) (fs:Fs) (hs:Hs) (acc:List (List Nat×List Nat)) (K K':Fs→Hs→List (List Nat×List Nat)→Prop),(∀ f g c,K f g c→K' f g c)→zIs tab gl ops nb fs hs acc K→zIs tab gl ops nb fs hs acc K':=by
   intro ops
   induction ops with
   | nil=>intro nb fs hs acc K K' h hw;exact h _ _ _ hw
   | cons o r ih=>
    intro nb fs hs acc K K' h hw
    obtain⟨x,l,h1,h2⟩:=hw
    exact⟨x,l,h1,ih _ _ _ _ _ _ h h2⟩
  exact key ops nb fs hs [] _ _ (fun f g c hq=>⟨hq.1,h _ _ _ hq.2⟩) hw
theorem qD {a:AC} (n:Nat) (fI:Nat→Fs) (hI:Nat→Hs) (h0:qI fs hs (fI 0) (hI 0)) (h : ∀ i,i≤n→a.wp tab gl (fI i) (hI i) (upK n fI hI i Qx)):qIv tab gl a fs hs Qx:=by
 refine qH6 (ι := { i:Nat // i≤n }) (fun i=>(fI i.1,hI i.1)) (fun i=>n-i.1) ⟨0,Nat.zero_le _⟩ h0 (fun i=>?_)
 refine qEu (fun e f g hq=>?_) (h i.1 i.2)
 cases e with
 | normal=>exact⟨⟨i.1+1,hq.1⟩,by simp only;have:=hq.1;omega,hq.2⟩
 | exit id=>exact hq
 | ret=>exact hq
theorem zSf {ts:List T}:qE7 (ts.map .t)=some ts:=by
 induction ts with
 | nil=>rfl
 | cons x r ih=>simp[qE7,ih]
theorem zN2:qE7 []=some []:=Eq.trans (Eq.refl _) rfl
theorem qQj {x:T} {r:List V}:qE7 (.t x::r)=(qE7 r).map (x :: ·):=Eq.trans (Eq.refl _) rfl
theorem zN3 {id i f:Nat} {r:List V}:qE7 (.ref id i f::r)=none:=Eq.trans (Eq.refl _) rfl
theorem zT1 {g id i f:Nat} {r:List V}:qE7 (.bd g id i f::r)=none:=Eq.trans (Eq.refl _) rfl
theorem zT2 {r:List V}:qE7 (.bq::r)=none:=Eq.trans (Eq.refl _) rfl
attribute [go_sem] zT2
attribute [go_sem] zT1
theorem zT5 {id i f:Nat} {r:List V}:qE7 (.sl id i f::r)=none:=Eq.trans (Eq.refl _) rfl
theorem zIz {r:List V}:qE7 (.nil::r)=none:=Eq.trans (Eq.refl _) rfl
theorem zN0 {cs:List V} {r:List V}:qE7 (.agg cs::r)=none:=Eq.trans (Eq.refl _) rfl
theorem zT4 {cs:List T} {r:List V}:qE7 (.ro cs::r)=none:=Eq.trans (Eq.refl _) rfl
theorem zT3 {f:FuncId} {cs:List V} {r:List V}:qE7 (.fn f cs::r)=none:=Eq.trans (Eq.refl _) rfl
theorem zPu {α γ:Type} {f:α→γ}:Option.map f none=none:=Eq.trans (Eq.refl _) rfl
theorem zZ2 {cs:List V}:V.mk cs=match qE7 cs with | some ts=> .t (.agg ts) | none=> .agg cs:=Eq.trans (Eq.refl _) rfl
theorem zJo {g:V→Q (V×List Nat)}:qDk g [] = .ret ([],[]):=Eq.trans (Eq.refl _) rfl
theorem qIl {g:V→Q (V×List Nat)} {c:V} {r:List V}:qDk g (c::r)=(g c).bind fun p=>(qDk g r).bind fun q=> .ret (p.1::q.1,p.2++q.2):=Eq.trans (Eq.refl _) rfl
theorem zJr {n:Nat} {x:T}:zN n (.t x) = .ret (.t x,[]):=by cases n<;>rfl
theorem zOn {n:Nat}:zN n .nil = .ret (.t (.sl []),[]):=by cases n<;>rfl
theorem zUk {n:Nat} {cs:List T}:zN n (.ro cs) = .ret (.ro cs,[]):=by cases n<;>rfl
theorem zOo {n id i f:Nat}:zN n (.ref id i f) = .ret (.ref id i f,[]):=by cases n<;>rfl
theorem zUi {n g id i f:Nat}:zN n (.bd g id i f) = .ret (.bd g id i f,[]):=by cases n<;>rfl
attribute [go_sem] zUi
theorem zOm {n:Nat} {cs:List V}:zN (n+1) (.agg cs)=(qDk (zN n) cs).bind fun p=> .ret (V.mk p.1,p.2):=Eq.trans (Eq.refl _) rfl
theorem zUj {n:Nat} {f:FuncId} {cs:List V}:zN (n+1) (.fn f cs)=(qDk (zN n) cs).bind fun p=> .ret (.fn f p.1,p.2):=Eq.trans (Eq.refl _) rfl
theorem zUl {n id off len:Nat}:zN (n+1) (.sl id off len) = .get id fun
  | .live _ es wr _=>Q.assert (off+len≤es.length)
   (match qE7 es with
   | some ts=> .ret (.t (.sl ((ts.drop off).take len)),if wr then [id] else [])
   | none=>(qDk (zN n) es).bind fun p=>match qE7 p.1 with
    | some ts=> .ret (.t (.sl ((ts.drop off).take len)),if wr then id::p.2 else p.2)
    | none=> .fail)
  | .dead=> .fail:=Eq.trans (Eq.refl _) rfl
theorem zGz {n:Nat} {ids:List Nat} {obs:List Ob} {fz:List Nat}:qB2 n [] ids obs fz = .ret (ids,obs,fz):=by cases n<;>rfl
theorem zB8 {n id:Nat} {todo ids:List Nat} {obs:List Ob} {fz:List Nat}:qB2 (n+1) (id::todo) ids obs fz=if ids.contains id then qB2 n todo ids obs fz else
  .get id fun
   | .live z es true full=>(qDj es).bind fun p=>qB2 n (todo++(match qE7 es with | some _=>[] | none=>qBa p.1)) (ids++[id]) (obs++[.live z p.1 true full]) (fz++p.2)
   | _=> .fail:=Eq.trans (Eq.refl _) rfl
theorem zO1:qV0 [] = .ret []:=Eq.trans (Eq.refl _) rfl
theorem zKr {id:Nat} {r:List Nat}:qV0 (id::r) = .get id fun
  | .live z es true full=>Q.assert (100≤id) ((qV0 r).bind fun q=> .ret ((id,.live z es false full)::q))
  | _=> .fail:=Eq.trans (Eq.refl _) rfl
theorem zGx {α:Type} {nb:Nat} {k:Q α}:zB6 nb 0 k=k:=Eq.trans (Eq.refl _) rfl
theorem zGw {α:Type} {nb n:Nat} {k:Q α}:zB6 nb (n+1) k = .free nb (zB6 (nb+1) n k):=Eq.trans (Eq.refl _) rfl
theorem zUw {ids:List Nat} {nb k:Nat}:gam ids nb k=match ids[k]? with | some id=>id | none=>nb+(k-ids.length):=Eq.trans (Eq.refl _) rfl
theorem zLl {ids:List Nat} {nb k:Nat}:qKh ids nb k []=[]:=Eq.trans (Eq.refl _) rfl
theorem zG7 {ids:List Nat} {nb k:Nat} {o:Ob} {r:List Ob}:qKh ids nb k (o::r)=(gam ids nb k,o.ren (gam ids nb))::qKh ids nb (k+1) r:=Eq.trans (Eq.refl _) rfl
theorem zQo {ρ:Nat→Nat} {z:Nat} {es:List V} {wr full:Bool}:(Ob.live z es wr full).ren ρ = .live z (qFs ρ es) wr full:=Eq.trans (Eq.refl _) rfl
theorem jAv {ρ:Nat→Nat} {x:T}:(V.t x).ren ρ = .t x:=Eq.trans (Eq.refl _) rfl
theorem zQl {ρ:Nat→Nat}:V.nil.ren ρ = .nil:=Eq.trans (Eq.refl _) rfl
theorem zQm {ρ:Nat→Nat} {id i f:Nat}:(V.ref id i f).ren ρ = .ref (ρ id) i f:=Eq.trans (Eq.refl _) rfl
theorem zWp {ρ:Nat→Nat} {g id i f:Nat}:(V.bd g id i f).ren ρ = .bd g (ρ id) i f:=Eq.trans (Eq.refl _) rfl
theorem zWq {ρ:Nat→Nat}:V.bq.ren ρ = .bq:=Eq.trans (Eq.refl _) rfl
attribute [go_sem] zWq
attribute [go_sem] zWp
theorem zWs {ρ:Nat→Nat} {cs:List T}:(V.ro cs).ren ρ = .ro cs:=Eq.trans (Eq.refl _) rfl
theorem zWt {ρ:Nat→Nat} {id i f:Nat}:(V.sl id i f).ren ρ = .sl (ρ id) i f:=Eq.trans (Eq.refl _) rfl
theorem zQk {ρ:Nat→Nat} {cs:List V}:(V.agg cs).ren ρ = .agg (qFs ρ cs):=Eq.trans (Eq.refl _) rfl
theorem zQn {ρ:Nat→Nat} {cs:List V}:(V.tup cs).ren ρ = .tup (qFs ρ cs):=Eq.trans (Eq.refl _) rfl
theorem zWr {ρ:Nat→Nat} {f:FuncId} {cs:List V}:(V.fn f cs).ren ρ = .fn f (qFs ρ cs):=Eq.trans (Eq.refl _) rfl
theorem zQj {ρ:Nat→Nat}:qFs ρ []=[]:=Eq.trans (Eq.refl _) rfl
theorem zL0 {ρ:Nat→Nat} {c:V} {r:List V}:qFs ρ (c::r)=c.ren ρ::qFs ρ r:=Eq.trans (Eq.refl _) rfl
theorem zLv:qBa []=[]:=Eq.trans (Eq.refl _) rfl
theorem zHb {c:V} {r:List V}:qBa (c::r)=c.refs++qBa r:=Eq.trans (Eq.refl _) rfl
theorem jAt {x:T}:(V.t x).refs=[]:=Eq.trans (Eq.refl _) rfl
theorem zWm {cs:List T}:(V.ro cs).refs=[]:=Eq.trans (Eq.refl _) rfl
theorem zQf:V.nil.refs=[]:=Eq.trans (Eq.refl _) rfl
theorem zWn {id i f:Nat}:(V.sl id i f).refs=[]:=Eq.trans (Eq.refl _) rfl
theorem zQg {id i f:Nat}:(V.ref id i f).refs=[id]:=Eq.trans (Eq.refl _) rfl
theorem zWj {g id i f:Nat}:(V.bd g id i f).refs=[id]:=Eq.trans (Eq.refl _) rfl
theorem zWk:V.bq.refs=[]:=Eq.trans (Eq.refl _) rfl
attribute [go_sem] zWk
attribute [go_sem] zWj
theorem zQe {cs:List V}:(V.agg cs).refs=qBa cs:=Eq.trans (Eq.refl _) rfl
theorem zQh {cs:List V}:(V.tup cs).refs=qBa cs:=Eq.trans (Eq.refl _) rfl
theorem zWl {f:FuncId} {cs:List V}:(V.fn f cs).refs=qBa cs:=Eq.trans (Eq.refl _) rfl
theorem zO8:qLz []=[]:=Eq.trans (Eq.refl _) rfl
theorem zKv {c:V} {r:List V}:qLz (c::r)=c.ids++qLz r:=Eq.trans (Eq.refl _) rfl
theorem jDp {x:T}:(V.t x).ids=[]:=Eq.trans (Eq.refl _) rfl
theorem zZk {cs:List T}:(V.ro cs).ids=[]:=Eq.trans (Eq.refl _) rfl
theorem zU3:V.nil.ids=[]:=Eq.trans (Eq.refl _) rfl
theorem zZl {id i f:Nat}:(V.sl id i f).ids=[id]:=Eq.trans (Eq.refl _) rfl
theorem zU4 {id i f:Nat}:(V.ref id i f).ids=[id]:=Eq.trans (Eq.refl _) rfl
theorem zZh {g id i f:Nat}:(V.bd g id i f).ids=[id]:=Eq.trans (Eq.refl _) rfl
theorem zZi:V.bq.ids=[]:=Eq.trans (Eq.refl _) rfl
attribute [go_sem] zZi
attribute [go_sem] zZh
theorem zU2 {cs:List V}:(V.agg cs).ids=qLz cs:=Eq.trans (Eq.refl _) rfl
theorem zU5 {cs:List V}:(V.tup cs).ids=qLz cs:=Eq.trans (Eq.refl _) rfl
theorem zZj {f:FuncId} {cs:List V}:(V.fn f cs).ids=qLz cs:=Eq.trans (Eq.refl _) rfl
theorem zOl {ts:List T}:qDj (ts.map .t) = .ret (ts.map .t,[]):=by simp[qDj,zSf]
theorem zQr {x:V}:zTm [x]=x:=Eq.trans (Eq.refl _) rfl
theorem zQq:zTm [] = .tup []:=Eq.trans (Eq.refl _) rfl
theorem zQs {x y:V} {r:List V}:zTm (x::y::r) = .tup (x::y::r):=Eq.trans (Eq.refl _) rfl
theorem zPl {f g:FuncId} {s:FnS} {r:Tab}:Tab.look ((g,s)::r) f=if g=f then some s else Tab.look r f:=Eq.trans (Eq.refl _) rfl
theorem zY7 {x:T}:(V.t x).flat=x.flat:=Eq.trans (Eq.refl _) rfl
theorem zOt {k:IntKind} {n:Int}:(T.int k n).flat=true:=Eq.trans (Eq.refl _) rfl
theorem zKe {b:Bool}:(T.bool b).flat=true:=Eq.trans (Eq.refl _) rfl
theorem zOu {s:ByteArray}:(T.str s).flat=true:=Eq.trans (Eq.refl _) rfl
theorem zKb:zB3 []=true:=Eq.trans (Eq.refl _) rfl
theorem zGv {o:Ob} {r:List Ob}:zB3 (o::r)=(o.flat&&zB3 r):=Eq.trans (Eq.refl _) rfl
theorem zQu {n:Nat} {vs:List V}:jC0 n vs=(qDk (zN 4) vs).bind fun p=>(qB2 (12+n) (List.range n++qBa p.1) [] [] []).bind fun q=>
  Q.assert ((q.1.all fun i => !(p.2++q.2.2).contains i)=true) ((qV0 (p.2++q.2.2)).bind fun _=> .ret (zTm (qFs (fun r=>q.1.idxOf r) p.1),q.2.1.map (Ob.ren fun r=>q.1.idxOf r))):=Eq.trans (Eq.refl _) rfl
theorem zJc {f:FuncId} {keep:Bool} {vs:List V} {nb:Nat}:qTc tab f keep vs nb=(qQv keep vs).bind fun cp=>
  (Q.of ((tab.look f).bind fun s=>s (qFs (fun r=>cp.ids.idxOf r) cp.as) (cp.obs.map (Ob.ren fun r=>cp.ids.idxOf r)))).bind fun p=>
   Q.assert (cp.ids.length≤p.2.length∧(keep=true∨p.1.flat=true∧zB3 p.2=true))
    (zB6 nb (p.2.length-cp.ids.length) (.ret (p.1.ren (gam cp.ids nb),(if keep then cp.fw else [])++qKh cp.ids nb 0 p.2))):=Eq.trans (Eq.refl _) rfl
theorem zBq {keep:Bool} {vs:List V}:qQv keep vs=(qDk (zN 4) vs).bind fun p=>(qB2 12 (qBa p.1) [] [] []).bind fun q=>
  Q.assert ((keep=true∨q.2.2=[])∧(q.1.all fun i => !(p.2++q.2.2).contains i)=true) ((qV0 (p.2++q.2.2)).bind fun fw=> .ret ⟨p.1,q.1,q.2.1,p.2++q.2.2,fw⟩):=Eq.trans (Eq.refl _) rfl
attribute [go_sem] zH1 zRu zXt zSf zN2 qQj zN3 zT5 zIz zN0 zT4 zT3 zPu zZ2 zJo qIl zJr zOn zUk zOo zOm zUj zUl zGz zB8
 zO1 zKr zGx zGw zUw zLl zG7 zQo jAv zQl zQm zWs zWt zQk zQn zWr zQj zL0 zTk zLv zHb jAt zWm zQf zWn zQg zQe zQh zWl
 zOl zQr zQq zQs zPl zY7 zOt zKe zOu zKb zGv zQu zJc zBq zLw
attribute [go_sem] List.length_cons List.length_nil List.map_cons List.map_nil List.getElem?_cons_zero List.getElem?_cons_succ List.getElem?_nil List.take_succ_cons List.take_zero List.take_nil List.drop_succ_cons List.drop_zero List.drop_nil List.set_cons_zero List.set_cons_succ
 List.range_zero List.all_nil List.all_cons List.length_map Bool.and_true Bool.true_and List.length_replicate
theorem jDe {b:Bool}:(b==true)=b:=by cases b<;>rfl
theorem jDd {b:Bool}:(b==false) = !b:=by cases b<;>rfl
attribute [go_sem] zO8 zKv jDp zZk zU3 zZl zU4 zU2 zU5 zZj zSz jDe jDd decide_true decide_false Bool.not_true Bool.not_false
end Go.Eng
end
section
namespace Go.Eng
def zHw (ρ:Nat→Nat) (ks:List Nat) (v:Option V) (v':V):Prop:=v=some (v'.ren ρ)∧(v'.ids.all fun i=>ks.contains i)=true
def qUj (fs:Fs) (ρ:Nat→Nat) (ks:List Nat):Fs→Prop
 | []=>True
 | (t,v')::r=>zHw ρ ks (jT fs t) v'∧qUj fs ρ ks r
def obR (ρ:Nat→Nat) (ks:List Nat):Option Ob→Ob→Prop
 | some (.live z es wr full),.live z' es' wr' full'=>z=z'∧wr=wr'∧(full'=true→full=true)∧es=qFs ρ es'∧((qLz es').all fun i=>ks.contains i)=true
 | some _,.dead=>True
 | _,_=>False
def zYg (hs:Hs) (ρ:Nat→Nat) (ks:List Nat):Hs→Prop
 | []=>True
 | (i,o')::r=>obR ρ ks (jT hs (ρ i)) o'∧zYg hs ρ ks r
def zFn (ρ:Nat→Nat) (old new:List Nat):Bool:=
 new.all (fun i=>(decide (i<100)&&ρ i==i)||(decide (100≤i)&&decide (100≤ρ i)))&&decide ((new.map ρ).Nodup)&&old.all fun k => !decide (k<100)||new.contains k
theorem qI.ren {fs fs':Fs} {hs ho:Hs} (ρ:Nat→Nat) (h1:qUj fs ρ (ho.map (·.1)) fs') (h2:zYg hs ρ (ho.map (·.1)) ho) (h3:zFn ρ (hs.map (·.1)) (ho.map (·.1))=true):qI fs hs fs' ho:=by
 simp only[zFn,Bool.and_eq_true] at h3
 obtain⟨⟨h4,h5⟩,h6⟩:=h3
 have a1 : ∀ {fs':Fs},qUj fs ρ (ho.map (·.1)) fs'→qUk fs hs ρ [] (ho.map (·.1)) fs':=by
  intro fs'
  induction fs' with
  | nil=>intro _;trivial
  | cons p r ih=>
   obtain⟨t,v'⟩:=p
   intro h
   obtain⟨⟨g1,g2⟩,g3⟩:=h
   refine⟨⟨_,g1,.inl ⟨.inl rfl,fun i hi=>?_⟩⟩,ih g3⟩
   have:=List.all_eq_true.1 g2 i hi
   simpa using this
 have a2 : ∀ {h':Hs},(∀ i∈h'.map (·.1),i∈ho.map (·.1))→zYg hs ρ (ho.map (·.1)) h'→zYh hs ρ (ho.map (·.1)) h':=by
  intro h'
  induction h' with
  | nil=>intro _ _;trivial
  | cons p r ih=>
   obtain⟨i,o'⟩:=p
   intro hm h
   obtain⟨g1,g2⟩:=h
   have hi:=List.all_eq_true.1 h4 i (hm i (by simp))
   have hi':(i<100∧ρ i=i)∨(100≤i∧100≤ρ i):=by simpa using hi
   refine⟨⟨?_,fun h=>by rcases hi' with h' | h';exact h'.2;omega,fun h=>by rcases hi' with h' | h';omega;exact h'.2⟩,ih (fun j hj=>hm j (by simp at hj ⊢;exact .inr hj)) g2⟩
   unfold obR at g1
   split at g1
   ·rename_i z es wr full z' es' wr' full' hl
    obtain⟨rfl,rfl,k1,k2,k3⟩:=g1
    exact⟨_,hl,rfl,rfl,k1,.inl k2,fun j hj=>by have:=List.all_eq_true.1 k3 j hj;simpa using this⟩
   ·rename_i o hl
    refine⟨_,hl,?_⟩
    cases o<;>trivial
   ·exact g1.elim
 have:=qI.of (hs:=hs) (hv:=[]) (ho:=ho) (fs:=fs) (fs':=fs') ρ (a1 h1) (a2 (fun _ h=>h) h2) trivial (by simp) (of_decide_eq_true h5) (fun k hk hlt=>by
  have:=List.all_eq_true.1 h6 k hk
  simpa [hlt] using this)
 exact this
theorem zGg {fs:Fs} {ρ:Nat→Nat} {ks:List Nat}:qUj fs ρ ks []=True:=Eq.trans (Eq.refl _) rfl
theorem zBc {fs:Fs} {ρ:Nat→Nat} {ks:List Nat} {t:Nat} {v':V} {r:Fs}:qUj fs ρ ks ((t,v')::r)=(zHw ρ ks (jT fs t) v'∧qUj fs ρ ks r):=Eq.trans (Eq.refl _) rfl
theorem zHy {ρ:Nat→Nat} {ks:List Nat} {v v':V}:zHw ρ ks (some v) v'=(v=v'.ren ρ∧(v'.ids.all fun i=>ks.contains i)=true):=by
 simp[zHw]
theorem zHx {ρ:Nat→Nat} {ks:List Nat} {v':V}:zHw ρ ks none v'=False:=by simp[zHw]
theorem zNw {hs:Hs} {ρ:Nat→Nat} {ks:List Nat}:zYg hs ρ ks []=True:=Eq.trans (Eq.refl _) rfl
theorem zIv {hs:Hs} {ρ:Nat→Nat} {ks:List Nat} {i:Nat} {o':Ob} {r:Hs}:zYg hs ρ ks ((i,o')::r)=(obR ρ ks (jT hs (ρ i)) o'∧zYg hs ρ ks r):=Eq.trans (Eq.refl _) rfl
theorem zP1 {ρ:Nat→Nat} {ks:List Nat} {z z':Nat} {es es':List V} {wr wr' full full':Bool}:obR ρ ks (some (.live z es wr full)) (.live z' es' wr' full') =
  (z=z'∧wr=wr'∧(full'=true→full=true)∧es=qFs ρ es'∧((qLz es').all fun i=>ks.contains i)=true):=Eq.trans (Eq.refl _) rfl
attribute [go_sem] zGg zBc zHy zHx zNw zIv zP1 V.t.injEq T.int.injEq T.bool.injEq T.sl.injEq T.agg.injEq T.str.injEq V.ref.injEq V.bd.injEq V.sl.injEq V.agg.injEq V.fn.injEq List.cons.injEq
 List.all_nil List.contains_cons List.contains_nil Bool.or_false Bool.or_true Bool.true_or beq_self_eq_true eq_self implies_true imp_self Int.natCast_zero Int.natCast_one
end Go.Eng
end
section
namespace Go.Eng
def qP (x:UInt32):T:= .int .u32 x.toNat
def zTv (x:UInt64):T:= .int .u64 x.toNat
theorem qXu (n:Int):IntKind.u8.wrap n=n%256:=by simp[IntKind.wrap,IntKind.bits,IntKind.signed]
theorem qMx (n:Int):IntKind.u32.wrap n=n%4294967296:=by simp[IntKind.wrap,IntKind.bits,IntKind.signed]
theorem qP8 (n:Int):IntKind.u64.wrap n=n%18446744073709551616:=by simp[IntKind.wrap,IntKind.bits,IntKind.signed]
theorem zR5 (n:Int):IntKind.i64.wrap n=if n%18446744073709551616 ≥ 9223372036854775808 then n%18446744073709551616-18446744073709551616 else n%18446744073709551616:=by
 simp[IntKind.wrap,IntKind.bits,IntKind.signed]
theorem qBr {n:Int} (h : -9223372036854775808≤n∧n<9223372036854775808):IntKind.i64.wrap n=n:=by
 rw[zR5];split<;>omega
theorem qGh {n:Int} (h:0≤n∧n<18446744073709551616):IntKind.u64.wrap n=n:=by
 rw[qP8];omega
theorem zEd {n:Int} (h:0≤n∧n<4294967296):IntKind.u32.wrap n=n:=by
 rw[qMx];omega
theorem qDt (x:UInt32):(BitVec.ofInt 32 (x.toNat:Int))=x.toBitVec:=by
 apply BitVec.eq_of_toNat_eq
 simp
theorem qP6 (z:UInt32):T.int .u32 (IntKind.u32.wrap (z.toBitVec.toNat:Int))=qP z:=by
 rw[qMx]
 have:=z.toNat_lt
 unfold qP
 rw[UInt32.toNat_toBitVec]
 congr 1;omega
theorem zGi {x y:UInt32}:qIi .or (qP x) (qP y)=some (qP (x ||| y)):=by
 change some (T.int .u32 (IntKind.u32.wrap ((BitVec.ofInt 32 (x.toNat:Int) ||| BitVec.ofInt 32 (y.toNat:Int)).toNat:Int)))=_
 rw[qDt,qDt,←UInt32.toBitVec_or,qP6]
theorem zBk {x y:UInt32}:qIi .and (qP x) (qP y)=some (qP (x &&& y)):=by
 change some (T.int .u32 (IntKind.u32.wrap ((BitVec.ofInt 32 (x.toNat:Int) &&& BitVec.ofInt 32 (y.toNat:Int)).toNat:Int)))=_
 rw[qDt,qDt,←UInt32.toBitVec_and,qP6]
theorem zBl {x y:UInt32}:qIi .xor (qP x) (qP y)=some (qP (x ^^^ y)):=by
 change some (T.int .u32 (IntKind.u32.wrap ((BitVec.ofInt 32 (x.toNat:Int) ^^^ BitVec.ofInt 32 (y.toNat:Int)).toNat:Int)))=_
 rw[qDt,qDt,←UInt32.toBitVec_xor,qP6]
theorem zBj {x y:UInt32}:qIi .add (qP x) (qP y)=some (qP (x+y)):=by
 change some (T.int .u32 (IntKind.u32.wrap ((x.toNat:Int)+(y.toNat:Int))))=_
 rw[qMx]
 unfold qP
 rw[UInt32.toNat_add]
 congr 2
theorem zH0 {x:UInt32}:unT .xor (qP x)=some (qP (~~~ x)):=by
 change some (T.int .u32 (IntKind.u32.wrap ((BitVec.ofInt 32 (IntKind.max .u32) ^^^ BitVec.ofInt 32 (x.toNat:Int)).toNat:Int)))=_
 have:BitVec.ofInt 32 (IntKind.max .u32)=BitVec.allOnes 32:=by decide
 rw[qDt,this,←qP6]
 congr 5
theorem qQq {x:UInt32} {k:IntKind} {n:Nat} (h:n<32):qIi .shr (qP x) (.int k n)=some (qP (x >>> UInt32.ofNat n)):=by
 change (if (n:Int)<0 then none else some (T.int .u32 ((x.toNat:Int).fdiv (2^min (n:Int).toNat 32))))=_
 rw[if_neg (by omega)]
 have hm:min (n:Int).toNat 32=n:=by simp;omega
 rw[hm]
 unfold qP
 rw[UInt32.toNat_shiftRight]
 have hn:(UInt32.ofNat n).toNat%32=n:=by
  rw[UInt32.toNat_ofNat_of_lt' (by simp[UInt32.size];omega)];omega
 rw[hn,Nat.shiftRight_eq_div_pow]
 congr 2
 rw[Int.fdiv_eq_ediv_of_nonneg _ (by exact Int.pow_nonneg (by omega))]
 norm_cast
theorem qQp {x:UInt32} {k:IntKind} {n:Nat} (h:n<32):qIi .shl (qP x) (.int k n)=some (qP (x <<< UInt32.ofNat n)):=by
 change (if (n:Int)<0 then none else some (T.int .u32 (IntKind.u32.wrap ((x.toNat:Int)*2^min (n:Int).toNat 32))))=_
 rw[if_neg (by omega)]
 have hm:min (n:Int).toNat 32=n:=by simp;omega
 rw[hm,qMx]
 unfold qP
 rw[UInt32.toNat_shiftLeft]
 have hn:(UInt32.ofNat n).toNat%32=n:=by
  rw[UInt32.toNat_ofNat_of_lt' (by simp[UInt32.size];omega)];omega
 rw[hn,Nat.shiftLeft_eq]
 congr 2
theorem qVx {b:UInt8}:qGe .u32 [.t (qA b)] = .ret (.t (qP b.toUInt32),[]):=by
 change Q.ret (V.t (.int .u32 (IntKind.u32.wrap (b.toNat:Int))),([]:Wr))=_
 have:=b.toNat_lt
 rw[qMx]
 unfold qP
 rw[UInt8.toNat_toUInt32]
 have:(b.toNat:Int)%4294967296=b.toNat:=by omega
 rw[this]
theorem zBu {x:UInt32}:qGe .u8 [.t (qP x)] = .ret (.t (qA x.toUInt8),[]):=by
 change Q.ret (V.t (.int .u8 (IntKind.u8.wrap (x.toNat:Int))),([]:Wr))=_
 rw[qXu]
 unfold qA
 rw[UInt32.toNat_toUInt8]
 congr 4
theorem zBv {x:UInt64}:qGe .u8 [.t (zTv x)] = .ret (.t (qA x.toUInt8),[]):=by
 change Q.ret (V.t (.int .u8 (IntKind.u8.wrap (x.toNat:Int))),([]:Wr))=_
 rw[qXu]
 unfold qA
 rw[UInt64.toNat_toUInt8]
 congr 4
theorem zJe {x:UInt32}:(qP x).cells=[qP x]:=Eq.trans (Eq.refl _) rfl
theorem zJf {x:UInt64}:(zTv x).cells=[zTv x]:=Eq.trans (Eq.refl _) rfl
theorem zGl {x:UInt8}:(qA x).cells=[qA x]:=Eq.trans (Eq.refl _) rfl
theorem zH3 {x:UInt32}:(V.t (qP x)).cells=[V.t (qP x)]:=Eq.trans (Eq.refl _) rfl
theorem zH4 {x:UInt64}:(V.t (zTv x)).cells=[V.t (zTv x)]:=Eq.trans (Eq.refl _) rfl
theorem zDe {x:UInt8}:(V.t (qA x)).cells=[V.t (qA x)]:=Eq.trans (Eq.refl _) rfl
theorem qLi : ∀ {bs:List UInt8},qF0 (bs.map fun b=>V.t (qA b))=some bs
 | []=>rfl
 | b::r=>by
  have ih:=qLi (bs:=r)
  simp only[List.map_cons]
  show (qF0 (r.map fun b=>V.t (qA b))).map (UInt8.ofNat (b.toNat:Int).toNat :: ·)=_
  rw[ih]
  simp
theorem zU0 {b:UInt8}:wA (.t (qA b))=some (b.toNat:Int):=Eq.trans (Eq.refl _) rfl
theorem zZb {b:UInt32}:wA (.t (qP b))=some (b.toNat:Int):=Eq.trans (Eq.refl _) rfl
theorem zZc {b:UInt64}:wA (.t (zTv b))=some (b.toNat:Int):=Eq.trans (Eq.refl _) rfl
theorem zX4 {b:UInt8}:(V.t (qA b)).plain=true:=Eq.trans (Eq.refl _) rfl
theorem jCf {b:UInt32}:(V.t (qP b)).plain=true:=Eq.trans (Eq.refl _) rfl
theorem jCg {b:UInt64}:(V.t (zTv b)).plain=true:=Eq.trans (Eq.refl _) rfl
theorem zKf {b:UInt8}:(qA b).flat=true:=Eq.trans (Eq.refl _) rfl
theorem zOw {b:UInt32}:(qP b).flat=true:=Eq.trans (Eq.refl _) rfl
theorem zOx {b:UInt64}:(zTv b).flat=true:=Eq.trans (Eq.refl _) rfl
attribute [go_sem] zU0 zZb zZc zX4 jCf jCg zKf zOw zOx zGl zJe zJf zDe zH3 zH4 qVx zBu zBv zGi zBk zBl zBj zH0
end Go.Eng
end
section
namespace Go.Eng
def d8:T→Option UInt8
 | .int .u8 n=>if 0≤n∧n<256 then some (UInt8.ofNat n.toNat) else none
 | _=>none
def d32:T→Option UInt32
 | .int .u32 n=>if 0≤n∧n<4294967296 then some (UInt32.ofNat n.toNat) else none
 | _=>none
def dL {α:Type} (d:T→Option α):List T→Option (List α)
 | []=>some []
 | x::r=>(d x).bind fun y=>(dL d r).map (y :: ·)
def dSl {α:Type} (d:T→Option α):T→Option (List α)
 | .sl es=>dL d es
 | _=>none
theorem zBw {x:UInt8}:d8 (qA x)=some x:=by
 have:=x.toNat_lt
 unfold d8 qA
 simp only
 rw[if_pos (by omega)]
 simp
theorem zJt {x:UInt32}:d32 (qP x)=some x:=by
 have:=x.toNat_lt
 unfold d32 qP
 simp only
 rw[if_pos (by omega)]
 simp
theorem zSp {α:Type} {d:T→Option α} {e:α→T} (hd : ∀ x,d (e x)=some x) : ∀ {xs:List α},dL d (xs.map e)=some xs
 | []=>rfl
 | x::r=>by simp[dL,hd,zSp hd]
def bsT (bs:List UInt8):T:= .sl (bs.map qA)
def dBs (t:T):Option (List UInt8):=dSl d8 t
theorem qYs {bs:List UInt8}:dBs (.sl (bs.map qA))=some bs:=zSp (fun _=>zBw)
end Go.Eng
end
section
namespace Go.Eng
variable {cx:Cx} {β:Nat→Option BI} {F:Nat→Prop} {a:Act} {w:World}
theorem qI.freeze {fs:Fs} {hs:Hs} {fz:List Nat} {fw:Wr} {l:List Nat} (h:(qV0 fz).run (jT hs)=some (fw,l)):qI fs hs fs (qX1 hs fw):=by
 intro cx β F a w R
 obtain⟨F1,R1,_⟩:=Rel.freezeAll h R (fun id _=> .inl rfl)
 exact⟨β,F1,by rw[qL3];exact R1⟩
def rdL (g:V→Q V):List V→Q (List V)
 | []=> .ret []
 | c::r=>(g c).bind fun x=>(rdL g r).bind fun y=> .ret (x::y)
def rdV:Nat→V→Q V
 | n+1,.sl id off len=> .get id fun
  | .live _ _ false _=>(zN (n+1) (.sl id off len)).bind fun p=>Q.assert (p.2=[]) (.ret p.1)
  | _=> .ret (.sl id off len)
 | n+1,.agg cs=>(rdL (rdV n) cs).bind fun p=> .ret (V.mk p)
 | n+1,.fn f cs=>(rdL (rdV n) cs).bind fun p=> .ret (.fn f p)
 | _,v=> .ret v
def zNs (es:List V):Q (List V):=
 match qE7 es with
 | some _=> .ret es
 | none=>rdL (rdV 4) es
theorem qKj {hm:Nat→Option Ob} {g:V→Q V} : ∀ {cs cs':List V} {l:List Nat},(rdL g cs).run hm=some (cs',l)→
  cs'.length=cs.length ∧ ∀ (i:Nat) (c c':V),cs[i]?=some c→cs'[i]?=some c' → ∃ li,(g c).run hm=some (c',li)
 | [],cs',l,h=>by
  obtain⟨e,_⟩:=qC h
  cases e
  exact⟨rfl,by intro i c c' h;simp at h⟩
 | c::r,cs',l,h=>by
  simp only[rdL] at h
  obtain⟨x,l1,l2,hx,h,_⟩:=zB h
  obtain⟨y,l3,l4,hy,h,_⟩:=zB h
  obtain⟨e,_⟩:=qC h
  cases e
  obtain⟨g1,g2⟩:=qKj hy
  refine⟨by simp[g1],fun i a b ha hb=>?_⟩
  cases i with
  | zero=>simp at ha hb;subst ha hb;exact⟨_,hx⟩
  | succ i=>exact g2 i a b (by simpa using ha) (by simpa using hb)
theorem qGc {fm:Nat→Option V} {hm:Nat→Option Ob} (R:Rel cx β F fm hm a w) : ∀ {n:Nat} {v v':V} {l:List Nat} {x:Value},(rdV n v).run hm=some (v',l)→qU β F w v x→qU β F w v' x
 | 0,v,v',l,x,h,hx=>by
  have h':(Q.ret v).run hm=some (v',l):=by cases v<;>exact h
  obtain⟨e,_⟩:=qC h'
  cases e;exact hx
 | n+1,v,v',l,x,h,hx=>by
  cases v with
  | sl id off len=>
   simp only[rdV] at h
   obtain⟨o,l',ho,h2,_⟩:=vO h
   have keep:(Q.ret (V.sl id off len)).run hm=some (v',l')→qU β F w v' x:=by
    intro h3
    obtain⟨e,_⟩:=qC h3
    cases e;exact hx
   cases o with
   | dead=>exact keep h2
   | live z es wr full=>
    cases wr with
    | true=>exact keep h2
    | false=>
     obtain⟨p,l1,l2,hp,h3,_⟩:=zB h2
     obtain⟨hp2,h3⟩:=qO h3
     obtain⟨e,_⟩:=qC h3
     cases e
     obtain⟨p1,p2⟩:=p
     simp only at hp2 ⊢
     subst hp2
     have:=wX R hp hx (fz':=[]) (by simp)
     rw[qV1] at this
     exact this
  | agg cs=>
   simp only[rdV] at h
   obtain⟨p,l1,l2,hp,h,_⟩:=zB h
   obtain⟨e,_⟩:=qC h
   cases e
   obtain⟨g1,g2⟩:=qKj hp
   obtain⟨us,rfl,k1,k2,k3⟩:=hx.agg_inv
   refine qU.mk (by rw[k1,g1]) k2 (fun i c' u hc' hu=>?_)
   have hi:i<cs.length:=by rw[←g1];exact (List.getElem?_eq_some_iff.1 hc').1
   obtain⟨li,m1⟩:=g2 i cs[i] c' (by simp[hi]) hc'
   exact qGc R m1 (k3 i cs[i] u (by simp[hi]) hu)
  | fn f cs=>
   simp only[rdV] at h
   obtain⟨p,l1,l2,hp,h,_⟩:=zB h
   obtain⟨e,_⟩:=qC h
   cases e
   obtain⟨g1,g2⟩:=qKj hp
   cases hx with
   | fn _ _ us k1 k3=>
    refine .fn f _ us (by rw[k1,g1]) (fun i c' u hc' hu=>?_)
    have hi:i<cs.length:=by rw[←g1];exact (List.getElem?_eq_some_iff.1 hc').1
    obtain⟨li,m1⟩:=g2 i cs[i] c' (by simp[hi]) hc'
    exact qGc R m1 (k3 i cs[i] u (by simp[hi]) hu)
  | t y=>obtain⟨e,_⟩:=qC (x:=V.t y) h;cases e;exact hx
  | nil=>obtain⟨e,_⟩:=qC (x:=V.nil) h;cases e;exact hx
  | ro y=>obtain⟨e,_⟩:=qC (x:=V.ro y) h;cases e;exact hx
  | ref i j k=>obtain⟨e,_⟩:=qC (x:=V.ref i j k) h;cases e;exact hx
  | bd g i j k=>obtain⟨e,_⟩:=qC (x:=V.bd g i j k) h;cases e;exact hx
  | bq=>obtain⟨e,_⟩:=qC (x:=V.bq) h;cases e;exact hx
  | tup y=>obtain⟨e,_⟩:=qC (x:=V.tup y) h;cases e;exact hx
theorem zQd {fm:Nat→Option V} {hm:Nat→Option Ob} (R:Rel cx β F fm hm a w) {n:Nat} {v v':V} {l:List Nat} (h:(rdV n v).run hm=some (v',l)) (hc : ∀ (j:Nat) (y:V),v.cells[j]?=some y → ∃ u,qU β F w y u∧u.oneCell'=true) :
  v'.cells.length=v.cells.length ∧ ∀ (j:Nat) (y y':V) (u:Value),v.cells[j]?=some y→v'.cells[j]?=some y'→qU β F w y u→u.oneCell'=true→qU β F w y' u:=by
 have one:v.cells=[v]→v'.cells.length=v.cells.length ∧ ∀ (j:Nat) (y y':V) (u:Value),v.cells[j]?=some y→v'.cells[j]?=some y'→qU β F w y u→u.oneCell'=true→qU β F w y' u:=by
  intro hv
  obtain⟨u0,h1,h2⟩:=hc 0 v (by rw[hv];rfl)
  have hv':v'.cells=[v']:=(qGc R h h1).one_cells h2
  rw[hv,hv']
  refine⟨rfl,fun j y y' u hy hy' hr ho=>?_⟩
  cases j with
  | zero=>simp at hy hy';subst hy hy';exact qGc R h hr
  | succ j=>simp at hy
 have same:v'=v→v'.cells.length=v.cells.length ∧ ∀ (j:Nat) (y y':V) (u:Value),v.cells[j]?=some y→v'.cells[j]?=some y'→qU β F w y u→u.oneCell'=true→qU β F w y' u:=by
  rintro rfl
  refine⟨rfl,fun j y y' u hy hy' hr _=>?_⟩
  rw[hy] at hy';cases hy';exact hr
 cases v with
 | agg cs=>
  cases n with
  | zero=>obtain⟨e,_⟩:=qC (x:=V.agg cs) h;exact same e
  | succ n=>
   simp only[rdV] at h
   obtain⟨p,l1,l2,hp,h,_⟩:=zB h
   obtain⟨e,_⟩:=qC h
   cases e
   obtain⟨g1,g2⟩:=qKj hp
   rw[qPw]
   refine⟨g1,fun j y y' u hy hy' hr _=>?_⟩
   obtain⟨li,m1⟩:=g2 j y y' hy hy'
   exact qGc R m1 hr
 | t y=>
  have h':(Q.ret (V.t y)).run hm=some (v',l):=by cases n<;>exact h
  obtain⟨e,_⟩:=qC h';exact same e
 | sl id off len=>exact one rfl
 | fn f cs=>exact one rfl
 | nil=>exact one rfl
 | ro y=>exact one rfl
 | ref i j k=>exact one rfl
 | bd g i j k=>exact one rfl
 | bq=>exact one rfl
 | tup y=>exact one rfl
theorem qU4 {fm:Nat→Option V} {hm:Nat→Option Ob} (R:Rel cx β F fm hm a w) {es es':List V} {l:List Nat} (h:(zNs es).run hm=some (es',l)) {sz:Nat} {c:Array Value} (hh:vJ β F w es sz c):es'.length=es.length∧vJ β F w es' sz c:=by
 unfold zNs at h
 split at h
 ·obtain⟨e,_⟩:=qC h
  cases e
  exact⟨rfl,hh⟩
 ·obtain⟨g1,g2⟩:=qKj h
  refine⟨g1,fun i x hx=>?_⟩
  have hi:i<es.length:=by rw[←g1];exact (List.getElem?_eq_some_iff.1 hx).1
  obtain⟨li,m1⟩:=g2 i es[i] x (by simp[hi]) hx
  obtain⟨k1,k2⟩:=hh i es[i] (by simp[hi])
  obtain⟨q1,q2⟩:=zQd R m1 (fun j y hy=>let ⟨u,_,b,d⟩:=k2 j y hy;⟨u,b,d⟩)
  refine⟨q1.trans k1,fun j y' hy'=>?_⟩
  have hj:j<es[i].cells.length:=by rw[←q1];exact (List.getElem?_eq_some_iff.1 hy').1
  obtain⟨u,hu,hr,ho⟩:=k2 j (es[i].cells[j]'hj) (by simp[hj])
  exact⟨u,hu,q2 j (es[i].cells[j]'hj) y' u (by simp[hj]) hy' hr ho,ho⟩
theorem qR7 {hm:Nat→Option Ob} {es es':List V} {l:List Nat} (h:(zNs es).run hm=some (es',l)):es'.length=es.length:=by
 unfold zNs at h
 split at h
 ·obtain⟨e,_⟩:=qC h
  cases e;rfl
 ·exact (qKj h).1
end Go.Eng
end
section
namespace Go.Eng
variable {cx:Cx} {β:Nat→Option BI} {F:Nat→Prop} {a:Act} {w:World}
mutual
def vEq (ρ:Nat→Nat) (vt ko:List Nat):V→V→Prop
 | .nil,.nil=>True
 | .nil,.t x=>x = .sl []
 | .nil,.sl id off len=>(vt.contains id=true∧off=0)∧len=0
 | .agg cs,.agg cs'=>qWw ρ vt ko cs cs'
 | .agg cs,.t (.agg ts)=>qWw ρ vt ko cs (ts.map .t)
 | .fn f cs,.fn f' cs'=>f=f'∧qWw ρ vt ko cs cs'
 | v,v'=>v=v'.ren ρ∧(v'.ids.all fun i=>ko.contains i)=true
def qWw (ρ:Nat→Nat) (vt ko:List Nat):List V→List V→Prop
 | [],[]=>True
 | c::r,c'::r'=>vEq ρ vt ko c c'∧qWw ρ vt ko r r'
 | _,_=>False
end
theorem qGf {ρ:Nat→Nat} {vt ko:List Nat} : ∀ {cs cs':List V},qWw ρ vt ko cs cs'→cs'.length=cs.length ∧ ∀ (i:Nat) (c c':V),cs[i]?=some c→cs'[i]?=some c'→vEq ρ vt ko c c'
 | [],[],_=>⟨rfl,by intro i c c' h;simp at h⟩
 | [],_::_,h=>by simp[qWw] at h
 | _::_,[],h=>by simp[qWw] at h
 | c::r,c'::r',h=>by
  simp only[qWw] at h
  obtain⟨h1,h2⟩:=h
  obtain⟨g1,g2⟩:=qGf h2
  refine⟨by simp[g1],fun i a b ha hb=>?_⟩
  cases i with
  | zero=>simp at ha hb;subst ha hb;exact h1
  | succ i=>exact g2 i a b (by simpa using ha) (by simpa using hb)
structure zYr (ρ:Nat→Nat) (vt ko:List Nat) (β β':Nat→Option BI):Prop where
 o : ∀ i,i∈ko→β' i=β (ρ i)
 v : ∀ i,i∈vt → ∃ z,β' i=some ⟨none,z,0⟩
theorem qGg {ρ:Nat→Nat} {vt ko:List Nat} {β β':Nat→Option BI} (N:zYr ρ vt ko β β') {v':V} {x:Value} (hx:qU β F w (v'.ren ρ) x) (h:(v'.ids.all fun i=>ko.contains i)=true):qU β' F w v' x:=by
 have h1:=hx.unren (ρ:=ρ) rfl
 refine h1.sub (fun i hi bi hb=>?_)
 have:=List.all_eq_true.1 h i hi
 rw[N.o i (by simpa using this)]
 exact hb
theorem qMp {ρ:Nat→Nat} {vt ko:List Nat} {β β':Nat→Option BI} (N:zYr ρ vt ko β β') {v:V} {x:Value} (hx:qU β F w v x) : ∀ {v':V},vEq ρ vt ko v v'→qU β' F w v' x:=by
 have aggc : ∀ {cs cs':List V} {vs:Array Value},vs.size=cs.length→(∀ u∈vs,u.oneCell'=true)→(∀ (i:Nat) (c:V) (u:Value),cs[i]?=some c→vs[i]?=some u → ∀ {v':V},vEq ρ vt ko c v'→qU β' F w v' u)→
   qWw ρ vt ko cs cs'→vs.size=cs'.length ∧ ∀ (i:Nat) (c:V) (u:Value),cs'[i]?=some c→vs[i]?=some u→qU β' F w c u:=by
  intro cs cs' vs hl _ ih h
  obtain⟨g1,g2⟩:=qGf h
  refine⟨by rw[hl,g1],fun i c u hc hu=>?_⟩
  have hi:i<cs.length:=by rw[←g1];exact (List.getElem?_eq_some_iff.1 hc).1
  exact ih i cs[i] u (by simp[hi]) hu (g2 i cs[i] c (by simp[hi]) hc)
 induction hx with
 | @t y z hy=>
  intro v' h
  have h':V.t y=v'.ren ρ∧(v'.ids.all fun i=>ko.contains i)=true:=by cases v'<;>(try exact h)<;>(rename_i q;cases q<;>exact h)
  exact qGg N (by rw[←h'.1];exact .t hy) h'.2
 | nil=>
  intro v' h
  cases v' with
  | nil=>exact .nil
  | t y=>simp only[vEq] at h;subst h;exact .t .nil
  | sl id off len=>
   simp only[vEq] at h
   obtain⟨⟨h1,rfl⟩,rfl⟩:=h
   obtain⟨z,hz⟩:=N.v id (by simpa using h1)
   exact .slv id z 0 hz
  | _=>simp[vEq,V.ren] at h
 | ref id i f b sz room hb=>
  intro v' h
  have h':V.ref id i f=v'.ren ρ∧(v'.ids.all fun i=>ko.contains i)=true:=by cases v'<;>(try exact h)<;>(rename_i q;cases q<;>exact h)
  exact qGg N (by rw[←h'.1];exact .ref id i f b sz room hb) h'.2
 | bd g id i f b sz room hb=>
  intro v' h
  have h':V.bd g id i f=v'.ren ρ∧(v'.ids.all fun i=>ko.contains i)=true:=by cases v'<;>(try exact h)<;>(rename_i q;cases q<;>exact h)
  exact qGg N (by rw[←h'.1];exact .bd g id i f b sz room hb) h'.2
 | bq b=>
  intro v' h
  have h':V.bq=v'.ren ρ∧(v'.ids.all fun i=>ko.contains i)=true:=by cases v'<;>(try exact h)<;>(rename_i q;cases q<;>exact h)
  exact qGg N (by rw[←h'.1];exact .bq b) h'.2
 | ro cs a news ha hn h1 hF hw hh=>
  intro v' h
  have h':V.ro cs=v'.ren ρ∧(v'.ids.all fun i=>ko.contains i)=true:=by cases v'<;>(try exact h)<;>(rename_i q;cases q<;>exact h)
  exact qGg N (by rw[←h'.1];exact .ro cs a news ha hn h1 hF hw hh) h'.2
 | sl id off len cap b sz room a hb hlc hr ha hs=>
  intro v' h
  have h':V.sl id off len=v'.ren ρ∧(v'.ids.all fun i=>ko.contains i)=true:=by cases v'<;>(try exact h)<;>(rename_i q;cases q<;>exact h)
  exact qGg N (by rw[←h'.1];exact .sl id off len cap b sz room a hb hlc hr ha hs) h'.2
 | slv id sz room hb=>
  intro v' h
  have h':V.sl id 0 0=v'.ren ρ∧(v'.ids.all fun i=>ko.contains i)=true:=by cases v'<;>(try exact h)<;>(rename_i q;cases q<;>exact h)
  exact qGg N (by rw[←h'.1];exact .slv id sz room hb) h'.2
 | agg cs vs hl h1 hh ih=>
  intro v' h
  cases v' with
  | agg cs'=>
   simp only[vEq] at h
   obtain⟨g1,g2⟩:=aggc hl h1 ih h
   exact .agg cs' vs g1 h1 g2
  | t y=>
   cases y with
   | agg ts=>
    simp only[vEq] at h
    obtain⟨g1,g2⟩:=aggc hl h1 ih h
    refine .t (.agg ts vs (by simpa using g1) h1 (fun i c u hc hu=>?_))
    have:=g2 i (.t c) u (by rw[List.getElem?_map,hc];rfl) hu
    cases this with
    | t h=>exact h
   | _=>simp[vEq,V.ren] at h
  | _=>simp[vEq,V.ren] at h
 | tup cs vs hl hh ih=>
  intro v' h
  have h':V.tup cs=v'.ren ρ∧(v'.ids.all fun i=>ko.contains i)=true:=by cases v'<;>(try exact h)<;>(rename_i q;cases q<;>exact h)
  exact qGg N (by rw[←h'.1];exact .tup cs vs hl hh) h'.2
 | fn f cs vs hl hh ih=>
  intro v' h
  cases v' with
  | fn f' cs'=>
   simp only[vEq] at h
   obtain⟨rfl,h⟩:=h
   obtain⟨g1,g2⟩:=qGf h
   refine .fn f cs' vs (by rw[hl,g1]) (fun i c u hc hu=>?_)
   have hi:i<cs.length:=by rw[←g1];exact (List.getElem?_eq_some_iff.1 hc).1
   exact ih i cs[i] u (by simp[hi]) hu (g2 i cs[i] c (by simp[hi]) hc)
  | t y=>cases y<;>simp[vEq,V.ren] at h
  | _=>simp[vEq,V.ren] at h
theorem qRs {v y:V} {j:Nat} (hy:v.cells[j]?=some y) : ∀ r∈y.ids,r∈v.ids:=by
 intro r hr
 cases v with
 | agg cs=>simp only[V.ids];exact xJ (List.mem_of_getElem? hy) hr
 | t t=>
  obtain⟨c,_,rfl⟩:=qAe hy
  simp[V.ids] at hr
 | _=>
  simp only[V.cells] at hy
  cases j with
  | zero=>simp at hy;subst hy;exact hr
  | succ j=>simp at hy
theorem zM7 {ρ:Nat→Nat} {vt ko:List Nat} {β β':Nat→Option BI} (N:zYr ρ vt ko β β') {v v':V} (h:vEq ρ vt ko v v') :
  v'.cells.length=v.cells.length ∧ ∀ (j:Nat) (y y':V),v.cells[j]?=some y→v'.cells[j]?=some y' → ∀ x,qU β F w y x→qU β' F w y' x:=by
 have ren:v=v'.ren ρ∧(v'.ids.all fun i=>ko.contains i)=true→v'.cells.length=v.cells.length ∧ ∀ (j:Nat) (y y':V),v.cells[j]?=some y→v'.cells[j]?=some y' → ∀ x,qU β F w y x→qU β' F w y' x:=by
  rintro⟨rfl,hall⟩
  rw[qHo,zO]
  refine⟨by simp,fun j y y' hy hy' x hx=>?_⟩
  rw[List.getElem?_map,hy'] at hy
  cases hy
  refine qGg N hx (List.all_eq_true.2 (fun r hr=>?_))
  exact List.all_eq_true.1 hall r (qRs hy' r hr)
 have one:v.cells=[v]→v'.cells=[v']→v'.cells.length=v.cells.length ∧ ∀ (j:Nat) (y y':V),v.cells[j]?=some y→v'.cells[j]?=some y' → ∀ x,qU β F w y x→qU β' F w y' x:=by
  intro e1 e2
  rw[e1,e2]
  refine⟨rfl,fun j y y' hy hy' x hx=>?_⟩
  cases j with
  | zero=>simp at hy hy';subst hy hy';exact qMp N hx h
  | succ j=>simp at hy
 cases v with
 | nil=>
  cases v' with
  | t y=>simp only[vEq] at h;subst h;exact one rfl rfl
  | agg cs=>simp[vEq,V.ren] at h
  | _=>exact one rfl rfl
 | agg cs=>
  cases v' with
  | agg cs'=>
   simp only[vEq] at h
   obtain⟨g1,g2⟩:=qGf h
   exact⟨g1,fun j y y' hy hy' x hx=>qMp N hx (g2 j y y' hy hy')⟩
  | t y=>
   cases y with
   | agg ts=>
    simp only[vEq] at h
    obtain⟨g1,g2⟩:=qGf h
    exact⟨g1,fun j y y' hy hy' x hx=>qMp N hx (g2 j y y' hy hy')⟩
   | _=>simp[vEq,V.ren] at h
  | _=>simp[vEq,V.ren] at h
 | fn f cs=>
  cases v' with
  | fn f' cs'=>exact one rfl rfl
  | t y=>cases y<;>simp[vEq,V.ren] at h
  | _=>simp[vEq,V.ren] at h
 | t y=>exact ren (by cases v'<;>(try exact h)<;>(rename_i q;cases q<;>exact h))
 | ref i j k=>exact ren (by cases v'<;>(try exact h)<;>(rename_i q;cases q<;>exact h))
 | bd g i j k=>exact ren (by cases v'<;>(try exact h)<;>(rename_i q;cases q<;>exact h))
 | bq=>exact ren (by cases v'<;>(try exact h)<;>(rename_i q;cases q<;>exact h))
 | sl i j k=>exact ren (by cases v'<;>(try exact h)<;>(rename_i q;cases q<;>exact h))
 | ro cs=>exact ren (by cases v'<;>(try exact h)<;>(rename_i q;cases q<;>exact h))
 | tup cs=>exact ren (by cases v'<;>(try exact h)<;>(rename_i q;cases q<;>exact h))
def zUp (ρ:Nat→Nat) (vt ko:List Nat) (u es':List V):Prop:=
 match qE7 u with
 | some _=>u=qFs ρ es'∧((qLz es').all fun i=>ko.contains i)=true
 | none=>qWw ρ vt ko u es'
theorem zGr {ρ:Nat→Nat} {vt ko:List Nat} {β β':Nat→Option BI} (N:zYr ρ vt ko β β') {u es':List V} (h:zUp ρ vt ko u es') {sz:Nat} {c:Array Value} (hh:vJ β F w u sz c):vJ β' F w es' sz c:=by
 unfold zUp at h
 split at h
 ·obtain⟨rfl,h⟩:=h
  have h1:=hh.unren
  intro i x hx
  obtain⟨k1,k2⟩:=h1 i x hx
  refine⟨k1,fun j y hy=>?_⟩
  obtain⟨u,g1,g2,g3⟩:=k2 j y hy
  refine⟨u,g1,g2.sub (fun r hr bi hb=>?_),g3⟩
  have:=List.all_eq_true.1 h r (xJ (List.mem_of_getElem? hx) (qRs hy r hr))
  rw[N.o r (by simpa using this)]
  exact hb
 ·obtain⟨g1,g2⟩:=qGf h
  intro i x hx
  have hi:i<u.length:=by rw[←g1];exact (List.getElem?_eq_some_iff.1 hx).1
  obtain⟨k1,k2⟩:=hh i u[i] (by simp[hi])
  obtain⟨q1,q2⟩:=zM7 (F:=F) (w:=w) N (g2 i u[i] x (by simp[hi]) hx)
  refine⟨q1.trans k1,fun j y' hy'=>?_⟩
  have hj:j<u[i].cells.length:=by rw[←q1];exact (List.getElem?_eq_some_iff.1 hy').1
  obtain⟨q,hu,hr,ho⟩:=k2 j (u[i].cells[j]'hj) (by simp[hj])
  exact⟨q,hu,q2 j (u[i].cells[j]'hj) y' (by simp[hj]) hy' q hr,ho⟩
theorem zBy {ρ:Nat→Nat} {vt ko:List Nat} {u es':List V} (h:zUp ρ vt ko u es'):es'.length=u.length:=by
 unfold zUp at h
 split at h
 ·rw[h.1,zO];simp
 ·exact (qGf h).1
def zHt (hs:Hs) (ρ:Nat→Nat) (vt ko:List Nat) (v:Option V) (v':V):Prop:=
 match v with
 | some v=>(rdV 4 v).wp hs (fun u _=>vEq ρ vt ko u v')
 | none=>False
def qI1 (fs:Fs) (hs:Hs) (ρ:Nat→Nat) (vt ko:List Nat):Fs→Prop
 | []=>True
 | (t,v')::r=>zHt hs ρ vt ko (jT fs t) v'∧qI1 fs hs ρ vt ko r
def obC (hs:Hs) (ρ:Nat→Nat) (vt ko:List Nat):Option Ob→Ob→Prop
 | some (.live z es wr full),.live z' es' wr' full'=>z=z'∧wr=wr'∧(full'=true→full=true)∧(zNs es).wp hs (fun u _=>zUp ρ vt ko u es')
 | some _,.dead=>True
 | _,_=>False
def zNn (hs:Hs) (ρ:Nat→Nat) (vt ko:List Nat):Hs→Prop
 | []=>True
 | (i,o')::r=>obC hs ρ vt ko (jT hs (ρ i)) o'∧zNn hs ρ vt ko r
def zM9:Hs→Bool
 | []=>true
 | (i,.live _ [] true _)::r=>decide (100≤i)&&zM9 r
 | _=>false
def zPy (ρ:Nat→Nat) (old vt new:List Nat):Bool:=zFn ρ old new&&vt.all fun i => !new.contains i
theorem qI1.get {fs:Fs} {hs:Hs} {ρ:Nat→Nat} {vt ko:List Nat} : ∀ {fs':Fs},qI1 fs hs ρ vt ko fs' → ∀ t v',jT fs' t=some v'→zHt hs ρ vt ko (jT fs t) v'
 | [],_,t,v',h=>by cases h
 | (k,u)::r,hw,t,v',h=>by
  simp only[jT] at h
  split at h
  ·cases h;subst_vars;exact hw.1
  ·exact qI1.get hw.2 t v' h
theorem zNn.get {hs:Hs} {ρ:Nat→Nat} {vt ko:List Nat} : ∀ {hs':Hs},zNn hs ρ vt ko hs' → ∀ i o',jT hs' i=some o'→obC hs ρ vt ko (jT hs (ρ i)) o'
 | [],_,t,v',h=>by cases h
 | (k,u)::r,hw,t,v',h=>by
  simp only[jT] at h
  split at h
  ·cases h;subst_vars;exact hw.1
  ·exact zNn.get hw.2 t v' h
theorem zM9.get : ∀ {hs':Hs},zM9 hs'=true → ∀ i o',jT hs' i=some o'→(∃ z full,o' = .live z [] true full)∧100≤i
 | [],_,t,v',h=>by cases h
 | (k,u)::r,hw,t,v',h=>by
  cases u with
  | dead=>simp[zM9] at hw
  | live z es wr full=>
   cases es with
   | cons _ _=>simp[zM9] at hw
   | nil=>
    cases wr with
    | false=>simp[zM9] at hw
    | true=>
     simp only[zM9,Bool.and_eq_true,decide_eq_true_eq] at hw
     simp only[jT] at h
     split at h
     ·cases h;subst_vars;exact⟨⟨z,full,rfl⟩,hw.1⟩
     ·exact zM9.get hw.2 t v' h
theorem qI.cv0 {fs fs':Fs} {hs hv ho:Hs} (ρ:Nat→Nat) (h1:qI1 fs hs ρ (hv.map (·.1)) (ho.map (·.1)) fs') (h2:zNn hs ρ (hv.map (·.1)) (ho.map (·.1)) ho) (h3:zM9 hv=true) (h4:zPy ρ (hs.map (·.1)) (hv.map (·.1)) (ho.map (·.1))=true):qI fs hs fs' (hv++ho):=by
 simp only[zPy,zFn,Bool.and_eq_true] at h4
 obtain⟨⟨⟨hnum,hinj⟩,hkeep⟩,hdis⟩:=h4
 intro cx β F a w R
 let β':Nat→Option BI:=fun i=>match jT hv i with
  | some o=>some ⟨none,o.z,0⟩
  | none=>match jT ho i with
   | some _=>β (ρ i)
   | none=>none
 have bv : ∀ i o,jT hv i=some o→β' i=some ⟨none,o.z,0⟩:=fun i o h=>by simp[β',h]
 have hvo : ∀ i,i∈ho.map (·.1)→jT hv i=none:=by
  intro i hi
  cases h:jT hv i with
  | none=>rfl
  | some o=>
   have:=List.all_eq_true.1 hdis i (qA4 h)
   exact absurd hi (by simpa using this)
 have bo : ∀ i,i∈ho.map (·.1)→β' i=β (ρ i):=by
  intro i hi
  obtain⟨o,h⟩:=qFl hi
  simp[β',hvo i hi,h]
 have N:zYr ρ (hv.map (·.1)) (ho.map (·.1)) β β':=⟨bo,fun i hi=>by
  obtain⟨o,h⟩:=qFl hi
  exact⟨o.z,bv i o h⟩⟩
 have inj : ∀ i j,i∈ho.map (·.1)→j∈ho.map (·.1)→ρ i=ρ j→i=j:=by
  intro i j hi hj e
  obtain⟨m,hm⟩:=List.getElem?_of_mem hi
  obtain⟨n,hn⟩:=List.getElem?_of_mem hj
  have hml:m<(ho.map (·.1)).length:=(List.getElem?_eq_some_iff.1 hm).1
  have hnl:n<(ho.map (·.1)).length:=(List.getElem?_eq_some_iff.1 hn).1
  have:=qDs (of_decide_eq_true hinj) (i:=m) (j:=n) (by simpa using hml) (by simpa using hnl) (by
   have a1:(ho.map (·.1))[m]=i:=by rw[List.getElem?_eq_getElem hml] at hm;exact Option.some.inj hm
   have a2:(ho.map (·.1))[n]=j:=by rw[List.getElem?_eq_getElem hnl] at hn;exact Option.some.inj hn
   simp only[List.getElem_map] at a1 a2 ⊢
   rw[a1,a2];exact e)
  subst this
  rw[hm] at hn;exact Option.some.inj hn
 have ob : ∀ {bi:BI} {o o':Ob},qE9 β F w bi o→obC hs ρ (hv.map (·.1)) (ho.map (·.1)) (some o) o'→qE9 β' F w bi o':=by
  intro bi o o' hok hc
  cases o' with
  | dead=>trivial
  | live z' es' wr' full'=>
   cases o with
   | dead=>exact hc.elim
   | live z es wr full=>
    obtain⟨rfl,rfl,hfull,u,l,hrd,hes⟩:=hc
    have l1:=qR7 hrd
    have l2:=zBy hes
    unfold qE9 at hok ⊢
    obtain⟨g1,g2,g3⟩:=hok
    refine⟨g1,fun h=>by rw[l2,l1];exact g2 (hfull h),?_⟩
    cases hb:bi.blk with
    | none=>
     simp only[hb] at g3 ⊢
     refine⟨?_,g3.2⟩
     rw[g3.1] at l1
     exact List.eq_nil_of_length_eq_zero (by rw[l2,l1];rfl)
    | some b=>
     simp only[hb] at g3 ⊢
     obtain⟨c,e,fz,k1,k2,k3,k4,k5,k6,k7⟩:=g3
     exact⟨c,e,fz,k1,k2,k3,by rw[l2,l1];exact k4,k5,zGr N hes (qU4 R hrd k6).2,k7⟩
 have cases_ : ∀ id o',jT (hv++ho) id=some o'→(∃ z full,o' = .live z [] true full∧β' id=some ⟨none,z,0⟩∧100≤id)∨(id∈ho.map (·.1) ∧ ∃ o,jT hs (ρ id)=some o∧obC hs ρ (hv.map (·.1)) (ho.map (·.1)) (some o) o'∧(id<100→ρ id=id)∧(100≤id→100≤ρ id)):=by
  intro id o' h
  rw[qL2] at h
  split at h
  ·rename_i o hvl
   cases h
   obtain⟨⟨z,full,rfl⟩,h100⟩:=zM9.get h3 id o' hvl
   exact .inl ⟨z,full,rfl,bv id _ hvl,h100⟩
  ·have hob:=h2.get id o' h
   have hm:=qA4 h
   have hi:=List.all_eq_true.1 hnum id hm
   have hi':(id<100∧ρ id=id)∨(100≤id∧100≤ρ id):=by simpa using hi
   cases hl:jT hs (ρ id) with
   | none=>rw[hl] at hob;cases o'<;>exact hob.elim
   | some o=>
    rw[hl] at hob
    exact .inr ⟨hm,o,rfl,hob,fun h=>by rcases hi' with h' | h';exact h'.2;omega,fun h=>by rcases hi' with h' | h';omega;exact h'.2⟩
 have notdead : ∀ {o o':Ob},obC hs ρ (hv.map (·.1)) (ho.map (·.1)) (some o) o'→o'≠ .dead→o≠ .dead:=by
  intro o o' hc hd hd'
  subst hd'
  cases o' with
  | dead=>exact hd rfl
  | live _ _ _ _=>exact hc
 refine⟨β',F,R.tsz,R.dfr,fun t v' hv'=>?_,fun id o' ho'=>?_,fun id hn=>?_,fun i j bi bj b oi oj e1 e2 e3 e4 e5 e6 e7 e8=>?_,R.os,R.tape,R.output,R.size,R.ext,fun id z es full bi b e1 e2 e3=>?_,R.inF,R.inw,R.Fw,R.F0,fun id bi b e1 e2=>?_,fun g cs hg=>?_,fun k bi hk=>?_,R.gs⟩
 ·have hsl:=h1.get t v' hv'
  unfold zHt at hsl
  split at hsl
  ·rename_i v hl
   obtain⟨u,l,hrd,heq⟩:=hsl
   obtain⟨x,g3,g4⟩:=R.fr t v hl
   exact⟨x,g3,qMp N (qGc R hrd g4) heq⟩
  ·exact hsl.elim
 ·rcases cases_ id o' ho' with⟨z,full,rfl,hb,_⟩ | ⟨hm,o,g1,g2,_⟩
  ·exact⟨_,hb,rfl,fun _=>rfl,rfl,rfl⟩
  ·obtain⟨bi,g3,g4⟩:=R.hp _ o g1
   exact⟨bi,by rw[bo id hm];exact g3,ob g4 g2⟩
 ·rw[qL2] at hn
  split at hn
  ·cases hn
  ·rename_i hv0
   simp[β',hv0,hn]
 ·rcases cases_ i oi e5 with⟨z,full,rfl,hb,_⟩ | ⟨hm,o,g1,g2,_⟩
  ·rw[hb] at e1;cases e1;cases e3
  ·rcases cases_ j oj e6 with⟨z,full,rfl,hb,_⟩ | ⟨hm',o',g1',g2',_⟩
   ·rw[hb] at e2;cases e2;cases e4
   ·rw[bo i hm] at e1
    rw[bo j hm'] at e2
    exact inj i j hm hm' (R.inj _ _ bi bj b o o' e1 e2 e3 e4 g1 g1' (notdead g2 e7) (notdead g2' e8))
 ·rcases cases_ id _ e1 with⟨z',full',_,hb,_⟩ | ⟨hm,o,g1,g2,g3,g4⟩
  ·rw[hb] at e2;cases e2;cases e3
  ·rw[bo id hm] at e2
   cases o with
   | dead=>exact g2.elim
   | live z0 es0 wr0 full0=>
    obtain⟨_,rfl,_⟩:=g2
    rcases R.old _ z0 es0 full0 bi b g1 e2 e3 with h | ⟨h,h'⟩
    ·exact .inl h
    ·refine .inr ⟨?_,h'⟩
     rcases Nat.lt_or_ge id 100 with h7 | h7
     ·exact h7
     ·have:=g4 h7;omega
 ·cases hl:jT hv id with
  | some o=>rw[bv id o hl] at e1;cases e1;cases e2
  | none=>
   cases hl2:jT ho id with
   | none=>simp[β',hl,hl2] at e1
   | some o=>
    rw[bo id (qA4 hl2)] at e1
    exact R.blt _ bi b e1 e2
 ·have:=R.gl g cs hg
  cases this with
  | ro _ ad news ha hn h1' hF hw h=>exact .ro cs _ news ha hn h1' hF hw h
 ·have hβ:=R.ext0 k bi hk
  cases hl:jT hs k with
  | none=>rw[R.dom k hl] at hβ;cases hβ
  | some o=>
   have hk100:=cx.d0 k bi hk
   have hm:k∈ho.map (·.1):=by
    have:=List.all_eq_true.1 hkeep k (qA4 hl)
    simpa [hk100] using this
   rw[bo k hm]
   have hi:=List.all_eq_true.1 hnum k hm
   have hi':(k<100∧ρ k=k)∨(100≤k∧100≤ρ k):=by simpa using hi
   rw[show ρ k=k by rcases hi' with h | h;exact h.2;omega]
   exact hβ
theorem qI.cv {fs fs':Fs} {hs hv ho:Hs} (fz:List Nat) (ρ:Nat→Nat)
  (h:(qV0 fz).wp hs (fun fw _=>qI1 fs (qX1 hs fw) ρ (hv.map (·.1)) (ho.map (·.1)) fs'∧zNn (qX1 hs fw) ρ (hv.map (·.1)) (ho.map (·.1)) ho∧zPy ρ ((qX1 hs fw).map (·.1)) (hv.map (·.1)) (ho.map (·.1))=true)) (h3:zM9 hv=true):qI fs hs fs' (hv++ho):=by
 obtain⟨fw,l,hf,h1,h2,h4⟩:=h
 exact (qI.freeze hf).trans (qI.cv0 ρ h1 h2 h3 h4)
theorem qI.rd {fs fs':Fs} {hs ho:Hs} (ρ:Nat→Nat) (h1:qI1 fs hs ρ [] (ho.map (·.1)) fs') (h2:zNn hs ρ [] (ho.map (·.1)) ho) (h4:zPy ρ (hs.map (·.1)) [] (ho.map (·.1))=true):qI fs hs fs' ho:=
 qI.cv0 (hv:=[]) ρ h1 h2 rfl h4
end Go.Eng
end
section
namespace Go.Eng
def zU1 (es:List V):List Nat:=
 match qE7 es with
 | some _=>[]
 | none=>qLz es
def qLx:Nat→List Nat→List Nat→List Ob→Q (List Nat×List Ob)
 | _,[],ids,obs=> .ret (ids,obs)
 | 0,_::_,_,_=> .fail
 | n+1,id::todo,ids,obs=>if ids.contains id then qLx n todo ids obs else
  .get id fun
   | .live z es true full=>(zNs es).bind fun es'=>qLx n (todo++zU1 es') (ids++[id]) (obs++[.live z es' true full])
   | _=> .fail
def zYl (n:Nat) (vs:List V):Q (V×List Ob):=
 (rdL (rdV 4) vs).bind fun us=>(qLx (40+n) (List.range n++qLz us) [] []).bind fun q=>
  Q.assert ((qLz us).all (fun i=>q.1.contains i)=true) (.ret (zTm (qFs (fun r=>q.1.idxOf r) us),q.2.map (Ob.ren fun r=>q.1.idxOf r)))
def xM (fz:List Nat) (rs:List (Nat×Option (Nat×Bool))) (n:Nat) (R:V→List Ob→Prop):qD2:=fun e fs hs=>
 match e with
 | .exit _=>False
 | _=>(qV0 fz).wp hs (fun fw _=>((rsQ fs rs).bind fun vs=>zYl n vs).wp (qX1 hs fw) (fun p _=>R p.1 p.2))
def zYq (hm:Nat→Option Ob) (id:Nat) (o:Ob):Prop:=
 ∃ z es es' full l,hm id=some (.live z es true full)∧o = .live z es' true full∧(zNs es).run hm=some (es',l)
theorem qRo {hm:Nat→Option Ob} : ∀ {n:Nat} {todo ids:List Nat} {obs:List Ob} {ids':List Nat} {obs':List Ob} {l:List Nat},(qLx n todo ids obs).run hm=some ((ids',obs'),l)→
  ids.Nodup→ids.length=obs.length→(∀ (k id:Nat) (o:Ob),ids[k]?=some id→obs[k]?=some o→zYq hm id o)→(∀ o∈obs,∀ z es wr full,o = .live z es wr full → ∀ r∈zU1 es,r∈ids∨r∈todo)→
   ids'.Nodup∧ids'.length=obs'.length∧(∀ (k id:Nat) (o:Ob),ids'[k]?=some id→obs'[k]?=some o→zYq hm id o)∧(∀ o∈obs',∀ z es wr full,o = .live z es wr full → ∀ r∈zU1 es,r∈ids')∧
    (∀ r∈todo,r∈ids') ∧ ∃ s,ids'=ids++s
 | n,[],ids,obs,ids',obs',l,h,h1,h2,h3,h4=>by
  have h':(Q.ret (ids,obs):Q _).run hm=some ((ids',obs'),l):=by cases n<;>exact h
  obtain⟨e,_⟩:=qC h'
  cases e
  refine⟨h1,h2,h3,fun o ho z es wr full e r hr=>?_,by simp,[],by simp⟩
  rcases h4 o ho z es wr full e r hr with h | h
  ·exact h
  ·simp at h
 | 0,_::_,ids,obs,ids',obs',l,h,_,_,_,_=>by cases h
 | n+1,id::todo,ids,obs,ids',obs',l,h,h1,h2,h3,h4=>by
  simp only[qLx] at h
  split at h
  ·rename_i hc
   have hc':id∈ids:=by simpa using hc
   obtain⟨g1,g2,g3,g4,g5,s,g6⟩:=qRo h h1 h2 h3 (fun o ho z es wr full e r hr=>by
    rcases h4 o ho z es wr full e r hr with h | h
    ·exact .inl h
    ·rcases List.mem_cons.1 h with rfl | h
     ·exact .inl hc'
     ·exact .inr h)
   refine⟨g1,g2,g3,g4,fun r hr=>?_,s,g6⟩
   rcases List.mem_cons.1 hr with rfl | hr
   ·rw[g6];simp[hc']
   ·exact g5 r hr
  ·rename_i hc
   have hc':id ∉ ids:=by simpa using hc
   obtain⟨o,l',ho,hs2,_⟩:=vO h
   cases o with
   | dead=>cases hs2
   | live z es wr full=>
    cases wr with
    | false=>cases hs2
    | true=>
     obtain⟨es',l1,l2,hp,hs3,_⟩:=zB hs2
     obtain⟨g1,g2,g3,g4,g5,s,g6⟩:=qRo hs3 (by
       rw[List.nodup_append]
       refine⟨h1,by simp,?_⟩
       intro x hx y hy e
       simp at hy
       subst e hy
       exact hc' hx) (by simp[h2]) (fun k i o hk hok=>by
       rcases Nat.lt_or_ge k ids.length with hlt | hge
       ·rw[List.getElem?_append_left hlt] at hk
        rw[List.getElem?_append_left (by omega)] at hok
        exact h3 k i o hk hok
       ·rw[List.getElem?_append_right hge] at hk
        rw[List.getElem?_append_right (by omega)] at hok
        have e1:k-ids.length=0:=by
         have:=(List.getElem?_eq_some_iff.1 hk).1
         simp at this;omega
        have e2:k-obs.length=0:=by omega
        rw[e1] at hk;rw[e2] at hok
        simp at hk hok
        subst hk hok
        exact⟨z,es,es',full,l1,ho,rfl,hp⟩) (fun o ho' z' es2 wr' full' e r hr=>by
       rcases List.mem_append.1 ho' with ho' | ho'
       ·rcases h4 o ho' z' es2 wr' full' e r hr with h | h
        ·exact .inl (by simp[h])
        ·rcases List.mem_cons.1 h with rfl | h
         ·exact .inl (by simp)
         ·exact .inr (by simp[h])
       ·simp at ho'
        rw[ho'] at e
        cases e
        exact .inr (by simp[hr]))
     refine⟨g1,g2,g3,g4,fun r hr=>?_,id::s,by rw[g6];simp⟩
     rcases List.mem_cons.1 hr with rfl | hr
     ·rw[g6];simp
     ·exact g5 r (by simp[hr])
theorem qRp {hm:Nat→Option Ob} : ∀ {m n s:Nat} {rest:List Nat} {obs:List Ob} {ids':List Nat} {obs':List Ob} {l:List Nat},(qLx n (List.range' s m++rest) (List.range s) obs).run hm=some ((ids',obs'),l) → ∃ t,ids'=List.range (s+m)++t
 | 0,n,s,rest,obs,ids',obs',l,h=>by
  have key : ∀ {n:Nat} {todo ids:List Nat} {obs:List Ob} {ids':List Nat} {obs':List Ob} {l:List Nat},(qLx n todo ids obs).run hm=some ((ids',obs'),l) → ∃ s,ids'=ids++s:=by
   intro n
   induction n with
   | zero=>
    intro todo ids obs ids' obs' l h
    cases todo with
    | nil=>obtain⟨e,_⟩:=qC (x:=(ids,obs)) h;cases e;exact⟨[],by simp⟩
    | cons _ _=>cases h
   | succ n ih=>
    intro todo ids obs ids' obs' l h
    cases todo with
    | nil=>obtain⟨e,_⟩:=qC (x:=(ids,obs)) h;cases e;exact⟨[],by simp⟩
    | cons id todo=>
     simp only[qLx] at h
     split at h
     ·exact ih h
     ·obtain⟨o,l',ho,hs2,_⟩:=vO h
      cases o with
      | dead=>cases hs2
      | live z es wr full=>
       cases wr with
       | false=>cases hs2
       | true=>
        obtain⟨es',l1,l2,hp,hs3,_⟩:=zB hs2
        obtain⟨s,hs⟩:=ih hs3
        exact⟨id::s,by rw[hs];simp⟩
  obtain⟨t,ht⟩:=key h
  exact⟨t,ht⟩
 | m+1,n,s,rest,obs,ids',obs',l,h=>by
  cases n with
  | zero=>rw[List.range'_succ] at h;cases h
  | succ n=>
   rw[List.range'_succ,List.cons_append] at h
   simp only[qLx] at h
   split at h
   ·rename_i hc
    simp at hc
   ·obtain⟨o,l',ho,hs2,_⟩:=vO h
    cases o with
    | dead=>cases hs2
    | live z es wr full=>
     cases wr with
     | false=>cases hs2
     | true=>
      obtain⟨es',l1,l2,hp,hs3,_⟩:=zB hs2
      rw[←List.range_succ,List.append_assoc] at hs3
      obtain⟨t,ht⟩:=qRp hs3
      exact⟨t,by rw[ht];congr 2;omega⟩
variable {cx:Cx} {β:Nat→Option BI} {F:Nat→Prop} {a:Act} {w:World} {fm:Nat→Option V} {hm:Nat→Option Ob}
theorem qY7 {ids:List Nat} {v:V} {x:Value} (h:qU β F w v x):(∀ r∈v.ids,r∈ids)→qU (qJu ids β) F w (v.ren (fun r=>ids.idxOf r)) x:=by
 induction h with
 | t h=>intro _;exact .t h
 | nil=>intro _;exact .nil
 | ref id i f b sz room hb=>intro hr;exact .ref _ i f b sz room (by rw[qIq (hr id (by simp[V.ids]))];exact hb)
 | bd g id i f b sz room hb=>intro hr;exact .bd g _ i f b sz room (by rw[qIq (hr id (by simp[V.ids]))];exact hb)
 | bq b=>intro _;exact .bq b
 | ro cs a news ha hn h1 hF hw h=>intro _;exact .ro cs a news ha hn h1 hF hw h
 | sl id off len cap b sz room a hb hlc hr ha hs=>intro hi;exact .sl _ off len cap b sz room a (by rw[qIq (hi id (by simp[V.ids]))];exact hb) hlc hr ha hs
 | slv id sz room hb=>intro hi;exact .slv _ sz room (by rw[qIq (hi id (by simp[V.ids]))];exact hb)
 | agg cs vs hl h1 _ ih=>
  intro hr
  simp only[V.ren,zO]
  refine .agg _ vs (by simpa using hl) h1 (fun i c u hc hu=>?_)
  rw[List.getElem?_map,Option.map_eq_some_iff] at hc
  obtain⟨c',hc',rfl⟩:=hc
  exact ih i c' u hc' hu (fun r h=>hr r (by simp only[V.ids];exact xJ (List.mem_of_getElem? hc') h))
 | tup cs vs hl _ ih=>
  intro hr
  simp only[V.ren,zO]
  refine .tup _ vs (by simpa using hl) (fun i c u hc hu=>?_)
  rw[List.getElem?_map,Option.map_eq_some_iff] at hc
  obtain⟨c',hc',rfl⟩:=hc
  exact ih i c' u hc' hu (fun r h=>hr r (by simp only[V.ids];exact xJ (List.mem_of_getElem? hc') h))
 | fn f cs vs hl _ ih=>
  intro hr
  simp only[V.ren,zO]
  refine .fn f _ vs (by simpa using hl) (fun i c u hc hu=>?_)
  rw[List.getElem?_map,Option.map_eq_some_iff] at hc
  obtain⟨c',hc',rfl⟩:=hc
  exact ih i c' u hc' hu (fun r h=>hr r (by simp only[V.ids];exact xJ (List.mem_of_getElem? hc') h))
theorem zO7 {es:List V} : ∀ r∈qLz es,r∈zU1 es:=by
 intro r hr
 unfold zU1
 split
 ·rename_i ts h
  rw[qDh h,zSz] at hr
  simp at hr
 ·exact hr
theorem zKw {ids:List Nat} {es:List V} {sz:Nat} {c:Array Value} (h:vJ β F w es sz c) (hi : ∀ r∈qLz es,r∈ids):vJ (qJu ids β) F w (qFs (fun r=>ids.idxOf r) es) sz c:=by
 intro i x hx
 rw[zO,List.getElem?_map,Option.map_eq_some_iff] at hx
 obtain⟨x0,hx0,rfl⟩:=hx
 obtain⟨h1,h2⟩:=h i x0 hx0
 rw[qHo,zO]
 refine⟨by simpa using h1,fun j y hy=>?_⟩
 rw[List.getElem?_map,Option.map_eq_some_iff] at hy
 obtain⟨y0,hy0,rfl⟩:=hy
 obtain⟨u,g1,g2,g3⟩:=h2 j y0 hy0
 exact⟨u,g1,qY7 g2 (fun r hr=>hi r (xJ (List.mem_of_getElem? hx0) (qRs hy0 r hr))),g3⟩
theorem zMx {P:Program} {G:Gl} {tab:Tab} {f:FuncId} {fn:Func} {c:Code} {ac:AC} {hints:List (Nat×List Nat)} {rs:List (Nat×Option (Nat×Bool))} (fz:List Nat) (hf:P.funcs[f]?=some fn) (hb:fn.body=some c) (hann:ann P fn.ntmps hints c=some ac) (hmx:P.follows .mixedOrders=true)
  (ht:qD3 P G tab) (hrs:qNd P fn.results.toList=some rs) {as:List V} {ins:List Ob} {r:V} {outs:List Ob} (hn:as.length≤fn.ntmps) (hi:ins.length≤100)
  (h:ac.wp tab G (qE 0 as) (qE 0 ins) (xM fz rs ins.length (fun r' outs'=>r'=r∧outs'=outs))):qX2 P G f as ins r outs:=by
 intro w β F vals env fits hargs
 have hd0 : ∀ k bi,β k=some bi→k<100:=by
  intro k bi h
  rcases Nat.lt_or_ge k ins.length with h1 | h1
  ·omega
  ·rw[fits.dom k h1] at h;cases h
 let cx:Cx := { P,w0:=w,F0:=F,inb:=fun b => ∃ k bi,β k=some bi∧bi.blk=some b,nt:=fn.ntmps,gl:=G,β0:=β,d0:=hd0 }
 have hlen:as.length=vals.size:=by simpa using hargs.length
 have lookAs : ∀ t v,jT (qE 0 as) t=some v→as[t]?=some v:=by
  intro t v h;simpa [qDo] using h
 have lookIns : ∀ t v,jT (qE 0 ins) t=some v→ins[t]?=some v:=by
  intro t v h;simpa [qDo] using h
 have R0:Rel cx β F (jT (qE 0 as)) (jT (qE 0 ins)) { tmps:=vals++Array.replicate (fn.ntmps-vals.size) undef,defers:=[] } w:=by
  refine⟨by simp[cx];omega,rfl,fun t v hv=>?_,fun id o ho=>?_,fun id hn=>?_,fun i j bi bj b oi oj h1 h2 h3 h4 _ _ _ _=>fits.inj i j bi bj b h1 h2 h3 h4,rfl,rfl,rfl,Nat.le_refl _,fun _ _ _=>rfl,fun id z es full bi b h1 h2 h3=> .inr ⟨?_,id,bi,h2,h3⟩,fun b hb=>?_,fun b hb=>?_,env.Fw,fun _ _=>Iff.rfl,fun id bi b h1 h2=>(fits.blt id bi b h1 h2).1,fun g cs hg=>?_,fun _ _ h=>h,env.gs⟩
  ·obtain⟨x,h1,h2⟩:=hargs.get' t v (lookAs t v hv)
   refine⟨x,?_,h2⟩
   have hlt:t<vals.size:=by
    have:=(List.getElem?_eq_some_iff.1 (lookAs t v hv)).1
    omega
   rw[Array.getElem?_append_left hlt]
   simpa using h1
  ·obtain⟨bi,h1,h2,_⟩:=fits.ok id o (lookIns id o ho)
   exact⟨bi,h1,h2⟩
  ·refine fits.dom id ?_
   rcases Nat.lt_or_ge id ins.length with h1 | h1
   ·rw[qDo] at hn
    simp[h1] at hn
   ·exact h1
  ·have:=(List.getElem?_eq_some_iff.1 (lookIns id _ h1)).1
   omega
  ·obtain⟨k,bi,h1,h2⟩:=hb
   exact (fits.blt k bi b h1 h2).2
  ·obtain⟨k,bi,h1,h2⟩:=hb
   exact (fits.blt k bi b h1 h2).1
  ·exact (env.gl g cs hg).mono (fun _ _ h=>by cases h) (fun _ h=>h) (fun _ _=>rfl)
 refine calls_of_wp hf hb (AC.sound (cx:=cx) ht hmx hann h R0 (fun e fs hs βR FR0 a w' hq R0'=>?_))
 have fin:((qV0 fz).wp hs (fun fw _=>((rsQ fs rs).bind fun vs=>zYl ins.length vs).wp (qX1 hs fw) (fun p _=>p.1=r∧p.2=outs)))→a.defers=[] ∧ ∃ v,(results fn a.tmps).run P w' = .ok v w' ∧ ∃ x β' F',Ending.returned v = .returned x∧qPm w β F ins r outs x β' F' w':=by
  rintro⟨fw,lf,hfz,hq⟩
  obtain⟨FR,R,_⟩:=Rel.freezeAll hfz R0' (fun id _=> .inl rfl)
  rw[←qL3] at R
  rw[Q.wp_bind] at hq
  obtain⟨vs,l0,hvs,⟨r',outs'⟩,l,hrun,e1,e2⟩:=hq
  obtain⟨xs,hxs,hall⟩:=qPz (cx:=cx) R hrs hvs
  refine⟨R.dfr,_,qSd hxs,?_⟩
  simp only at e1 e2
  subst e1 e2
  unfold zYl at hrun
  obtain⟨us,l1,l2,hp,hrun,_⟩:=zB hrun
  obtain⟨q,l3,l4,hqq,hrun,_⟩:=zB hrun
  obtain⟨hsub,hrun⟩:=qO hrun
  obtain⟨e,_⟩:=qC hrun
  simp only[Prod.mk.injEq] at e
  obtain⟨rfl,rfl⟩:=e
  obtain⟨ids,obs⟩:=q
  simp only at hsub ⊢
  obtain⟨t,htt⟩:=qRp (s:=0) (m:=ins.length) (n:=40+ins.length) (rest:=qLz us) (by simpa [List.range_eq_range'] using hqq)
  obtain⟨hnd,hlo,hG,hin,_,_⟩:=qRo hqq (by simp) rfl (by intro k id o h;simp at h) (by simp)
  have hidk : ∀ k,k<ins.length→ids[k]?=some k:=by
   intro k hk
   rw[htt,List.getElem?_append_left (by simpa using hk)]
   simp[hk]
  have hlive : ∀ (k id:Nat),ids[k]?=some id → ∃ z es full,jT (qX1 hs fw) id=some (.live z es true full):=by
   intro k id hk
   have hkl:k<obs.length:=by rw[←hlo];exact (List.getElem?_eq_some_iff.1 hk).1
   obtain⟨z,es,es',full,_,g1,_⟩:=hG k id obs[k] hk (by simp[hkl])
   exact⟨z,es,full,g1⟩
  have hβk : ∀ k bi,β k=some bi→βR k=some bi:=R.ext0
  have hklt : ∀ k bi,β k=some bi→k<ins.length:=by
   intro k bi h
   rcases Nat.lt_or_ge k ins.length with h1 | h1
   ·exact h1
   ·rw[fits.dom k h1] at h;cases h
  have hus:qAl (qU βR FR w') us xs:=by
   obtain⟨g1,g2⟩:=qKj hp
   refine zBe (by rw[g1];exact hall.length.symm) (fun i c u hc hu=>?_)
   have hi:i<vs.length:=by rw[←g1];exact (List.getElem?_eq_some_iff.1 hc).1
   obtain⟨li,m1⟩:=g2 i vs[i] c (by simp[hi]) hc
   obtain⟨y,h1,h2⟩:=hall.get' i vs[i] (by simp[hi])
   rw[hu] at h1;cases h1
   exact qGc R m1 h2
  have hren:qAl (qU (qJu ids βR) FR w') (qFs (fun r=>ids.idxOf r) us) xs:=by
   refine zBe (by rw[zO];simpa using hus.length.symm) (fun i c u hc hu=>?_)
   rw[zO,List.getElem?_map,Option.map_eq_some_iff] at hc
   obtain⟨c0,hc0,rfl⟩:=hc
   obtain⟨y,h1,h2⟩:=hus.get' i c0 hc0
   rw[hu] at h1;cases h1
   refine qY7 h2 (fun r hr=>?_)
   have:=List.all_eq_true.1 hsub r (xJ (List.mem_of_getElem? hc0) hr)
   simpa using this
  have hfits:zNt (qJu ids βR) FR w' (obs.map (Ob.ren fun r=>ids.idxOf r)):=by
   refine⟨fun k o ho=>?_,fun k hk=>?_,fun i j bi bj b h1 h2 h3 h4=>?_,fun k bi b h1 h2=>?_⟩
   ·rw[List.getElem?_map,Option.map_eq_some_iff] at ho
    obtain⟨o',ho',rfl⟩:=ho
    have hkl:k<ids.length:=by rw[hlo];exact (List.getElem?_eq_some_iff.1 ho').1
    obtain⟨z,es,es',full,lr,g1,g2,g3⟩:=hG k ids[k] o' (by simp[hkl]) ho'
    obtain⟨bi,hb,hok⟩:=R.hp _ _ g1
    refine⟨bi,by simp[qJu,hkl,hb],?_,?_⟩
    ·rw[g2]
     have l1:=qR7 g3
     have l2:(qFs (fun r=>ids.idxOf r) es').length=es'.length:=by rw[zO];simp
     have hii : ∀ r∈qLz es',r∈ids:=fun r hr=>hin o' (List.mem_of_getElem? ho') z es' true full g2 r (zO7 r hr)
     unfold qE9 at hok ⊢
     obtain⟨k1,k2,k3⟩:=hok
     refine⟨k1,fun h=>by rw[l2,l1];exact k2 h,?_⟩
     cases hb:bi.blk with
     | none=>
      simp only[hb] at k3 ⊢
      refine⟨?_,k3.2⟩
      rw[k3.1] at l1
      exact List.eq_nil_of_length_eq_zero (by rw[l2,l1];rfl)
     | some b=>
      simp only[hb] at k3 ⊢
      obtain⟨c,e,fz,m1,m2,m3,m4,m5,m6,m7⟩:=k3
      exact⟨c,e,fz,m1,m2,m3,by rw[l2,l1];exact m4,m5,zKw (qU4 R g3 m6).2 hii,m7⟩
    ·rw[g2];exact⟨z,_,full,rfl⟩
   ·rw[List.length_map,←hlo] at hk
    simp[qJu,List.getElem?_eq_none hk]
   ·unfold qJu at h1 h2
    rw[Option.bind_eq_some_iff] at h1 h2
    obtain⟨x,hx,h1⟩:=h1
    obtain⟨y,hy,h2⟩:=h2
    obtain⟨z1,e1,f1,m1⟩:=hlive i x hx
    obtain⟨z2,e2,f2,m2⟩:=hlive j y hy
    have:=R.inj x y bi bj b _ _ h1 h2 h3 h4 m1 m2 (by simp) (by simp)
    subst this
    have hi:i<ids.length:=(List.getElem?_eq_some_iff.1 hx).1
    have hj:j<ids.length:=(List.getElem?_eq_some_iff.1 hy).1
    exact qDs hnd hi hj (by rw[List.getElem?_eq_getElem hi] at hx;rw[List.getElem?_eq_getElem hj] at hy;rw[Option.some.inj hx,Option.some.inj hy])
   ·unfold qJu at h1
    rw[Option.bind_eq_some_iff] at h1
    obtain⟨x,hx,h1⟩:=h1
    obtain⟨z1,e1,f1,m1⟩:=hlive k x hx
    exact⟨R.blt x bi b h1 h2,R.notF m1 h1 h2⟩
  refine⟨_,qJu ids βR,FR,rfl,hfits,qZq hren,fun k hk=>?_,fun k bi b hk h1 h2=>?_,fun b hb=>R.F0 b hb,R.Fw,R.os,R.tape,R.output,R.size,fun b hb hk=>R.ext b hb (fun ⟨k,bi,h1,h2⟩=>hk k bi h1 h2)⟩
  ·obtain⟨bi,h1,_⟩:=fits.ok k ins[k] (by simp[hk])
   simp[qJu,hidk k hk,hβk k bi h1,h1]
  ·unfold qJu at h1
   rw[Option.bind_eq_some_iff] at h1
   obtain⟨id,hid,h1⟩:=h1
   obtain⟨z,es,full,hl⟩:=hlive k id hid
   rcases R.old id z es full bi b hl h1 h2 with h | ⟨_,k0,bi0,g1,g2⟩
   ·exact h
   ·exfalso
    have hk0:=hklt k0 bi0 g1
    obtain⟨z0,es0,full0,hl0⟩:=hlive k0 k0 (hidk k0 hk0)
    have e:=R.inj id k0 bi bi0 b _ _ h1 (hβk k0 bi0 g1) h2 g2 hl hl0 (by simp) (by simp)
    subst e
    have hi1:k<ids.length:=(List.getElem?_eq_some_iff.1 hid).1
    have hi2:id<ids.length:=(List.getElem?_eq_some_iff.1 (hidk id hk0)).1
    have:=qDs hnd hi1 hi2 (by
     have a1:=hid
     have a2:=hidk id hk0
     rw[List.getElem?_eq_getElem hi1] at a1
     rw[List.getElem?_eq_getElem hi2] at a2
     rw[Option.some.inj a1,Option.some.inj a2])
    omega
 cases e with
 | normal=>exact fin hq
 | ret=>exact fin hq
 | exit id=>exact hq.elim
def qZb (tab:Tab) (gl:Gl) (a:AC):Nat→Fs→Hs→qD2→Prop
 | 0,_,_,_=>False
 | n+1,fs,hs,Qx=>a.wp tab gl fs hs (fun e fs' hs'=>match e with | .normal=>qZb tab gl a n fs' hs' Qx | e=>Qx e fs' hs')
theorem qF {tab:Tab} {gl:Gl} {a:AC} (n:Nat) {fs:Fs} {hs:Hs} {Qx:qD2} (h:qZb tab gl a n fs hs Qx):qIv tab gl a fs hs Qx:=by
 refine qH6 (ι := { p:Nat×Fs×Hs // qZb tab gl a p.1 p.2.1 p.2.2 Qx }) (fun i=>i.1.2) (fun i=>i.1.1) ⟨(n,fs,hs),h⟩ qI.refl (fun i=>?_)
 obtain⟨⟨m,f,g⟩,hi⟩:=i
 cases m with
 | zero=>exact hi.elim
 | succ m=>
  refine qEu (fun e f' g' hq=>?_) hi
  cases e with
  | normal=>exact⟨⟨(m,f',g'),hq⟩,Nat.lt_succ_self m,qI.refl⟩
  | exit id=>exact hq
  | ret=>exact hq
end Go.Eng
end
