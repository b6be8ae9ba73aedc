/- A part of an abstract machine, its walks, their tie. -/
import Derived.Test.YtekghmfbgbhobaaGreatDoorS5
set_option linter.all false
section
namespace Go.Eng
mutual
def V.ren (ρ:Nat→Nat):V→V
 | .t x=> .t x
 | .nil=> .nil
 | .ref id i f=> .ref (ρ id) i f
 | .ro cs=> .ro cs
 | .sl id off len=> .sl (ρ id) off len
 | .agg cs=> .agg (qF2 ρ cs)
 | .tup cs=> .tup (qF2 ρ cs)
 | .fn f cs=> .fn f (qF2 ρ cs)
 | .bd g id i f=> .bd g (ρ id) i f
 | .bq=> .bq
def qF2 (ρ:Nat→Nat):List V→List V
 | []=>[]
 | c::r=>c.ren ρ::qF2 ρ r
end
theorem zN (ρ:Nat→Nat)(l:List V):qF2 ρ l=l.map (V.ren ρ):=by
 induction l with
 | nil=>rfl
 | cons c r ih=>simp[qF2,ih]
theorem zVl (ρ:Nat→Nat)(ts:List T):qF2 ρ (ts.map .t)=ts.map .t:=by
 rw[zN,List.map_map];apply List.map_congr_left;intro x _;rfl
def Ob.ren (ρ:Nat→Nat):Ob→Ob
 | .live z es wr full=> .live z (qF2 ρ es) wr full
 | .dead=> .dead
theorem qIw (ρ:Nat→Nat)(v:V):(v.ren ρ).cells=qF2 ρ v.cells:=by
 cases v with
 | t x=>cases x<;>simp[V.ren,V.cells,qF2,zVl]
 | _=>simp[V.ren,V.cells,qF2]
variable {β:Nat→Option BI} {F:Nat→Prop} {w:World}
theorem qV.ren {ρ:Nat→Nat}{v:V}{x:Value}(h:qV (fun k=>β (ρ k)) F w v x):qV β F w (v.ren ρ) x:=by
 induction h with
 | t h=>exact .t h
 | nil=>exact .nil
 | ref id i f b sz room hb=>exact .ref _ i f b sz room hb
 | bd g id i f b sz room hb=>exact .bd g _ i f b sz room hb
 | bq b=>exact .bq b
 | ro cs a news ha hn h1 hF hw h=>exact .ro cs a news ha hn h1 hF hw h
 | sl id off len cap b sz room a hb hlc hr ha hs=>exact .sl _ off len cap b sz room a hb hlc hr ha hs
 | slv id sz room hb=>exact .slv _ sz room hb
 | agg cs vs hl h1 _ ih=>
  simp only[V.ren,zN];refine .agg _ vs (by simpa using hl) h1 (fun i c u hc hu=>?_);rw[List.getElem?_map,Option.map_eq_some_iff] at hc;obtain⟨c',hc',rfl⟩:=hc;exact ih i c' u hc' hu
 | tup cs vs hl _ ih=>
  simp only[V.ren,zN];refine .tup _ vs (by simpa using hl) (fun i c u hc hu=>?_);rw[List.getElem?_map,Option.map_eq_some_iff] at hc;obtain⟨c',hc',rfl⟩:=hc;exact ih i c' u hc' hu
 | fn f cs vs hl _ ih=>
  simp only[V.ren,zN];refine .fn f _ vs (by simpa using hl) (fun i c u hc hu=>?_);rw[List.getElem?_map,Option.map_eq_some_iff] at hc;obtain⟨c',hc',rfl⟩:=hc;exact ih i c' u hc' hu
theorem qV.unren {ρ:Nat→Nat}{u:V}{x:Value}(h:qV β F w u x) : ∀ {v:V},v.ren ρ=u→qV (fun k=>β (ρ k)) F w v x:=by
 induction h with
 | t h=>intro v hv;cases v<;>simp only[V.ren] at hv<;>first | (cases hv;exact .t h) | cases hv
 | nil=>intro v hv;cases v<;>simp only[V.ren] at hv<;>first | (cases hv;exact .nil) | cases hv
 | ref id i f b sz room hb=>intro v hv;cases v<;>simp only[V.ren] at hv<;>first | (cases hv;exact .ref _ i f b sz room hb) | cases hv
 | bd g id i f b sz room hb=>intro v hv;cases v<;>simp only[V.ren] at hv<;>first | (cases hv;exact .bd g _ i f b sz room hb) | cases hv
 | bq b=>intro v hv;cases v<;>simp only[V.ren] at hv<;>first | (cases hv;exact .bq b) | cases hv
 | ro cs a news ha hn h1 hF hw h=>intro v hv;cases v<;>simp only[V.ren] at hv<;>first | (cases hv;exact .ro cs a news ha hn h1 hF hw h) | cases hv
 | sl id off len cap b sz room a hb hlc hr ha hs=>intro v hv;cases v<;>simp only[V.ren] at hv<;>first | (cases hv;exact .sl _ off len cap b sz room a hb hlc hr ha hs) | cases hv
 | slv id sz room hb=>intro v hv;cases v<;>simp only[V.ren] at hv<;>first | (cases hv;exact .slv _ sz room hb) | cases hv
 | agg cs vs hl h1 _ ih=>
  intro v hv;cases v<;>simp only[V.ren] at hv<;>cases hv;rw[zN] at hl ih;refine .agg _ vs (by simpa using hl) h1 (fun i c u hc hu=>ih i (c.ren ρ) u (by rw[List.getElem?_map,hc];rfl) hu rfl)
 | tup cs vs hl _ ih=>
  intro v hv;cases v<;>simp only[V.ren] at hv<;>cases hv;rw[zN] at hl ih;refine .tup _ vs (by simpa using hl) (fun i c u hc hu=>ih i (c.ren ρ) u (by rw[List.getElem?_map,hc];rfl) hu rfl)
 | fn f cs vs hl _ ih=>
  intro v hv;cases v<;>simp only[V.ren] at hv<;>cases hv;rw[zN] at hl ih;refine .fn f _ vs (by simpa using hl) (fun i c u hc hu=>ih i (c.ren ρ) u (by rw[List.getElem?_map,hc];rfl) hu rfl)
theorem yS.ren {ρ:Nat→Nat}{es:List V}{sz:Nat}{c:Array Value}(h:yS (fun k=>β (ρ k)) F w es sz c):yS β F w (qF2 ρ es) sz c:=by
 intro i x hx;rw[zN,List.getElem?_map,Option.map_eq_some_iff] at hx;obtain⟨x',hx',rfl⟩:=hx;obtain⟨h1,h2⟩:=h i x' hx';rw[qIw,zN];refine⟨by simpa using h1,fun j y hy=>?_⟩;rw[List.getElem?_map,Option.map_eq_some_iff] at hy;obtain⟨y',hy',rfl⟩:=hy;obtain⟨u,hu,hr,ho⟩:=h2 j y' hy';exact⟨u,hu,hr.ren,ho⟩
theorem yS.unren {ρ:Nat→Nat}{es:List V}{sz:Nat}{c:Array Value}(h:yS β F w (qF2 ρ es) sz c):yS (fun k=>β (ρ k)) F w es sz c:=by
 intro i x hx;obtain⟨h1,h2⟩:=h i (x.ren ρ) (by rw[zN,List.getElem?_map,hx];rfl);rw[qIw,zN] at h1 h2;refine⟨by simpa using h1,fun j y hy=>?_⟩;obtain⟨u,hu,hr,ho⟩:=h2 j (y.ren ρ) (by rw[List.getElem?_map,hy];rfl);exact⟨u,hu,hr.unren rfl,ho⟩
theorem qFj.ren {ρ:Nat→Nat}{bi:BI}{o:Ob}(h:qFj (fun k=>β (ρ k)) F w bi o):qFj β F w bi (o.ren ρ):=by
 cases o with
 | dead=>trivial
 | live z es wr full=>
  simp only[Ob.ren];unfold qFj at *;obtain⟨h1,h2,h3⟩:=h;refine⟨h1,by rw[zN,List.length_map];exact h2,?_⟩;cases hb:bi.blk with
  | none=>simp only[hb] at h3 ⊢;exact⟨by rw[h3.1];rfl,h3.2⟩
  | some b=>
   simp only[hb] at h3 ⊢;obtain⟨c,e,fz,g1,g2,g3,g4,g5,g6,g7⟩:=h3;exact⟨c,e,fz,g1,g2,g3,by rw[zN,List.length_map];exact g4,g5,g6.ren,g7⟩
theorem qFj.unren {ρ:Nat→Nat}{bi:BI}{o:Ob}(h:qFj β F w bi (o.ren ρ)):qFj (fun k=>β (ρ k)) F w bi o:=by
 cases o with
 | dead=>trivial
 | live z es wr full=>
  simp only[Ob.ren] at h;unfold qFj at *;obtain⟨h1,h2,h3⟩:=h;rw[zN,List.length_map] at h2;refine⟨h1,h2,?_⟩;cases hb:bi.blk with
  | none=>
   simp only[hb] at h3 ⊢;refine⟨?_,h3.2⟩;have:=h3.1;rw[zN] at this;simpa using this
  | some b=>
   simp only[hb] at h3 ⊢;obtain⟨c,e,fz,g1,g2,g3,g4,g5,g6,g7⟩:=h3;rw[zN,List.length_map] at g4;exact⟨c,e,fz,g1,g2,g3,g4,g5,g6.unren,g7⟩
structure zT3 (β:Nat→Option BI) (F:Nat→Prop) (w:World) (obs:List Ob):Prop where
 ok : ∀ (k:Nat) (o:Ob),obs[k]?=some o → ∃ bi,β k=some bi∧qFj β F w bi o ∧ ∃ z es full,o = .live z es true full
 dom : ∀ k,obs.length≤k→β k=none
 inj : ∀ i j bi bj b,β i=some bi→β j=some bj→bi.blk=some b→bj.blk=some b→i=j
 blt : ∀ k bi b,β k=some bi→bi.blk=some b→b<w.heap.size ∧ ¬ F b
structure zJ8 (G:Nat→Option (List T)) (F:Nat→Prop) (w:World):Prop where
 Fw : ∀ b,F b→b<w.heap.size
 gl : ∀ g cs,G g=some cs→qV (fun _=>none) F w (.ro cs) (.pointer (some ⟨g,0,none⟩))
 gs : ∀ g cs,G g=some cs→GSz w g cs.length
structure qRz (w:World) (β:Nat→Option BI) (F:Nat→Prop) (ins:List Ob) (r:V) (outs:List Ob) (x:Value) (β':Nat→Option BI) (F':Nat→Prop) (w':World):Prop where
 fits:zT3 β' F' w' outs
 res:qV β' F' w' r x
 old : ∀ k,k<ins.length→β' k=β k
 new : ∀ k bi b,ins.length≤k→β' k=some bi→bi.blk=some b→w.heap.size≤b
 F : ∀ b,b<w.heap.size→(F' b↔F b)
 Fw : ∀ b,F' b→b<w'.heap.size
 os:w'.os=w.os
 tape:w'.tape=w.tape
 output:w'.output=w.output
 size:w.heap.size≤w'.heap.size
 frame : ∀ b,b<w.heap.size→(∀ k bi,β k=some bi→bi.blk≠some b)→w'.heap[b]?=w.heap[b]?
def qXf (P:Program)(G:Nat→Option (List T))(f:FuncId)(aS:List V)(ins:List Ob)(r:V)(outs:List Ob):Prop:=
 ∀ (w:World) (β:Nat→Option BI) (F:Nat→Prop) (vals:Array Value),zJ8 G F w→zT3 β F w ins→qAh (qV β F w) aS vals.toList→
  Calls P f vals w (fun e w' => ∃ x β' F',e = .returned x∧qRz w β F ins r outs x β' F' w')
variable {cx:Cx} {fm:Nat→Option V} {hm:Nat→Option Ob} {a:Act}
theorem Rel.freeze (R:Rel cx β F fm hm a w){id z:Nat}{es:List V}{full:Bool}(hid:hm id=some (.live z es true full))(h100:100≤id){bi:BI}(hb:β id=some bi) :
  Rel cx β (fun b=>F b∨bi.blk=some b) fm (upd hm [(id,.live z es false full)]) a w:=by
 have hF : ∀ b,F b→F b∨bi.blk=some b:=fun _ h=> .inl h
 have hnew : ∀ b,bi.blk=some b→cx.w0.heap.size≤b:=by
  intro b hbk;rcases R.old id z es full bi b hid hb hbk with h | h
  ·exact h
  ·omega
 refine⟨R.tsz,R.dfr,fun t v hv=>?_,fun j o ho=>?_,fun j hn=>?_,fun i j bi' bj b oi oj h1 h2 h3 h4 h5 h6 h7 h8=>?_,R.os,R.tape,R.output,R.size,R.ext,fun j z' es' full' bi' b h1 h2 h3=>?_,fun b hib hFb=>?_,R.inw,fun b hb'=>?_,fun b hb'=>?_,R.blt,fun g cs hg=>(R.gl g cs hg).mono (fun _ _ h=>h) hF (fun _ _=>rfl),R.ext0,R.gs⟩
 ·obtain⟨x,h1,h2⟩:=R.fr t v hv;exact⟨x,h1,h2.mono (fun _ _ h=>h) hF (fun _ _=>rfl)⟩
 ·by_cases hj:j=id
  ·subst hj;rw[zO] at ho;cases ho;obtain⟨bi',h1,h2⟩:=R.hp j _ hid;rw[hb] at h1;cases h1;refine⟨bi,hb,?_⟩;unfold qFj at h2 ⊢;obtain⟨g1,g2,g3⟩:=h2;refine⟨g1,g2,?_⟩;cases hbk:bi.blk with
   | none=>simp only[hbk] at g3 ⊢;exact g3
   | some b=>
    simp only[hbk] at g3 ⊢;obtain⟨c,e,fz,k1,k2,k3,k4,k5,k6,k7⟩:=g3;exact⟨c,e,fz,k1,k2,k3,k4,k5,k6.mono (fun _ _ h=>h) (by intro b' h;exact .inl h) (fun _ _=>rfl),sM⟩
  ·rw[qP hj] at ho;obtain⟨bi',h1,h2⟩:=R.hp j o ho;refine⟨bi',h1,?_⟩;by_cases hd:o = .dead
   ·subst hd;trivial
   refine h2.mono (fun _ _ h=>h) hF (fun _ _=>rfl) (fun b hbk _=>⟨rfl,fun h=>?_⟩);rcases h with h | h
   ·exact h
   ·exact absurd (R.inj j id bi' bi b o _ h1 hb hbk h ho hid hd sM) hj
 ·by_cases hj:j=id
  ·subst hj;rw[zO] at hn;cases hn
  ·rw[qP hj] at hn;exact R.dom j hn
 ·have live : ∀ j o,upd hm [(id,.live z es false full)] j=some o→o≠ .dead → ∃ o',hm j=some o'∧o'≠ .dead:=by
   intro j o hj hd;by_cases h:j=id
   ·subst h;exact⟨_,hid,sM⟩
   ·rw[qP h] at hj;exact⟨o,hj,hd⟩
  obtain⟨oi',a1,a2⟩:=live i oi h5 h7;obtain⟨oj',b1,b2⟩:=live j oj h6 h8;exact R.inj i j bi' bj b oi' oj' h1 h2 h3 h4 a1 b1 a2 b2
 ·by_cases hj:j=id
  ·subst hj;rw[zO] at h1;cases h1
  ·rw[qP hj] at h1;exact R.old j z' es' full' bi' b h1 h2 h3
 ·rcases hFb with h | h
  ·exact R.inF b hib h
  ·
   exact absurd (hnew b h) (by have:=R.inw b hib;omega)
 ·rcases hb' with h | h
  ·exact R.Fw b h
  ·exact R.blt id bi b hb h
 ·constructor
  ·intro h;rcases h with h | h
   ·exact (R.F0 b hb').1 h
   ·have:=hnew b h;omega
  ·intro h;exact .inl ((R.F0 b hb').2 h)
end Go.Eng
end
section
namespace Go.Eng
mutual
def T.flat:T→Bool
 | .sl es=>es.isEmpty
 | .agg cs=>qRb cs
 | .tup cs=>qRb cs
 | _=>true
def qRb:List T→Bool
 | []=>true
 | c::r=>c.flat&&qRb r
end
mutual
def V.flat:V→Bool
 | .t x=>x.flat
 | .ro _=>false
 | .agg cs=>qNy cs
 | .tup cs=>qNy cs
 | .fn _ cs=>qNy cs
 | _=>true
def qNy:List V→Bool
 | []=>true
 | c::r=>c.flat&&qNy r
end
def Ob.flat:Ob→Bool
 | .live _ es _ _=>qNy es
 | .dead=>true
def zEc (obs:List Ob):Bool:=obs.all Ob.flat
theorem qOn : ∀ {cs:List T},qRb cs=true → ∀ (i:Nat) (c:T),cs[i]?=some c→c.flat=true
 | [],_,i,c,hc=>by simp at hc
 | x::r,h,i,c,hc=>by
  simp only[qRb,Bool.and_eq_true] at h;cases i with
  | zero=>simp at hc;subst hc;exact h.1
  | succ i=>exact qOn h.2 i c (by simpa using hc)
theorem qFq : ∀ {cs:List V},qNy cs=true → ∀ (i:Nat) (c:V),cs[i]?=some c→c.flat=true
 | [],_,i,c,hc=>by simp at hc
 | x::r,h,i,c,hc=>by
  simp only[qNy,Bool.and_eq_true] at h;cases i with
  | zero=>simp at hc;subst hc;exact h.1
  | succ i=>exact qFq h.2 i c (by simpa using hc)
theorem zEd {v:V}(h:v.flat=true)(i:Nat)(c:V)(hc:v.cells[i]?=some c):c.flat=true:=by
 have one:v.cells=[v]→c.flat=true:=by
  intro e;rw[e] at hc;cases i with
  | zero=>simp at hc;subst hc;exact h
  | succ i=>simp at hc
 cases v with
 | agg cs=>exact qFq (cs:=cs) (by simpa [V.flat] using h) i c hc
 | t x=>
  cases x with
  | agg cs=>
   simp only[V.cells,List.getElem?_map,Option.map_eq_some_iff] at hc;obtain⟨c',hc',rfl⟩:=hc;exact qOn (by simpa [V.flat,T.flat] using h) i c' hc'
  | _=>exact one rfl
 | _=>exact one rfl
variable {β:Nat→Option BI} {F:Nat→Prop} {w:World}
theorem Rep.flat {F2:Nat→Prop}{x:T}{v:Value}(h:Rep F w x v):x.flat=true→Rep F2 w x v:=by
 induction h with
 | int k n=>intro _;exact .int k n
 | bool b=>intro _;exact .bool b
 | str s=>intro _;exact .str s
 | fnil=>intro _;exact .fnil
 | pnil=>intro _;exact .pnil
 | agg cs vs hl h1 _ ih=>intro hf;exact .agg cs vs hl h1 (fun i c u hc hu=>ih i c u hc hu (qOn (by simpa [T.flat] using hf) i c hc))
 | tup cs vs hl _ ih=>intro hf;exact .tup cs vs hl (fun i c u hc hu=>ih i c u hc hu (qOn (by simpa [T.flat] using hf) i c hc))
 | nil=>intro _;exact .nil
 | sl es a cap sz news ha hc hn h1 hF hw hz _ ih=>
  intro hf;have:es=[]:=by simpa [T.flat] using hf
  subst this;exact .sl [] a cap sz news ha hc hn h1 sM hw hz (by intro i e j c u he;simp at he)
theorem qV.flat {F2:Nat→Prop}{x:V}{v:Value}(h:qV β F w x v):x.flat=true→qV β F2 w x v:=by
 induction h with
 | t h=>intro hf;exact .t (h.flat hf)
 | nil=>intro _;exact .nil
 | ref id i f b sz room hb=>intro _;exact .ref id i f b sz room hb
 | bd g id i f b sz room hb=>intro _;exact .bd g id i f b sz room hb
 | bq b=>intro _;exact .bq b
 | ro cs a news ha hn h1 hF hw h=>intro hf;simp[V.flat] at hf
 | sl id off len cap b sz room a hb hlc hr ha hs=>intro _;exact .sl id off len cap b sz room a hb hlc hr ha hs
 | slv id sz room hb=>intro _;exact .slv id sz room hb
 | agg cs vs hl h1 _ ih=>intro hf;exact .agg cs vs hl h1 (fun i c u hc hu=>ih i c u hc hu (qFq (by simpa [V.flat] using hf) i c hc))
 | tup cs vs hl _ ih=>intro hf;exact .tup cs vs hl (fun i c u hc hu=>ih i c u hc hu (qFq (by simpa [V.flat] using hf) i c hc))
 | fn f cs vs hl _ ih=>intro hf;exact .fn f cs vs hl (fun i c u hc hu=>ih i c u hc hu (qFq (by simpa [V.flat] using hf) i c hc))
theorem qFj.flat {F2:Nat→Prop}{bi:BI}{z:Nat}{es:List V}{full:Bool}(h:qFj β F w bi (.live z es true full))(hf:qNy es=true)(h2 : ∀ b,bi.blk=some b → ¬ F2 b) :
  qFj β F2 w bi (.live z es true full):=by
 unfold qFj at *;obtain⟨g1,g2,g3⟩:=h;refine⟨g1,g2,?_⟩;cases hb:bi.blk with
 | none=>simp only[hb] at g3 ⊢;exact g3
 | some b=>
  simp only[hb] at g3 ⊢;obtain⟨c,e,fz,k1,k2,k3,k4,k5,k6,k7⟩:=g3;refine⟨c,e,fz,k1,k2,k3,k4,k5,fun i x hx=>?_,by simpa using h2 b hb⟩;obtain⟨m1,m2⟩:=k6 i x hx;refine⟨m1,fun j y hy=>?_⟩;obtain⟨u,hu,hr,ho⟩:=m2 j y hy;exact⟨u,hu,hr.flat (zEd (qFq hf i x hx) j y hy),ho⟩
def qDm (g:V→Q (V×List Nat)):List V→Q (List V×List Nat)
 | []=> .ret ([],[])
 | c::r=>(g c).bind fun p=>(qDm g r).bind fun q=> .ret (p.1::q.1,p.2++q.2)
def zM:Nat→V→Q (V×List Nat)
 | _,.t x=> .ret (.t x,[])
 | _,.nil=> .ret (.t (.sl []),[])
 | _,.ro cs=> .ret (.ro cs,[])
 | _,.ref id i f=> .ret (.ref id i f,[])
 | _,.bd g id i f=> .ret (.bd g id i f,[])
 | n+1,.sl id off len=> .get id fun
  | .live _ es wr _=>Q.assert (off+len≤es.length)
   (match qFg es with
   | some ts=> .ret (.t (.sl ((ts.drop off).take len)),if wr then [id] else [])
   | none=>(qDm (zM n) es).bind fun p=>match qFg p.1 with
    | some ts=> .ret (.t (.sl ((ts.drop off).take len)),if wr then id::p.2 else p.2)
    | none=> .fail)
  | .dead=> .fail
 | n+1,.agg cs=>(qDm (zM n) cs).bind fun p=> .ret (V.mk p.1,p.2)
 | n+1,.fn f cs=>(qDm (zM n) cs).bind fun p=> .ret (.fn f p.1,p.2)
 | _,_=> .fail
def qDl (es:List V):Q (List V×List Nat):=
 match qFg es with
 | some _=> .ret (es,[])
 | none=>qDm (zM 3) es
mutual
def V.refs:V→List Nat
 | .ref id _ _=>[id]
 | .bd _ id _ _=>[id]
 | .agg cs=>qA1 cs
 | .tup cs=>qA1 cs
 | .fn _ cs=>qA1 cs
 | _=>[]
def qA1:List V→List Nat
 | []=>[]
 | c::r=>c.refs++qA1 r
end
def qBs:Nat→List Nat→List Nat→List Ob→List Nat→Q (List Nat×List Ob×List Nat)
 | _,[],ids,obs,fz=> .ret (ids,obs,fz)
 | 0,_::_,_,_,_=> .fail
 | n+1,id::todo,ids,obs,fz=>if ids.contains id then qBs n todo ids obs fz else
  .get id fun
   | .live z es true full=>(qDl es).bind fun p=>qBs n (todo++(match qFg es with | some _=>[] | none=>qA1 p.1)) (ids++[id]) (obs++[.live z p.1 true full]) (fz++p.2)
   | _=> .fail
def qXy:List Nat→Q Wr
 | []=> .ret []
 | id::r=> .get id fun
  | .live z es true full=>Q.assert (100≤id) ((qXy r).bind fun q=> .ret ((id,.live z es false full)::q))
  | _=> .fail
structure CP where
 aS:List V
 ids:List Nat
 obs:List Ob
 fz:List Nat
 fw:Wr
def qS0 (keep:Bool)(vs:List V):Q CP:=
 (qDm (zM 4) vs).bind fun p=>(qBs 12 (qA1 p.1) [] [] []).bind fun q=>
  Q.assert ((keep=true∨q.2.2=[])∧(q.1.all fun i => !(p.2++q.2.2).contains i)=true) ((qXy (p.2++q.2.2)).bind fun fw=> .ret ⟨p.1,q.1,q.2.1,p.2++q.2.2,fw⟩)
def qRy (β:Nat→Option BI)(F:Nat→Prop)(fz:List Nat):Nat→Prop:=fun b=>F b ∨ ∃ id∈fz,∃ bi,β id=some bi∧bi.blk=some b
theorem qRy.of {fz:List Nat}{b:Nat}(h:F b):qRy β F fz b:= .inl h
theorem qRy.sub {fz fz':List Nat}(h : ∀ i∈fz,i∈fz') : ∀ b,qRy β F fz b→qRy β F fz' b:=by
 intro b hb;rcases hb with h1 | ⟨i,hi,bi,h1,h2⟩
 ·exact .inl h1
 ·exact .inr ⟨i,h i hi,bi,h1,h2⟩
variable {cx:Cx} {fm:Nat→Option V} {hm:Nat→Option Ob} {a:Act}
theorem qG1 {es:List V}{ts:List T}(h:qFg es=some ts):ts.length=es.length:=by rw[qDj h];simp
theorem zBj (R:Rel cx β F fm hm a w){F':Nat→Prop}(hF : ∀ b,F b→F' b){id off len z:Nat}{es:List V}{wr full:Bool}(ho:hm id=some (.live z es wr full)){x:Value}(hx:qV β F w (.sl id off len) x)
  (hle:off+len≤es.length) (hb : ∀ bi b,β id=some bi→bi.blk=some b→F' b) {ts:List T} (hl:ts.length=es.length)
  (hz : ∀ t∈ts,t.cells.length=z) (hr : ∀ (i:Nat) (e:V) (t:T),es[i]?=some e→ts[i]?=some t → ∀ (j:Nat) (q:V) (c:T) (u:Value),e.cells[j]?=some q→t.cells[j]?=some c→qV β F w q u→u.oneCell'=true→Rep F' w c u) :
  Rep F' w (.sl ((ts.drop off).take len)) x:=by
 cases hx with
 | slv _ sz room hb'=>
  obtain⟨bi',hb'',hok⟩:=R.hp id _ ho;rw[hb'] at hb'';cases hb'';simp only[List.take_zero];exact .nil
 | sl _ _ _ scap b sz room ad hb' hlc hrm had hsp=>
  obtain⟨c,ce,fz,h2,h3,h4,h5,h6,h7,h8,h9⟩:=R.obj ho hb' rfl;simp only at h4 h5 h7 h9;subst h9;have hl2:((ts.drop off).take len).length=len:=soM;have e1:(off+len)*sz≤room*sz:=Nat.mul_le_mul_right _ oM;have e2:(off+len)*sz=off*sz+len*sz:=by rw[Nat.add_mul]
  have hsrc:=h7.src h4 h5;have key:=Rep.sl (F:=F') (w:=w) ((ts.drop off).take len) ad scap sz ((c.toList.drop (off*sz)).take (len*sz)) (fun _=>hsp) (by rw[hl2];omega) (by rw[hl2];simp;omega)
   (fun u hu=>by
    obtain⟨j,hj⟩:=List.getElem?_of_mem hu;simp only[List.getElem?_take,List.getElem?_drop] at hj;split at hj
    ·rename_i hlt;have:(c.toList.take (es.length*sz))[off*sz+j]?=some u:=by
      rw[List.getElem?_take,if_pos]
      ·exact hj
      ·have:(off+len)*sz≤es.length*sz:=Nat.mul_le_mul_right _ hle;omega
     exact hsrc.2.1 u (List.mem_of_getElem? this)
    ·cases hj)
   (fun hne=>by
    have hlt2:0<scap:=by
     rcases Nat.eq_zero_or_pos len with h0 | h0
     ·exact absurd (List.eq_nil_of_length_eq_zero (by rw[hl2,h0])) hne
     ·omega
    rw[had hlt2];exact hb _ b hb' rfl)
   (fun j u hj=>by
    simp only[List.getElem?_take,List.getElem?_drop] at hj;split at hj
    ·rename_i hlt;have hlt2:0<scap:=by
      rcases Nat.eq_zero_or_pos len with h0 | h0
      ·subst h0;simp at hlt
      ·omega
     rw[had hlt2,Addr.add_lit,cell_of_row w b _ c ce fz h2];simpa using hj
    ·cases hj)
   (fun t ht=>hz t (List.mem_of_mem_drop (List.mem_of_mem_take ht)))
   (fun i t j q u ht hq hu=>by
    have ht':ts[off+i]?=some t∧i<len:=by
     simp only[List.getElem?_take,List.getElem?_drop] at ht;split at ht
     ·rename_i h;exact⟨ht,h⟩
     ·cases ht
    have hei:off+i<es.length:=oM;obtain⟨m1,m2⟩:=h7 (off+i) es[off+i] (by simp[hei]);have hjz:j<sz:=by rw[←hz t (List.mem_of_getElem? ht'.1)];exact (List.getElem?_eq_some_iff.1 hq).1
    obtain⟨u',hu',hru,hone'⟩:=m2 j (es[off+i].cells[j]'(oM)) sM;have:u'=u:=by
     simp only[List.getElem?_take,List.getElem?_drop] at hu;split at hu
     ·have e3:(off+i)*sz+j=off*sz+(i*sz+j):=by rw[Nat.add_mul];omega
      rw[e3] at hu';rw[Array.getElem?_toList,hu'] at hu;exact Option.some.inj hu
     ·cases hu
    subst this;exact hr (off+i) es[off+i] t (by simp[hei]) ht'.1 j _ q u' sM hq hru hone')
  rw[hl2] at key;exact key
end Go.Eng
end
section
namespace Go.Eng
variable {β:Nat→Option BI} {F:Nat→Prop} {w:World} {cx:Cx} {fm:Nat→Option V} {hm:Nat→Option Ob} {a:Act}
theorem yY {g:V→Q (V×List Nat)} : ∀ {cs cs':List V} {fz l:List Nat},(qDm g cs).run hm=some ((cs',fz),l)→
  cs'.length=cs.length ∧ ∀ (i:Nat) (c c':V),cs[i]?=some c→cs'[i]?=some c' → ∃ fzi li,(g c).run hm=some ((c',fzi),li) ∧ ∀ j∈fzi,j∈fz
 | [],cs',fz,l,h=>by
  obtain⟨h1,_⟩:=qE h;cases h1;exact⟨rfl,by intro i c c' hc;simp at hc⟩
 | c::r,cs',fz,l,h=>by
  simp only[qDm] at h;obtain⟨p,l1,l2,hp,h,_⟩:=zB h;obtain⟨q,l3,l4,hq,h,_⟩:=zB h;obtain⟨h1,_⟩:=qE h;cases h1;obtain⟨g1,g2⟩:=yY hq;refine⟨by simp[g1],fun i x x' hx hx'=>?_⟩;cases i with
  | zero=>
   simp at hx hx';subst hx hx';exact⟨p.2,l1,hp,fun j hj=>by simp[hj]⟩
  | succ i=>
   simp at hx hx';obtain⟨fzi,li,m1,m2⟩:=g2 i x x' hx hx';exact⟨fzi,li,m1,fun j hj=>by simp[m2 j hj]⟩
theorem Rel.row (R:Rel cx β F fm hm a w){id z:Nat}{es:List V}{wr full:Bool}(ho:hm id=some (.live z es wr full)):es=[] ∨ ∃ c,yS β F w es z c:=by
 obtain⟨bi,hb,hok⟩:=R.hp id _ ho;unfold qFj at hok;obtain⟨g1,g2,g3⟩:=hok;cases hbk:bi.blk with
 | none=>simp only[hbk] at g3;exact .inl g3.1
 | some b=>
  simp only[hbk] at g3;obtain⟨c,e,fz,k1,k2,k3,k4,k5,k6,k7⟩:=g3;rw[g1] at k6;exact .inr ⟨c,k6⟩
theorem Rel.ro (R:Rel cx β F fm hm a w){id z:Nat}{es:List V}{full:Bool}(ho:hm id=some (.live z es false full)){bi:BI}{b:Nat}(hb:β id=some bi)(hbk:bi.blk=some b):F b:=by
 obtain⟨bi',hb',hok⟩:=R.hp id _ ho;rw[hb] at hb';cases hb';unfold qFj at hok;obtain⟨g1,g2,g3⟩:=hok;simp only[hbk] at g3;obtain⟨c,e,fz,k1,k2,k3,k4,k5,k6,k7⟩:=g3;simpa using k7
theorem wN (R:Rel cx β F fm hm a w) : ∀ {n:Nat} {v v':V} {fz l fz':List Nat} {x:Value},(zM n v).run hm=some ((v',fz),l)→qV β F w v x→(∀ i∈fz,i∈fz')→qV β (qRy β F fz') w v' x
 | n,v,v',fz,l,fz',x,h,hx,hsub=>by
  have base : ∀ {u:V},qV β F w u x→qV β (qRy β F fz') w u x:=fun h=>h.mono (fun _ _ h=>h) (fun _ h=> .inl h) (fun _ _=>rfl)
  cases v with
  | t y=>cases n<;>(obtain⟨h1,_⟩:=qE h;cases h1;exact base hx)
  | nil=>cases n<;>(obtain⟨h1,_⟩:=qE h;cases h1;cases hx;exact .t .nil)
  | ro cs=>cases n<;>(obtain⟨h1,_⟩:=qE h;cases h1;exact base hx)
  | ref id i f=>cases n<;>(obtain⟨h1,_⟩:=qE h;cases h1;exact base hx)
  | bd g id i f=>cases n<;>(obtain⟨h1,_⟩:=qE h;cases h1;exact base hx)
  | bq=>cases n<;>cases h
  | tup cs=>cases n<;>cases h
  | agg cs=>
   cases n with
   | zero=>cases h
   | succ n=>
    simp only[zM] at h;obtain⟨p,l1,l2,hp,h,_⟩:=zB h;obtain⟨h1,_⟩:=qE h;cases h1;obtain⟨g1,g2⟩:=yY hp;obtain⟨us,rfl,k1,k2,k3⟩:=hx.agg_inv;refine qV.mk (by rw[k1,g1]) k2 (fun i c' u hc' hu=>?_);have hi:i<cs.length:=by rw[←g1];exact (List.getElem?_eq_some_iff.1 hc').1
    obtain⟨fzi,li,m1,m2⟩:=g2 i cs[i] c' (by simp[hi]) hc';exact wN R m1 (k3 i cs[i] u (by simp[hi]) hu) (fun j hj=>hsub j (m2 j hj))
  | fn f cs=>
   cases n with
   | zero=>cases h
   | succ n=>
    simp only[zM] at h;obtain⟨p,l1,l2,hp,h,_⟩:=zB h;obtain⟨h1,_⟩:=qE h;cases h1;obtain⟨g1,g2⟩:=yY hp;cases hx with
    | fn _ _ us k1 k3=>
     refine .fn f _ us (by rw[k1,g1]) (fun i c' u hc' hu=>?_);have hi:i<cs.length:=by rw[←g1];exact (List.getElem?_eq_some_iff.1 hc').1
     obtain⟨fzi,li,m1,m2⟩:=g2 i cs[i] c' (by simp[hi]) hc';exact wN R m1 (k3 i cs[i] u (by simp[hi]) hu) (fun j hj=>hsub j (m2 j hj))
  | sl id off len=>
   cases n with
   | zero=>cases h
   | succ n=>
    simp only[zM] at h;obtain⟨o,l',ho,h2,_⟩:=yZ h;cases o with
    | dead=>cases h2
    | live z es wr full=>
     obtain⟨hle,h3⟩:=qM h2;have hbl : ∀ {fz0:List Nat},(∀ i∈(if wr then id::fz0 else fz0),i∈fz') → ∀ bi b,β id=some bi→bi.blk=some b→qRy β F fz' b:=by
      intro fz0 hs bi b hb hbk;cases wr with
      | true=>exact .inr ⟨id,hs id sM,bi,hb,hbk⟩
      | false=>exact .inl (R.ro ho hb hbk)
     split at h3
     ·rename_i ts hts;obtain⟨h1,_⟩:=qE h3;cases h1;have hes:=qDj hts;refine .t (zBj R (fun _ h=> .inl h) ho hx hle (hbl (fz0:=[]) hsub) (qG1 hts) (fun t ht=>?_) (fun i e t he ht j q c u hq hc hru _=>?_))
      ·obtain⟨i,hi⟩:=List.getElem?_of_mem ht;rcases R.row ho with h0 | ⟨c,hc⟩
       ·rw[h0] at hts;simp[qFg] at hts;subst hts;simp at hi
       ·have:=(hc i (.t t) (by rw[hes,List.getElem?_map,hi];rfl)).1;rw[qLe,List.length_map] at this;exact this
      ·rw[hes,List.getElem?_map,ht] at he;cases he;obtain⟨c',hc',rfl⟩:=xN hq;rw[hc] at hc';cases hc';cases hru with
       | t hru=>exact hru.mono (fun _ h=> .inl h) (fun _ _=>rfl)
     ·obtain⟨p,l1,l2,hp,h3,_⟩:=zB h3;split at h3
      ·rename_i ts hts;obtain⟨h1,_⟩:=qE h3;cases h1;obtain⟨g1,g2⟩:=yY hp;have hpe:=qDj hts;have hfz : ∀ j∈p.2,j∈fz':=fun j hj=>hsub j (by cases wr<;>simp[hj])
       have key : ∀ (i:Nat) (e:V) (t:T),es[i]?=some e→ts[i]?=some t→(∀ u,e.cells[0]?=some e→qV β F w e u→u.oneCell'=true→e.cells=[e]→t.cells=[t])∧
         ((∃ cs,e = .agg cs)∨(∃ cs,e = .t (.agg cs))→t.cells.length=e.cells.length) ∧ ∀ (j:Nat) (q:V) (c:T) (u:Value),e.cells[j]?=some q→t.cells[j]?=some c→qV β F w q u→u.oneCell'=true→Rep (qRy β F fz') w c u:=by
        intro i e t he ht;obtain⟨fzi,li,m1,m2⟩:=g2 i e (.t t) he (by rw[hpe,List.getElem?_map,ht];rfl);have one : ∀ u,qV β F w e u→u.oneCell'=true→Rep (qRy β F fz') w t u∧t.cells=[t]:=by
         intro u hru ho1;have hr2:=wN R m1 hru (fun j hj=>hfz j (m2 j hj));have hc1:=hr2.one_cells ho1;cases hr2 with
         | t hr2=>
          refine⟨hr2,?_⟩;rw[qLe] at hc1;cases t with
          | agg cs=>
           cases hr2 with
           | agg _ vs hl h1 h=>simp[Value.oneCell'] at ho1
          | _=>rfl
        have single:e.cells=[e] → ∀ (j:Nat) (q:V) (c:T) (u:Value),e.cells[j]?=some q→t.cells[j]?=some c→qV β F w q u→u.oneCell'=true→Rep (qRy β F fz') w c u:=by
         intro hec j q c u hq hc hru ho1;rw[hec] at hq;cases j with
         | succ j=>simp at hq
         | zero=>
          simp at hq;subst hq;obtain⟨k1,k2⟩:=one u hru ho1;rw[k2] at hc;simp at hc;subst hc;exact k1
        refine⟨fun u _ hru ho1 _=>(one u hru ho1).2,?_,?_⟩
        ·rintro (⟨cs,rfl⟩ | ⟨cs,rfl⟩)
         ·cases n with
          | zero=>cases m1
          | succ n=>
           simp only[zM] at m1;obtain⟨p',_,_,hp',m1,_⟩:=zB m1;obtain⟨h1,_⟩:=qE m1;obtain⟨k1,k2⟩:=yY hp';have h2:V.mk p'.1 = .t t:=(Prod.mk.inj h1).1.symm;unfold V.mk at h2;split at h2
           ·rename_i ts' hts';cases h2;show ts'.length=cs.length;rw[qG1 hts',k1]
           ·cases h2
         ·have h2:(V.t (.agg cs)) = .t t:=by cases n<;>(obtain⟨h1,_⟩:=qE m1;cases h1;rfl)
          cases h2;rw[qLe,List.length_map]
        ·cases e with
         | agg cs=>
          intro j q c u hq hc hru ho1;cases n with
          | zero=>cases m1
          | succ n=>
           simp only[zM] at m1;obtain⟨p',_,_,hp',m1,_⟩:=zB m1;obtain⟨h1,_⟩:=qE m1;obtain⟨k1,k2⟩:=yY hp';have h2:V.mk p'.1 = .t t:=(Prod.mk.inj h1).1.symm;have h2b:p'.2=fzi:=(Prod.mk.inj h1).2.symm;unfold V.mk at h2;split at h2
           ·rename_i ts' hts';cases h2;have hc':ts'[j]?=some c:=hc;obtain⟨fzj,lj,q1,q2⟩:=k2 j q (.t c) hq (by rw[qDj hts',List.getElem?_map,hc'];rfl);have hr2:=wN R q1 hru (fun j hj=>hfz j (m2 j (by rw[←h2b];exact q2 j hj)));cases hr2 with
            | t hr2=>exact hr2
           ·cases h2
         | t y=>
          intro j q c u hq hc hru ho1;have h2:(V.t y) = .t t:=by cases n<;>(obtain⟨h1,_⟩:=qE m1;cases h1;rfl)
          cases h2;obtain⟨c',hc',rfl⟩:=xN hq;rw[hc] at hc';cases hc';cases hru with
          | t hru=>exact hru.mono (fun _ h=> .inl h) (fun _ _=>rfl)
         | _=>exact single rfl
       refine .t (zBj R (fun _ h=> .inl h) ho hx hle (hbl (fz0:=p.2) hsub) (by rw[qG1 hts,g1]) (fun t ht=>?_) (fun i e t he ht=>(key i e t he ht).2.2));obtain⟨i,hi⟩:=List.getElem?_of_mem ht;have hil:i<es.length:=by rw[←g1,←qG1 hts];exact (List.getElem?_eq_some_iff.1 hi).1
       rcases R.row ho with h0 | ⟨c,hc⟩
       ·subst h0;simp at hil
       ·obtain⟨e,he⟩ : ∃ e,es[i]?=some e:=⟨es[i],by simp[hil]⟩;obtain⟨k1,k2⟩:=hc i e he;obtain⟨q1,q2,_⟩:=key i e t he hi;have sing:e.cells=[e]→t.cells.length=z:=by
         intro hec;obtain⟨u,hu,hru,ho1⟩:=k2 0 e (by rw[hec];rfl);rw[q1 u (by rw[hec];rfl) hru ho1 hec,←k1,hec];rfl
        cases e with
        | agg cs=>rw[q2 (.inl ⟨cs,rfl⟩),k1]
        | t y=>
         cases y with
         | agg cs=>rw[q2 (.inr ⟨cs,rfl⟩),k1]
         | _=>exact sing rfl
        | _=>exact sing rfl
      ·cases h3
 termination_by n=>n
end Go.Eng
end
section
namespace Go.Eng
variable {β:Nat→Option BI} {F:Nat→Prop} {w:World} {cx:Cx} {fm:Nat→Option V} {hm:Nat→Option Ob} {a:Act}
mutual
def V.noSl:V→Bool
 | .sl _ _ _=>false
 | .agg cs=>qU3 cs
 | .tup cs=>qU3 cs
 | .fn _ cs=>qU3 cs
 | _=>true
def qU3:List V→Bool
 | []=>true
 | c::r=>c.noSl&&qU3 r
end
theorem qOy : ∀ {cs:List V},qU3 cs=true → ∀ c∈cs,c.noSl=true
 | [],_,c,hc=>by simp at hc
 | x::r,h,c,hc=>by
  simp only[qU3,Bool.and_eq_true] at h;simp only[List.mem_cons] at hc;rcases hc with rfl | hc
  ·exact h.1
  ·exact qOy h.2 c hc
theorem zG9 : ∀ {cs:List V},(∀ c∈cs,c.noSl=true)→qU3 cs=true
 | [],_=>rfl
 | x::r,h=>by
  simp only[qU3,Bool.and_eq_true];exact⟨h x sM,zG9 (fun c hc=>h c (by simp[hc]))⟩
theorem qD3 : ∀ {cs:List V} {c:V} {r:Nat},c∈cs→r∈c.refs→r∈qA1 cs
 | x::cs,c,r,hc,hr=>by
  simp only[qA1,List.mem_append];simp only[List.mem_cons] at hc;rcases hc with rfl | hc
  ·exact .inl hr
  ·exact .inr (qD3 hc hr)
theorem zM8 (ts:List T):qA1 (ts.map .t)=[]:=by
 induction ts with
 | nil=>rfl
 | cons x r ih=>simp[qA1,V.refs,ih]
theorem zYc {cs:List V}(h:qU3 cs=true):(V.mk cs).noSl=true:=by
 unfold V.mk;split
 ·rfl
 ·exact h
theorem qOh : ∀ {n:Nat} {v v':V} {fz l:List Nat},(zM n v).run hm=some ((v',fz),l)→v'.noSl=true
 | n,v,v',fz,l,h=>by
  have list : ∀ {m:Nat} {cs cs':List V} {fz l:List Nat},m<n→(qDm (zM m) cs).run hm=some ((cs',fz),l)→qU3 cs'=true:=by
   intro m cs cs' fz l hlt h;obtain⟨g1,g2⟩:=yY h;refine zG9 (fun c hc=>?_);obtain⟨i,hi⟩:=List.getElem?_of_mem hc;have hil:i<cs.length:=by rw[←g1];exact (List.getElem?_eq_some_iff.1 hi).1
   obtain⟨fzi,li,m1,m2⟩:=g2 i cs[i] c (by simp[hil]) hi;exact qOh m1
  cases v with
  | t y=>cases n<;>(obtain⟨h1,_⟩:=qE h;cases h1;rfl)
  | nil=>cases n<;>(obtain⟨h1,_⟩:=qE h;cases h1;rfl)
  | ro cs=>cases n<;>(obtain⟨h1,_⟩:=qE h;cases h1;rfl)
  | ref id i f=>cases n<;>(obtain⟨h1,_⟩:=qE h;cases h1;rfl)
  | bd g id i f=>cases n<;>(obtain⟨h1,_⟩:=qE h;cases h1;rfl)
  | bq=>cases n<;>cases h
  | tup cs=>cases n<;>cases h
  | agg cs=>
   cases n with
   | zero=>cases h
   | succ n=>
    simp only[zM] at h;obtain⟨p,l1,l2,hp,h,_⟩:=zB h;obtain⟨h1,_⟩:=qE h;cases h1;exact zYc (list (Nat.lt_succ_self n) hp)
  | fn f cs=>
   cases n with
   | zero=>cases h
   | succ n=>
    simp only[zM] at h;obtain⟨p,l1,l2,hp,h,_⟩:=zB h;obtain⟨h1,_⟩:=qE h;cases h1;exact list (Nat.lt_succ_self n) hp
  | sl id off len=>
   cases n with
   | zero=>cases h
   | succ n=>
    simp only[zM] at h;obtain⟨o,l',ho,h2,_⟩:=yZ h;cases o with
    | dead=>cases h2
    | live z es wr full=>
     obtain⟨hle,h3⟩:=qM h2;split at h3
     ·obtain⟨h1,_⟩:=qE h3;cases h1;rfl
     ·obtain⟨p,l1,l2,hp,h3,_⟩:=zB h3;split at h3
      ·obtain⟨h1,_⟩:=qE h3;cases h1;rfl
      ·cases h3
 termination_by n=>n
def qKz (ids:List Nat)(β:Nat→Option BI):Nat→Option BI:=fun k=>(ids[k]?).bind β
theorem qKj {ids:List Nat}{r:Nat}(h:r∈ids):qKz ids β (ids.idxOf r)=β r:=by
 unfold qKz;have hlt:ids.idxOf r<ids.length:=List.idxOf_lt_length_of_mem h;have:ids[ids.idxOf r]?=some r:=by
  rw[List.getElem?_eq_getElem hlt,List.getElem_idxOf]
 rw[this];rfl
theorem zBh {ids:List Nat}{v:V}{x:Value}(h:qV β F w v x):v.noSl=true→(∀ r∈v.refs,r∈ids)→qV (qKz ids β) F w (v.ren (fun r=>ids.idxOf r)) x:=by
 induction h with
 | t h=>intro _ _;exact .t h
 | nil=>intro _ _;exact .nil
 | ref id i f b sz room hb=>intro _ hr;exact .ref _ i f b sz room (by rw[qKj (hr id (by simp[V.refs]))];exact hb)
 | bd g id i f b sz room hb=>intro _ hr;exact .bd g _ i f b sz room (by rw[qKj (hr id (by simp[V.refs]))];exact hb)
 | bq b=>intro _ _;exact .bq b
 | ro cs a news ha hn h1 hF hw h=>intro _ _;exact .ro cs a news ha hn h1 hF hw h
 | sl id off len cap b sz room a hb hlc hr ha hs=>intro h;simp[V.noSl] at h
 | slv id sz room hb=>intro h;simp[V.noSl] at h
 | agg cs vs hl h1 _ ih=>
  intro hn hr;simp only[V.ren,zN];refine .agg _ vs (by simpa using hl) h1 (fun i c u hc hu=>?_);rw[List.getElem?_map,Option.map_eq_some_iff] at hc;obtain⟨c',hc',rfl⟩:=hc;have hm1:=List.mem_of_getElem? hc';exact ih i c' u hc' hu (qOy (by simpa [V.noSl] using hn) c' hm1) (fun r h=>hr r (by simp only[V.refs];exact qD3 hm1 h))
 | tup cs vs hl _ ih=>
  intro hn hr;simp only[V.ren,zN];refine .tup _ vs (by simpa using hl) (fun i c u hc hu=>?_);rw[List.getElem?_map,Option.map_eq_some_iff] at hc;obtain⟨c',hc',rfl⟩:=hc;have hm1:=List.mem_of_getElem? hc';exact ih i c' u hc' hu (qOy (by simpa [V.noSl] using hn) c' hm1) (fun r h=>hr r (by simp only[V.refs];exact qD3 hm1 h))
 | fn f cs vs hl _ ih=>
  intro hn hr;simp only[V.ren,zN];refine .fn f _ vs (by simpa using hl) (fun i c u hc hu=>?_);rw[List.getElem?_map,Option.map_eq_some_iff] at hc;obtain⟨c',hc',rfl⟩:=hc;have hm1:=List.mem_of_getElem? hc';exact ih i c' u hc' hu (qOy (by simpa [V.noSl] using hn) c' hm1) (fun r h=>hr r (by simp only[V.refs];exact qD3 hm1 h))
def jH9 (hm:Nat→Option Ob)(fz:List Nat)(id:Nat)(o:Ob):Prop:=
 ∃ z es es' full fzk lk,hm id=some (.live z es true full)∧o = .live z es' true full∧(qDl es).run hm=some ((es',fzk),lk) ∧ ∀ j∈fzk,j∈fz
def Ob.refs:Ob→List Nat
 | .live _ es _ _=>qA1 es
 | .dead=>[]
theorem qP4 : ∀ {n:Nat} {todo ids:List Nat} {obs:List Ob} {fz ids':List Nat} {obs':List Ob} {fz' l:List Nat},(qBs n todo ids obs fz).run hm=some ((ids',obs',fz'),l)→
  ids.Nodup→ids.length=obs.length→(∀ (k id:Nat) (o:Ob),ids[k]?=some id→obs[k]?=some o→jH9 hm fz id o)→(∀ o∈obs,∀ r∈o.refs,r∈ids∨r∈todo)→
  ids'.Nodup∧ids'.length=obs'.length∧(∀ (k id:Nat) (o:Ob),ids'[k]?=some id→obs'[k]?=some o→jH9 hm fz' id o)∧(∀ o∈obs',∀ r∈o.refs,r∈ids')∧(∀ r∈todo,r∈ids')∧(∀ r∈ids,r∈ids') ∧ ∀ j∈fz,j∈fz'
 | n,[],ids,obs,fz,ids',obs',fz',l,h,h1,h2,h3,h4=>by
  have h':(Q.ret (ids,obs,fz):Q _).run hm=some ((ids',obs',fz'),l):=by cases n<;>exact h
  obtain⟨e,_⟩:=qE h';cases e;exact⟨h1,h2,h3,fun o ho r hr=>by simpa using h4 o ho r hr,sM,fun _ h=>h,fun _ h=>h⟩
 | 0,_::_,ids,obs,fz,ids',obs',fz',l,h,_,_,_,_=>by cases h
 | n+1,id::todo,ids,obs,fz,ids',obs',fz',l,h,h1,h2,h3,h4=>by
  simp only[qBs] at h;split at h
  ·rename_i hc;have hmem:id∈ids:=by simpa using hc
   obtain⟨k1,k2,k3,k4,k5,k6,k7⟩:=qP4 h h1 h2 h3 (fun o ho r hr=>by
    rcases h4 o ho r hr with h | h
    ·exact .inl h
    ·simp only[List.mem_cons] at h;rcases h with rfl | h
     ·exact .inl hmem
     ·exact .inr h)
   exact⟨k1,k2,k3,k4,fun r hr=>by
    simp only[List.mem_cons] at hr;rcases hr with rfl | hr
    ·exact k6 _ hmem
    ·exact k5 r hr,k6,k7⟩
  ·rename_i hc;have hnm:id ∉ ids:=by simpa using hc
   obtain⟨o,l',ho,hs2,_⟩:=yZ h;cases o with
   | dead=>cases hs2
   | live z es wr full=>
    cases wr with
    | false=>cases hs2
    | true=>
     obtain⟨p,l1,l2,hp,hs3,_⟩:=zB hs2;have hobs : ∀ (k j:Nat) (o:Ob),(ids++[id])[k]?=some j→(obs++[Ob.live z p.1 true full])[k]?=some o→jH9 hm (fz++p.2) j o:=by
      intro k j o hk hko;by_cases hlt:k<ids.length
      ·rw[List.getElem?_append_left hlt] at hk;rw[List.getElem?_append_left oM] at hko;obtain⟨z1,e1,e2,f1,fk,lk,g1,g2,g3,g4⟩:=h3 k j o hk hko;exact⟨z1,e1,e2,f1,fk,lk,g1,g2,g3,fun j hj=>by simp[g4 j hj]⟩
      ·rw[List.getElem?_append_right oM] at hk hko;have hk0:k-ids.length=0:=by
        rcases Nat.eq_zero_or_pos (k-ids.length) with h | h
        ·exact h
        ·rw[List.getElem?_eq_none soM] at hk;cases hk
       rw[hk0] at hk;rw[show k-obs.length=0 by omega] at hko;simp at hk hko;subst hk hko;exact⟨z,es,p.1,full,p.2,l1,ho,rfl,hp,fun j hj=>by simp[hj]⟩
     have href : ∀ r∈qA1 p.1,r∈ids++[id]∨r∈todo++(match qFg es with | some _=>[] | none=>qA1 p.1):=by
      intro r hr;cases ha:qFg es with
      | none=>exact .inr (by simp only[List.mem_append];exact .inr hr)
      | some ts=>
       unfold qDl at hp;rw[ha] at hp;obtain⟨e,_⟩:=qE hp;rw[e,qDj ha,zM8] at hr;simp at hr
     obtain⟨k1,k2,k3,k4,k5,k6,k7⟩:=qP4 hs3 (by
       rw[List.nodup_append];exact⟨h1,sM,fun x hx y hy=>by simp at hy;subst hy;exact fun e=>hnm (e▸hx)⟩) (by simp[h2]) hobs (fun o ho' r hr=>by
      simp only[List.mem_append,List.mem_singleton] at ho';rcases ho' with ho' | rfl
      ·rcases h4 o ho' r hr with h | h
       ·exact .inl (by simp[h])
       ·simp only[List.mem_cons] at h;rcases h with rfl | h
        ·exact .inl sM
        ·exact .inr (by simp[h])
      ·exact href r hr)
     exact⟨k1,k2,k3,k4,fun r hr=>by
      simp only[List.mem_cons] at hr;rcases hr with rfl | hr
      ·exact k6 _ sM
      ·exact k5 r (by simp[hr]),fun r hr=>k6 r (by simp[hr]),fun j hj=>k7 j (by simp[hj])⟩
theorem zGz : ∀ {fz:List Nat} {fw:Wr} {l:List Nat},(qXy fz).run hm=some (fw,l)→(∀ id∈fz,100≤id ∧ ∃ z es full,hm id=some (.live z es true full)∧(id,Ob.live z es false full)∈fw)∧
  ∀ p∈fw,p.1∈fz ∧ ∃ z es full,hm p.1=some (.live z es true full)∧p.2 = .live z es false full
 | [],fw,l,h=>by
  obtain⟨e,_⟩:=qE h;cases e;exact⟨sM,sM⟩
 | id::r,fw,l,h=>by
  simp only[qXy] at h;obtain⟨o,l',ho,hs2,_⟩:=yZ h;cases o with
  | dead=>cases hs2
  | live z es wr full=>
   cases wr with
   | false=>cases hs2
   | true=>
    obtain⟨h100,hs3⟩:=qM hs2;obtain⟨q,l1,l2,hq,hs4,_⟩:=zB hs3;obtain⟨e,_⟩:=qE hs4;cases e;obtain⟨g1,g2⟩:=zGz hq;refine⟨fun i hi=>?_,fun p hp=>?_⟩
    ·simp only[List.mem_cons] at hi;rcases hi with rfl | hi
     ·exact⟨h100,z,es,full,ho,sM⟩
     ·obtain⟨m1,z',es',full',m2,m3⟩:=g1 i hi;exact⟨m1,z',es',full',m2,by simp[m3]⟩
    ·simp only[List.mem_cons] at hp;rcases hp with rfl | hp
     ·exact⟨sM,z,es,full,ho,rfl⟩
     ·obtain⟨m1,m2⟩:=g2 p hp;exact⟨by simp[m1],m2⟩
theorem Rel.freezeAll : ∀ {fz:List Nat} {hm hm0:Nat→Option Ob} {F:Nat→Prop} {fw:Wr} {l:List Nat},(qXy fz).run hm0=some (fw,l)→Rel cx β F fm hm a w→
  (∀ id∈fz,hm id=hm0 id ∨ ∃ z es full,hm0 id=some (.live z es true full)∧hm id=some (.live z es false full)) → ∃ F',Rel cx β F' fm (upd hm fw) a w ∧ ∀ b,F' b↔qRy β F fz b
 | [],hm,hm0,F,fw,l,h,R,_=>by
  obtain⟨e,_⟩:=qE h;cases e;exact⟨F,R,fun b=>⟨.inl,fun h=>by rcases h with h | ⟨i,hi,_⟩;exact h;simp at hi⟩⟩
 | id::r,hm,hm0,F,fw,l,h,R,hsame=>by
  simp only[qXy] at h;obtain⟨o,l',ho,hs2,_⟩:=yZ h;cases o with
  | dead=>cases hs2
  | live z es wr full=>
   cases wr with
   | false=>cases hs2
   | true=>
    obtain⟨h100,hs3⟩:=qM hs2;obtain⟨q,l1,l2,hq,hs4,_⟩:=zB hs3;obtain⟨e,_⟩:=qE hs4;cases e;obtain⟨bi,hb,hfro,hR1⟩ : ∃ bi,β id=some bi∧(∀ b,(F b∨bi.blk=some b)↔qRy β F [id] b)∧Rel cx β (fun b=>F b∨bi.blk=some b) fm (upd hm [(id,.live z es false full)]) a w:=by
     have conv : ∀ {bi:BI},β id=some bi → ∀ b,(F b∨bi.blk=some b)↔qRy β F [id] b:=by
      intro bi hb b;constructor
      ·intro h;rcases h with h | h
       ·exact .inl h
       ·exact .inr ⟨id,sM,bi,hb,h⟩
      ·intro h;rcases h with h | ⟨i,hi,bi',h1,h2⟩
       ·exact .inl h
       ·simp at hi;subst hi;rw[hb] at h1;cases h1;exact .inr h2
     rcases hsame id sM with h | ⟨z',es',full',h1,h2⟩
     ·rw[ho] at h;obtain⟨bi,hb,_⟩:=R.hp id _ h;exact⟨bi,hb,conv hb,R.freeze h h100 hb⟩
     ·rw[ho] at h1;cases h1;obtain⟨bi,hb,_⟩:=R.hp id _ h2;refine⟨bi,hb,conv hb,?_⟩;have hupd:upd hm [(id,.live z es false full)]=hm:=by
       funext j;by_cases hj:j=id
       ·subst hj;simp[upd,h2]
       ·simp[upd,hj]
      rw[hupd];have hFeq:(fun b=>F b∨bi.blk=some b)=F:=by
       funext b;apply propext;constructor
       ·intro h;rcases h with h | h
        ·exact h
        ·exact R.ro h2 hb h
       ·exact .inl
      rw[hFeq];exact R
    obtain⟨F',hR2,hF'⟩:=Rel.freezeAll (hm:=upd hm [(id,.live z es false full)]) hq hR1 (fun i hi=>by
     by_cases hii:i=id
     ·subst hii;exact .inr ⟨z,es,full,ho,zO⟩
     ·rw[qP hii];exact hsame i (by simp[hi]))
    refine⟨F',hR2,fun b=>?_⟩;rw[hF'];constructor
    ·intro h;rcases h with h | ⟨i,hi,bi',h1,h2⟩
     ·rcases (hfro b).1 h with h | ⟨i,hi,bi',h1,h2⟩
      ·exact .inl h
      ·simp at hi;subst hi;exact .inr ⟨i,sM,bi',h1,h2⟩
     ·exact .inr ⟨i,by simp[hi],bi',h1,h2⟩
    ·intro h;rcases h with h | ⟨i,hi,bi',h1,h2⟩
     ·exact .inl ((hfro b).2 (.inl h))
     ·simp only[List.mem_cons] at hi;rcases hi with rfl | hi
      ·exact .inl ((hfro b).2 (.inr ⟨i,sM,bi',h1,h2⟩))
      ·exact .inr ⟨i,hi,bi',h1,h2⟩
end Go.Eng
end
