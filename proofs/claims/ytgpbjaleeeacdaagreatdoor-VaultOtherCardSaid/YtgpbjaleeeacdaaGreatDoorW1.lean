/- My own text: an abstract machine, its walks over the functions reached, and their tie to the program. -/
import Derived.Orders
import Derived.Laws.AppendOwn
import Derived.Laws.MakeOwn
import Derived.Laws.Entries
import Derived.Below
import Derived.DataElems
import Derived.ChangeSlices
import Derived.Laws.IdiomCopy
import Derived.Laws.IdiomStrings
import Derived.Laws.Small
import Derived.Laws.Slices
import Derived.Laws.Strings
import Derived.Laws.BytesString
import Derived.Laws.StructEq
set_option linter.unusedSimpArgs false
set_option linter.unusedVariables false
section
namespace Go.Eng
inductive T where
 | int (k:IntKind) (n:Int)
 | bool (b:Bool)
 | str (s:ByteArray)
 | fnil
 | pnil
 | agg (cs:List T)
 | tup (cs:List T)
 | sl (es:List T)
 deriving Inhabited
def T.cells:T→List T
 | .agg cs=>cs
 | t=>[t]
inductive Rep (F:Nat→Prop) (w:World):T→Value→Prop
 | int (k:IntKind) (n:Int):Rep F w (.int k n) (.int k n)
 | bool (b:Bool):Rep F w (.bool b) (.bool b)
 | str (s:ByteArray):Rep F w (.str s) (.string s)
 | fnil:Rep F w .fnil .nilFunc
 | pnil:Rep F w .pnil (.pointer none)
 | agg (cs:List T) (vs:Array Value) (hl:vs.size=cs.length) (h1 : ∀ u∈vs,u.oneCell'=true)
   (h : ∀ (i:Nat) (c:T) (u:Value),cs[i]?=some c→vs[i]?=some u→Rep F w c u):Rep F w (.agg cs) (.agg vs)
 | tup (cs:List T) (vs:Array Value) (hl:vs.size=cs.length)
   (h : ∀ (i:Nat) (c:T) (u:Value),cs[i]?=some c→vs[i]?=some u→Rep F w c u):Rep F w (.tup cs) (.tuple vs)
 | nil:Rep F w (.sl []) (.slice none 0 0)
 | sl (es:List T) (a:Addr) (cap sz:Nat) (news:List Value) (ha:es≠[]→a.spot=none) (hc:es.length≤cap)
   (hn:news.length=es.length*sz) (h1 : ∀ u∈news,u.oneCell'=true) (hF:es≠[]→F a.block)
   (hw : ∀ j u,news[j]?=some u→w.cell? (a.add j)=some u) (hz : ∀ e∈es,e.cells.length=sz)
   (h : ∀ (i:Nat) (e:T) (j:Nat) (c:T) (u:Value),es[i]?=some e→e.cells[j]?=some c→news[i*sz+j]?=some u→Rep F w c u) :
   Rep F w (.sl es) (.slice (some a) es.length cap)
structure BI where
 blk:Option Nat
 sz:Nat
 room:Nat
inductive V where
 | t (x:T)
 | nil
 | ref (id i f:Nat)
 | ro (cs:List T)
 | sl (id off len:Nat)
 | agg (cs:List V)
 | tup (cs:List V)
 | fn (f:FuncId) (caps:List V)
 | bd (g:FuncId) (id i f:Nat)
 | bq
 deriving Inhabited
def V.cells:V→List V
 | .agg cs=>cs
 | .t (.agg cs)=>cs.map .t
 | v=>[v]
inductive qL (β:Nat→Option BI) (F:Nat→Prop) (w:World):V→Value→Prop
 | t {x:T} {v:Value} (h:Rep F w x v):qL β F w (.t x) v
 | nil:qL β F w .nil (.slice none 0 0)
 | ref (id i f b sz room:Nat) (hb:β id=some ⟨some b,sz,room⟩):qL β F w (.ref id i f) (.pointer (some ⟨b,i*sz+f,none⟩))
 | ro (cs:List T) (a:Addr) (news:List Value) (ha:a.spot=none) (hn:news.length=cs.length) (h1 : ∀ u∈news,u.oneCell'=true)
   (hF:F a.block) (hw : ∀ j u,news[j]?=some u→w.cell? (a.add j)=some u)
   (h : ∀ (j:Nat) (c:T) (u:Value),cs[j]?=some c→news[j]?=some u→Rep F w c u):qL β F w (.ro cs) (.pointer (some a))
 | sl (id off len cap b sz room:Nat) (a:Addr) (hb:β id=some ⟨some b,sz,room⟩) (hlc:len≤cap) (hr:off+cap≤room) (ha:0<cap→a=⟨b,off*sz,none⟩) (hs:a.spot=none) :
   qL β F w (.sl id off len) (.slice (some a) len cap)
 | slv (id sz room:Nat) (hb:β id=some ⟨none,sz,room⟩):qL β F w (.sl id 0 0) (.slice none 0 0)
 | agg (cs:List V) (vs:Array Value) (hl:vs.size=cs.length) (h1 : ∀ u∈vs,u.oneCell'=true)
   (h : ∀ (i:Nat) (c:V) (u:Value),cs[i]?=some c→vs[i]?=some u→qL β F w c u):qL β F w (.agg cs) (.agg vs)
 | tup (cs:List V) (vs:Array Value) (hl:vs.size=cs.length)
   (h : ∀ (i:Nat) (c:V) (u:Value),cs[i]?=some c→vs[i]?=some u→qL β F w c u):qL β F w (.tup cs) (.tuple vs)
 | fn (f:FuncId) (cs:List V) (vs:Array Value) (hl:vs.size=cs.length)
   (h : ∀ (i:Nat) (c:V) (u:Value),cs[i]?=some c→vs[i]?=some u→qL β F w c u):qL β F w (.fn f cs) (.func (.func f) #[] vs)
 | bd (g:FuncId) (id i f b sz room:Nat) (hb:β id=some ⟨some b,sz,room⟩):qL β F w (.bd g id i f) (.func (.func g) #[.pointer (some ⟨b,i*sz+f,none⟩)] #[])
 | bq (b:Bool):qL β F w .bq (.bool b)
theorem qA3 (a:Addr) (n:Nat):(a.add n).block=a.block:=by unfold Addr.add;split<;>rfl
theorem zD5 {w w':World} {a:Addr} (h:w'.heap[a.block]?=w.heap[a.block]?):w'.cell? a=w.cell? a:=World.cell?_of_block h
theorem Rep.mono {F F':Nat→Prop} {w w':World} {x:T} {v:Value} (h:Rep F w x v) (hF : ∀ b,F b→F' b)
  (hw : ∀ b,F b→w'.heap[b]?=w.heap[b]?):Rep F' w' x v:=by
 induction h with
 | int k n=>exact .int k n
 | bool b=>exact .bool b
 | str s=>exact .str s
 | fnil=>exact .fnil
 | pnil=>exact .pnil
 | agg cs vs hl h1 _ ih=>exact .agg cs vs hl h1 ih
 | tup cs vs hl _ ih=>exact .tup cs vs hl ih
 | nil=>exact .nil
 | sl es a cap sz news ha hc hn h1 hFa hwc hz _ ih=>
  refine .sl es a cap sz news ha hc hn h1 (fun e=>hF _ (hFa e)) (fun j u hj=>?_) hz ih
  have hne:es≠[]:=by
   intro e;subst e
   have:news=[]:=List.eq_nil_of_length_eq_zero (by simpa using hn)
   subst this;simp at hj
  rw[zD5 (w:=w) (by rw[qA3];exact hw _ (hFa hne))]
  exact hwc j u hj
theorem qL.mono {β β':Nat→Option BI} {F F':Nat→Prop} {w w':World} {x:V} {v:Value} (h:qL β F w x v) (hβ : ∀ i bi,β i=some bi→β' i=some bi)
  (hF : ∀ b,F b→F' b) (hw : ∀ b,F b→w'.heap[b]?=w.heap[b]?):qL β' F' w' x v:=by
 induction h with
 | t h=>exact .t (h.mono hF hw)
 | nil=>exact .nil
 | ref id i f b sz room hb=>exact .ref id i f b sz room (hβ _ _ hb)
 | ro cs a news ha hn h1 hFa hwc h=>
  refine .ro cs a news ha hn h1 (hF _ hFa) (fun j u hj=>?_) (fun j c u hc hu=>(h j c u hc hu).mono hF hw)
  rw[zD5 (w:=w) (by rw[qA3];exact hw _ hFa)]
  exact hwc j u hj
 | sl id off len cap b sz room a hb hlc hr ha hs=>exact .sl id off len cap b sz room a (hβ _ _ hb) hlc hr ha hs
 | slv id sz room hb=>exact .slv id sz room (hβ _ _ hb)
 | agg cs vs hl h1 _ ih=>exact .agg cs vs hl h1 ih
 | tup cs vs hl _ ih=>exact .tup cs vs hl ih
 | fn f cs vs hl _ ih=>exact .fn f cs vs hl ih
 | bd g id i f b sz room hb=>exact .bd g id i f b sz room (hβ _ _ hb)
 | bq b=>exact .bq b
inductive Ob where
 | live (z:Nat) (es:List V) (wr full:Bool)
 | dead
 deriving Inhabited
def jZ (β:Nat→Option BI) (F:Nat→Prop) (w:World) (es:List V) (sz:Nat) (c:Array Value):Prop:=
 ∀ (i:Nat) (x:V),es[i]?=some x→x.cells.length=sz∧
  ∀ (j:Nat) (y:V),x.cells[j]?=some y → ∃ u,c[i*sz+j]?=some u∧qL β F w y u∧u.oneCell'=true
def qCq (β:Nat→Option BI) (F:Nat→Prop) (w:World) (bi:BI):Ob→Prop
 | .dead=>True
 | .live z es wr full=>
  bi.sz=z∧(full=true→bi.room=es.length)∧
  match bi.blk with
  | none=>es=[]∧bi.room=0
  | some b => ∃ (c:Array Value) (e:TypeId) (fz:Nat×Nat),w.heap[b]?=some (.cells c e fz)∧(∀ j,(j<c.size → ¬ (fz.1≤j∧j<fz.2))∧fz.1≤fz.2)∧
    c.size=bi.room*bi.sz∧es.length≤bi.room∧bi.room≤maxLen∧jZ β F w es bi.sz c∧(if wr then ¬ F b else F b)
theorem jZ.mono {β β':Nat→Option BI} {F F':Nat→Prop} {w w':World} {es:List V} {sz:Nat} {c:Array Value} (h:jZ β F w es sz c)
  (hβ : ∀ i bi,β i=some bi→β' i=some bi) (hF : ∀ b,F b→F' b) (hw : ∀ b,F b→w'.heap[b]?=w.heap[b]?):jZ β' F' w' es sz c:=by
 intro i x hx
 obtain⟨h1,h2⟩:=h i x hx
 exact⟨h1,fun j y hy=>let ⟨u,a,b,d⟩:=h2 j y hy;⟨u,a,b.mono hβ hF hw,d⟩⟩
theorem qCq.mono {β β':Nat→Option BI} {F F':Nat→Prop} {w w':World} {bi:BI} {o:Ob} (h:qCq β F w bi o)
  (hβ : ∀ i bi,β i=some bi→β' i=some bi) (hF : ∀ b,F b→F' b) (hw : ∀ b,F b→w'.heap[b]?=w.heap[b]?)
  (hb : ∀ b,bi.blk=some b→o≠ .dead→w'.heap[b]?=w.heap[b]?∧(F' b→F b)):qCq β' F' w' bi o:=by
 cases o with
 | dead=>trivial
 | live z es wr full=>
  unfold qCq at *
  cases hbk:bi.blk with
  | none=>simp only[hbk] at h ⊢;exact h
  | some b=>
   simp only[hbk] at h ⊢
   obtain⟨hz,h0,c,e,fz,h1,h2,h3,h4,h5,h6,h7⟩:=h
   obtain⟨hb1,hb2⟩:=hb b hbk (by simp)
   refine⟨hz,h0,c,e,fz,hb1.trans h1,h2,h3,h4,h5,h6.mono hβ hF hw,?_⟩
   cases wr
   ·simp only[Bool.false_eq_true,if_false] at h7 ⊢;exact hF _ h7
   ·simp only[if_true] at h7 ⊢;exact fun hf=>h7 (hb2 hf)
structure Cx where
 P:Program
 w0:World
 F0:Nat→Prop
 inb:Nat→Prop
 nt:Nat
 gl:Nat→Option (List T)
 β0:Nat→Option BI
 d0 : ∀ k bi,β0 k=some bi→k<100
def GSz (w:World) (g n:Nat):Prop := ∃ c e z,w.heap[g]?=some (.cells c e z)∧c.size=n
theorem GSz.mono {w w':World} {g n:Nat} (h:w'.heap[g]?=w.heap[g]?) (k:GSz w g n):GSz w' g n:=by
 obtain⟨c,e,z,h1,h2⟩:=k
 exact⟨c,e,z,h.trans h1,h2⟩
structure Rel (cx:Cx) (β:Nat→Option BI) (F:Nat→Prop) (fm:Nat→Option V) (hm:Nat→Option Ob) (a:Act) (w:World):Prop where
 tsz:a.tmps.size=cx.nt
 dfr:a.defers=[]
 fr : ∀ t v,fm t=some v → ∃ x,a.tmps[t]?=some x∧qL β F w v x
 hp : ∀ id o,hm id=some o → ∃ bi,β id=some bi∧qCq β F w bi o
 dom : ∀ id,hm id=none→β id=none
 inj : ∀ i j bi bj b oi oj,β i=some bi→β j=some bj→bi.blk=some b→bj.blk=some b→hm i=some oi→hm j=some oj→oi≠ .dead→oj≠ .dead→i=j
 os:w.os=cx.w0.os
 tape:w.tape=cx.w0.tape
 output:w.output=cx.w0.output
 size:cx.w0.heap.size≤w.heap.size
 ext : ∀ b,b<cx.w0.heap.size → ¬ cx.inb b→w.heap[b]?=cx.w0.heap[b]?
 old : ∀ id z es full bi b,hm id=some (.live z es true full)→β id=some bi→bi.blk=some b→cx.w0.heap.size≤b∨id<100∧cx.inb b
 inF : ∀ b,cx.inb b → ¬ F b
 inw : ∀ b,cx.inb b→b<cx.w0.heap.size
 Fw : ∀ b,F b→b<w.heap.size
 F0 : ∀ b,b<cx.w0.heap.size→(F b↔cx.F0 b)
 blt : ∀ id bi b,β id=some bi→bi.blk=some b→b<w.heap.size
 gl : ∀ g cs,cx.gl g=some cs→qL β F w (.ro cs) (.pointer (some ⟨g,0,none⟩))
 ext0 : ∀ k bi,cx.β0 k=some bi→β k=some bi
 gs : ∀ g cs,cx.gl g=some cs→GSz w g cs.length
theorem jC3 {β:Nat→Option BI} {F:Nat→Prop} {w:World} {cs:List T} {g:Nat} (h:qL β F w (.ro cs) (.pointer (some ⟨g,0,none⟩))):F g:=by
 cases h with
 | ro _ a news ha hn h1 hF hw h=>exact hF
end Go.Eng
end
section
namespace Go.Eng
inductive Q (α:Type) where
 | ret (a:α)
 | fail
 | get (id:Nat) (k:Ob→Q α)
 | free (id:Nat) (k:Q α)
def Q.bind {α β:Type}:Q α→(α→Q β)→Q β
 | .ret a,f=>f a
 | .fail,_=> .fail
 | .get id k,f=> .get id fun o=>(k o).bind f
 | .free id k,f=> .free id (k.bind f)
def Q.run {α:Type} (h:Nat→Option Ob):Q α→Option (α×List Nat)
 | .ret a=>some (a,[])
 | .fail=>none
 | .get id k=>match h id with
  | some o=>match (k o).run h with
   | some (a,l)=>some (a,id::l)
   | none=>none
  | none=>none
 | .free id k=>match h id with
  | none=>match k.run h with
   | some (a,l)=>some (a,id::l)
   | none=>none
  | some _=>none
theorem Q.run_bind {α β:Type} (h:Nat→Option Ob) (f:α→Q β) (q:Q α):(q.bind f).run h=match q.run h with
  | some (a,l)=>match (f a).run h with
   | some (b,l')=>some (b,l++l')
   | none=>none
  | none=>none:=by
 induction q with
 | ret a=>simp only[Q.bind,Q.run];cases (f a).run h<;>simp
 | fail=>rfl
 | get id k ih=>
  simp only[Q.bind,Q.run]
  cases h id with
  | none=>rfl
  | some o=>
   simp only[ih]
   cases (k o).run h with
   | none=>rfl
   | some p=>
    obtain⟨a,l⟩:=p
    simp only
    cases (f a).run h with
    | none=>rfl
    | some p=>rfl
 | free id k ih=>
  simp only[Q.bind,Q.run]
  cases h id with
  | some o=>rfl
  | none=>
   simp only[ih]
   cases k.run h with
   | none=>rfl
   | some p=>
    obtain⟨a,l⟩:=p
    simp only
    cases (f a).run h with
    | none=>rfl
    | some p=>rfl
theorem Q.run_local {α:Type} {h h':Nat→Option Ob} (q:Q α) : ∀ {a:α} {l:List Nat},q.run h=some (a,l)→(∀ i∈l,h' i=h i)→q.run h'=some (a,l):=by
 induction q with
 | ret a=>intro a l hr _;exact hr
 | fail=>intro a l hr _;cases hr
 | get id k ih=>
  intro a l hr hl
  simp only[Q.run] at hr ⊢
  cases ho:h id with
  | none=>rw[ho] at hr;cases hr
  | some o=>
   rw[ho] at hr
   simp only at hr
   cases hk:(k o).run h with
   | none=>rw[hk] at hr;cases hr
   | some p=>
    obtain⟨a1,l1⟩:=p
    rw[hk] at hr
    simp only[Option.some.injEq,Prod.mk.injEq] at hr
    obtain⟨rfl,rfl⟩:=hr
    rw[hl id (by simp),ho]
    simp only
    rw[ih o hk (fun i hi=>hl i (by simp[hi]))]
 | free id k ih=>
  intro a l hr hl
  simp only[Q.run] at hr ⊢
  cases ho:h id with
  | some o=>rw[ho] at hr;cases hr
  | none=>
   rw[ho] at hr
   simp only at hr
   cases hk:k.run h with
   | none=>rw[hk] at hr;cases hr
   | some p=>
    obtain⟨a1,l1⟩:=p
    rw[hk] at hr
    simp only[Option.some.injEq,Prod.mk.injEq] at hr
    obtain⟨rfl,rfl⟩:=hr
    rw[hl id (by simp),ho]
    simp only
    rw[ih hk (fun i hi=>hl i (by simp[hi]))]
def Q.of {α:Type}:Option α→Q α
 | some a=> .ret a
 | none=> .fail
def Q.assert (b:Prop) [Decidable b] {α:Type} (q:Q α):Q α:=if b then q else .fail
def qCo:List V→Option (List T)
 | []=>some []
 | .t x::r=>(qCo r).map (x :: ·)
 | _::_=>none
def V.mk (cs:List V):V:=
 match qCo cs with
 | some ts=> .t (.agg ts)
 | none=> .agg cs
def V.ofConst:Value→Option V
 | .int k n=>some (.t (.int k n))
 | .bool b=>some (.t (.bool b))
 | .string s=>some (.t (.str s))
 | .nilFunc=>some (.t .fnil)
 | .pointer none=>some (.t .pnil)
 | .slice none l c=>if l=0∧c=0 then some .nil else none
 | .tuple vs=>if vs.size=0 then some (.tup []) else none
 | _=>none
def V.plain:V→Bool
 | .tup _ | .t (.tup _)=>false
 | _=>true
def V.single:V→Bool
 | .agg _ | .t (.agg _)=>false
 | _=>true
def qO5 (es:List V):Bool:=es.all V.single
def zT {α:Type} (l:List α) (i:Nat) (xs:List α):List α:=l.take i++xs++l.drop (i+xs.length)
def qO7 (op:BinOp) (k:IntKind) (a:Int) (k':IntKind) (b:Int):Option T:=
 match op with
 | .shl=>if b<0 then none else some (.int k (k.wrap (a*2^min b.toNat k.bits)))
 | .shr=>if b<0 then none else some (.int k (a.fdiv (2^min b.toNat k.bits)))
 | .add=>if k=k' then some (.int k (k.wrap (a+b))) else none
 | .sub=>if k=k' then some (.int k (k.wrap (a-b))) else none
 | .mul=>if k=k' then some (.int k (k.wrap (a*b))) else none
 | .quo=>if k=k'∧b≠0 then some (.int k (k.wrap (a.tdiv b))) else none
 | .rem=>if k=k'∧b≠0 then some (.int k (a.tmod b)) else none
 | .and=>if k=k' then some (.int k (k.wrap (BitVec.ofInt k.bits a &&& BitVec.ofInt k.bits b).toNat)) else none
 | .or=>if k=k' then some (.int k (k.wrap (BitVec.ofInt k.bits a ||| BitVec.ofInt k.bits b).toNat)) else none
 | .xor=>if k=k' then some (.int k (k.wrap (BitVec.ofInt k.bits a ^^^ BitVec.ofInt k.bits b).toNat)) else none
 | .andNot=>if k=k' then some (.int k (k.wrap (BitVec.ofInt k.bits a &&& ~~~ BitVec.ofInt k.bits b).toNat)) else none
 | .eql=>if k=k' then some (.bool (a==b)) else none
 | .neq=>if k=k' then some (.bool (a != b)) else none
 | .lss=>if k=k' then some (.bool (decide (a<b))) else none
 | .leq=>if k=k' then some (.bool (decide (a≤b))) else none
 | .gtr=>if k=k' then some (.bool (decide (a>b))) else none
 | .geq=>if k=k' then some (.bool (decide (a ≥ b))) else none
def qEq (op:BinOp):T→T→Option T
 | .int k a,.int k' b=>qO7 op k a k' b
 | .str a,.str b=>
  match op with
  | .add=>if a.size+b.size≤maxLen then some (.str (a++b)) else none
  | .eql=>some (.bool (a.toList==b.toList))
  | .neq=>some (.bool !(a.toList==b.toList))
  | _=>none
 | _,_=>none
def unT (op:UnOp):T→Option T
 | .int k n=>
  match op with
  | .neg=>some (.int k (k.wrap (0-n)))
  | .xor=>some (.int k (k.wrap (BitVec.ofInt k.bits (if k.signed then -1 else k.max) ^^^ BitVec.ofInt k.bits n).toNat))
  | _=>none
 | .bool b=>match op with
  | .not=>some (.bool !b)
  | _=>none
 | _=>none
inductive AO where
 | mov
 | smov
 | pick
 | new (z:Nat) (es:List V)
 | box
 | boxArr
 | build (zero:List V) (pl:List (Nat×Nat))
 | bslice (z len:Nat) (zero:V) (ix:List Nat)
 | load (n:Nat) (agg:Bool)
 | store (n:Nat)
 | bin (op:BinOp)
 | beq (neg:Bool)
 | un (op:UnOp)
 | conv (k:IntKind)
 | s2b
 | b2s
 | mkslice (z by_:Nat) (zero:V)
 | sslice (lo hi mx:Bool)
 | slice (z:Nat) (lo hi mx:Bool)
 | aslice (n z:Nat) (lo hi mx:Bool)
 | faddr (off:Nat)
 | field (off n:Nat) (agg:Bool)
 | iaddr (z:Nat)
 | aaddr (n z:Nat)
 | index (n z:Nat) (agg:Bool)
 | sindex
 | extract (i:Nat)
 | len
 | slen
 | lenc (n:Nat)
 | append (z by_:Nat)
 | appstr
 | copy (z:Nat)
 | min
 | max
 | mkfn (f:FuncId)
 | mkbd (f:FuncId)
 | idsl
 | nileq (neg:Bool)
 | appendt (z by_:Nat)
 | aeq (n:Nat) (k:IntKind) (neg:Bool)
 | nilchk
 | bad
 deriving Inhabited
def qA (b:UInt8):T:= .int .u8 b.toNat
def qAf:V→Q (List V)
 | .nil=> .ret []
 | .t (.sl es)=> .ret (es.map .t)
 | .sl id off len=> .get id fun
  | .live _ es _ _=>Q.assert (off+len≤es.length) (.ret ((es.drop off).take len))
  | .dead=> .fail
 | _=> .fail
def qDb:List V→Option (List UInt8)
 | []=>some []
 | .t (.int .u8 n)::r=>(qDb r).map (UInt8.ofNat n.toNat :: ·)
 | _::_=>none
def yL:V→Option Int
 | .t (.int _ n)=>some n
 | _=>none
def zOk (z:Nat) (es:List V):Bool:=es.all fun e=>e.cells.length==z
def qTf (z:Nat) (es:List T):Bool:=es.all fun e=>e.cells.length==z
def qA6 (lo hi mx:Bool) (vs:List V):Option (Int×Option Int×Option Int):=
 match lo,hi,mx,vs with
 | false,false,false,[]=>some (0,none,none)
 | true,false,false,[a]=>(yL a).map fun a=>(a,none,none)
 | false,true,false,[b]=>(yL b).map fun b=>(0,some b,none)
 | true,true,false,[a,b]=>(yL a).bind fun a=>(yL b).map fun b=>(a,some b,none)
 | false,true,true,[b,c]=>(yL b).bind fun b=>(yL c).map fun c=>(0,some b,some c)
 | true,true,true,[a,b,c]=>(yL a).bind fun a=>(yL b).bind fun b=>(yL c).map fun c=>(a,some b,some c)
 | _,_,_,_=>none
def qK0 (n:Nat):Int×Option Int×Option Int→Option (Nat×Nat)
 | (l,h,m)=>
  let h:=h.getD n
  if 0≤l∧l≤h∧h≤n∧(∀ x,m=some x→h≤x∧x≤n) then some (l.toNat,h.toNat) else none
abbrev Wr:=List (Nat×Ob)
def qPc (z:List V):List (Nat×Nat)→List V→Option (List V)
 | [],[]=>some z
 | (off,n)::pl,v::vs=>if v.cells.length=n∧off+n≤z.length∧v.plain=true then qPc (zT z off v.cells) pl vs else none
 | _,_=>none
def qPb (z:Nat) (es:List V):List Nat→List V→Option (List V)
 | [],[]=>some es
 | i::ix,v::vs=>if v.cells.length=z∧i<es.length∧v.plain=true then qPb z (es.set i v) ix vs else none
 | _,_=>none
def qK6 (cs:List V) (off n:Nat) (agg:Bool):Option V:=
 if agg then (if off+n≤cs.length then some (V.mk ((cs.drop off).take n)) else none) else cs[off]?
def qAj (n by_:Nat):Prop:=n≤maxLen∧n*by_≤140737488355328
instance (n by_:Nat):Decidable (qAj n by_):=by unfold qAj;infer_instance
def zAr:List V→Q (V×Wr)
 | [x]=> .ret (x,[])
 | _=> .fail
def qSj:List V→Q (V×Wr)
 | [.t (.str s)]=> .ret (.t (.str s),[])
 | _=> .fail
def qOm:List V→Q (V×Wr)
 | [.t (.bool c),a,b]=> .ret (if c then a else b,[])
 | _=> .fail
def qVg (z:Nat) (es:List V) (nb:Nat):List V→Q (V×Wr)
 | []=> .free nb (.ret (.ref nb 0 0,[(nb,.live z es true true)]))
 | _=> .fail
def qVe (nb:Nat):List V→Q (V×Wr)
 | [x]=>Q.assert (x.plain=true) <| .free nb (.ret (.ref nb 0 0,[(nb,.live x.cells.length [x] true true)]))
 | _=> .fail
def qFe (nb:Nat):List V→Q (V×Wr)
 | [x]=>Q.assert (x.plain=true∧x.cells.length≤1000000) <| .free nb (.ret (.ref nb 0 0,[(nb,.live 1 x.cells true true)]))
 | _=> .fail
def qIn (z:List V) (pl:List (Nat×Nat)) (vs:List V):Q (V×Wr):=(Q.of (qPc z pl vs)).bind fun cs=> .ret (V.mk cs,[])
def qIm (z len:Nat) (zero:V) (ix:List Nat) (nb:Nat) (vs:List V):Q (V×Wr):=
 (Q.of (qPb z (List.replicate len zero) ix vs)).bind fun es=> .free nb (.ret (.sl nb 0 len,[(nb,.live z es true true)]))
def qJm (n:Nat) (agg:Bool):List V→Q (V×Wr)
 | [.ref id i f]=> .get id fun
  | .live _ es _ _=>(Q.of es[i]?).bind fun x=>
   if f+n≤x.cells.length then (Q.of (qK6 x.cells f n agg)).bind fun v=> .ret (v,[])
   else Q.assert (f=0∧agg=true∧qO5 es=true∧i+n≤es.length) (.ret (V.mk ((es.drop i).take n),[]))
  | .dead=> .fail
 | [.ro cs]=>Q.assert (n≤cs.length) (if agg then .ret (.t (.agg (cs.take n)),[]) else (Q.of cs[0]?).bind fun x=> .ret (.t x,[]))
 | _=> .fail
def qIr (n:Nat):List V→Q (V×Wr)
 | [.ref id i f,v]=> .get id fun
  | .live z es true full=>(Q.of es[i]?).bind fun x=>Q.assert (v.cells.length=n∧v.plain=true)
   (if f=0∧x.cells.length=n then .ret (.tup [],[(id,.live z (es.set i v) true full)])
   else if f+n≤x.cells.length then .ret (.tup [],[(id,.live z (es.set i (V.mk (zT x.cells f v.cells))) true full)])
   else Q.assert (f=0∧qO5 es=true∧i+n≤es.length) (.ret (.tup [],[(id,.live z (zT es i v.cells) true full)])))
  | _=> .fail
 | _=> .fail
def zAo (op:BinOp):List V→Q (V×Wr)
 | [.t x,.t y]=>(Q.of (qEq op x y)).bind fun r=> .ret (.t r,[])
 | _=> .fail
def qVd (neg:Bool):List V→Q (V×Wr)
 | [.t (.bool x),.t (.bool y)]=> .ret (.t (.bool (if neg then !(x==y) else x==y)),[])
 | _=> .fail
def zL8 (op:UnOp):List V→Q (V×Wr)
 | [.t x]=>(Q.of (unT op x)).bind fun r=> .ret (.t r,[])
 | _=> .fail
def qDt (k:IntKind):List V→Q (V×Wr)
 | [.t (.int _ n)]=> .ret (.t (.int k (k.wrap n)),[])
 | _=> .fail
def qQz (nb:Nat):List V→Q (V×Wr)
 | [.t (.str s)]=>Q.assert (qAj s.size 1) (.free nb (.ret (.sl nb 0 s.size,[(nb,.live 1 (s.data.toList.map fun b=> .t (qA b)) true false)])))
 | _=> .fail
def zAn:List V→Q (V×Wr)
 | [x]=>(qAf x).bind fun es=>(Q.of (qDb es)).bind fun bs=> .ret (.t (.str ⟨bs.toArray⟩),[])
 | _=> .fail
def zL7 (z by_:Nat) (zero:V) (nb:Nat):List V→Q (V×Wr)
 | [l,c]=>(Q.of (yL l)).bind fun l=>(Q.of (yL c)).bind fun c=>
   Q.assert (0≤l∧l≤c∧qAj c.toNat by_) (.free nb (.ret (.sl nb 0 l.toNat,[(nb,.live z (List.replicate l.toNat zero) true false)])))
 | _=> .fail
def qIq (lo hi mx:Bool):List V→Q (V×Wr)
 | .t (.str s)::bs=>(Q.of (qA6 lo hi mx bs)).bind fun b=>
  (Q.of (qK0 s.size b)).bind fun p=>Q.assert (b.2.2=none) (.ret (.t (.str (s.extract p.1 p.2)),[]))
 | _=> .fail
def qL0 (z:Nat) (lo hi mx:Bool):List V→Q (V×Wr)
 | .t (.sl es)::bs=>(Q.of (qA6 lo hi mx bs)).bind fun b=>
  (Q.of (qK0 es.length b)).bind fun p=>Q.assert (qTf z es=true) (.ret (.t (.sl ((es.drop p.1).take (p.2-p.1))),[]))
 | .sl id off len::bs=>(Q.of (qA6 lo hi mx bs)).bind fun b=>
  (Q.of (qK0 len b)).bind fun p=> .get id fun
   | .live z' _ _ _=>Q.assert (z'=z) (.ret (.sl id (off+p.1) (p.2-p.1),[]))
   | .dead=> .fail
 | .nil::bs=>(Q.of (qA6 lo hi mx bs)).bind fun b=>(Q.of (qK0 0 b)).bind fun _=> .ret (.nil,[])
 | _=> .fail
def qIl (n z:Nat) (lo hi mx:Bool):List V→Q (V×Wr)
 | .ref id 0 0::bs=>(Q.of (qA6 lo hi mx bs)).bind fun b=>
  (Q.of (qK0 n b)).bind fun p=> .get id fun
   | .live z' es _ true=>Q.assert (z'=z∧es.length=n∧b.2.2=none) (.ret (.sl id p.1 (p.2-p.1),[]))
   | _=> .fail
 | _=> .fail
def qLx (off:Nat):List V→Q (V×Wr)
 | [.ref id i f]=> .ret (.ref id i (f+off),[])
 | [.ro cs]=>Q.assert (off≤cs.length) (.ret (.ro (cs.drop off),[]))
 | _=> .fail
def qLy (off n:Nat) (agg:Bool):List V→Q (V×Wr)
 | [.agg cs]=>(Q.of (qK6 cs off n agg)).bind fun v=> .ret (v,[])
 | [.t (.agg cs)]=>(Q.of (qK6 (cs.map .t) off n agg)).bind fun v=> .ret (v,[])
 | _=> .fail
def qIo (z:Nat):List V→Q (V×Wr)
 | [.sl id off len,ix]=>(Q.of (yL ix)).bind fun j=>Q.assert (0≤j∧j<len) (.get id fun
  | .live z' _ _ _=>Q.assert (z'=z) (.ret (.ref id (off+j.toNat) 0,[]))
  | .dead=> .fail)
 | [.t (.sl es),ix]=>(Q.of (yL ix)).bind fun j=>Q.assert (0≤j) ((Q.of es[j.toNat]?).bind fun e=>Q.assert (e.cells.length=z) (.ret (.ro e.cells,[])))
 | _=> .fail
def qIk (n z:Nat):List V→Q (V×Wr)
 | [.ref id i f,ix]=>(Q.of (yL ix)).bind fun j=>Q.assert (0≤j∧j<n) (.get id fun
  | .live z' _ _ _=>if f=0∧z'=z then .ret (.ref id (i+j.toNat) 0,[]) else .ret (.ref id i (f+j.toNat*z),[])
  | .dead=> .fail)
 | [.ro cs,ix]=>(Q.of (yL ix)).bind fun j=>Q.assert (0≤j∧j<n∧j.toNat*z≤cs.length) (.ret (.ro (cs.drop (j.toNat*z)),[]))
 | _=> .fail
def qLz (n z:Nat) (agg:Bool):List V→Q (V×Wr)
 | [.agg cs,ix]=>(Q.of (yL ix)).bind fun j=>Q.assert (0≤j∧j<n) ((Q.of (qK6 cs (j.toNat*z) z agg)).bind fun v=> .ret (v,[]))
 | [.t (.agg cs),ix]=>(Q.of (yL ix)).bind fun j=>Q.assert (0≤j∧j<n) ((Q.of (qK6 (cs.map .t) (j.toNat*z) z agg)).bind fun v=> .ret (v,[]))
 | _=> .fail
def qC3:List V→Q (V×Wr)
 | [.t (.str s),ix]=>(Q.of (yL ix)).bind fun j=>Q.assert (0≤j) ((Q.of s.data.toList[j.toNat]?).bind fun b=> .ret (.t (qA b),[]))
 | _=> .fail
def qC2 (i:Nat):List V→Q (V×Wr)
 | [.tup vs]=>(Q.of vs[i]?).bind fun v=> .ret (v,[])
 | [.t (.tup vs)]=>(Q.of vs[i]?).bind fun v=> .ret (.t v,[])
 | _=> .fail
def qJn:List V→Q (V×Wr)
 | [.t (.str s)]=> .ret (.t (.int .i64 s.size),[])
 | _=> .fail
def qVf:List V→Q (V×Wr)
 | [.t (.sl es)]=> .ret (.t (.int .i64 es.length),[])
 | [.sl _ _ len]=> .ret (.t (.int .i64 len),[])
 | [.nil]=> .ret (.t (.int .i64 0),[])
 | _=> .fail
def qOl (n:Nat):List V→Q (V×Wr)
 | [_]=> .ret (.t (.int .i64 n),[])
 | _=> .fail
def qC1 (z by_ nb:Nat):List V→Q (V×Wr)
 | [s,x]=>(qAf x).bind fun xs=>Q.assert (zOk z xs=true)
  (match s with
  | .nil=>Q.assert (qAj xs.length by_) (.free nb (.ret (.sl nb 0 xs.length,[(nb,.live z xs true false)])))
  | .sl id 0 len=> .get id fun
   | .live z' es true _=>Q.assert (z'=z∧es.length=len∧qAj (len+xs.length) by_∧100≤id) (.free nb (.ret (.sl nb 0 (len+xs.length),[(id,.dead),(nb,.live z (es++xs) true false)])))
   | _=> .fail
  | _=> .fail)
 | _=> .fail
def qFo (z by_ nb:Nat):List V→Q (V×Wr)
 | [.sl id 0 len,.t (.sl ts)]=>Q.assert (zOk z (ts.map .t)=true) (.get id fun
   | .live z' es true _=>Q.assert ((z'=z∧len≤es.length)∧qAj (len+ts.length) by_∧100≤id) (.free nb (.ret (.sl nb 0 (len+ts.length),[(id,.dead),(nb,.live z (es.take len++ts.map .t) true false)])))
   | _=> .fail)
 | _=> .fail
def AO.cut:AO→AO
 | .append z b=> .appendt z b
 | o=>o
def xQ (nb:Nat):List V→Q (V×Wr)
 | [.sl id 0 len,.t (.str st)]=> .get id fun
   | .live z' es true _=>Q.assert (z'=1∧es.length=len∧qAj (len+st.size) 1∧100≤id) (.free nb (.ret (.sl nb 0 (len+st.size),[(id,.dead),(nb,.live 1 (es++st.data.toList.map fun b=> .t (qA b)) true false)])))
   | _=> .fail
 | _=> .fail
def qOk (z:Nat):List V→Q (V×Wr)
 | [d,x]=>(qAf x).bind fun xs=>Q.assert (zOk z xs=true)
  (match d with
  | .sl id off len=> .get id fun
   | .live z' es true full=>Q.assert (off≤es.length∧z'=z) (.ret (.t (.int .i64 (Nat.min xs.length len:Nat)),[(id,.live z (zT es off (xs.take len)) true full)]))
   | _=> .fail
  | _=> .fail)
 | _=> .fail
def zAq:List V→Q (V×Wr)
 | [.t (.int k a),.t (.int _ b)]=> .ret (.t (.int k (if b<a then b else a)),[])
 | _=> .fail
def zAp:List V→Q (V×Wr)
 | [.t (.int k a),.t (.int _ b)]=> .ret (.t (.int k (if b>a then b else a)),[])
 | _=> .fail
def qN0 (k:IntKind):List T→Option (List Int)
 | []=>some []
 | .int k' n::r=>if k'=k then (qN0 k r).map (n :: ·) else none
 | _::_=>none
def qOj (n:Nat) (k:IntKind) (neg:Bool):List V→Q (V×Wr)
 | [.t (.agg xs),.t (.agg ys)]=>(Q.of (qN0 k xs)).bind fun a=>(Q.of (qN0 k ys)).bind fun b=>Q.assert (a.length=n∧b.length=n) (.ret (.t (.bool (if neg then !(a==b) else a==b)),[]))
 | _=> .fail
def qSi (f:FuncId) (vs:List V):Q (V×Wr):= .ret (.fn f vs,[])
def qIp (neg:Bool):List V→Q (V×Wr)
 | [.t (.sl es),.nil]=> .ret (if es.isEmpty then .bq else .t (.bool neg),[])
 | [.sl _ _ len,.nil]=> .ret (if len=0 then .bq else .t (.bool neg),[])
 | [.nil,.nil]=> .ret (.t (.bool (!neg)),[])
 | _=> .fail
def qSh (g:FuncId):List V→Q (V×Wr)
 | [.ref id i f]=> .ret (.bd g id i f,[])
 | _=> .fail
def qSg:List V→Q (V×Wr)
 | [.sl id off len]=> .get id fun
  | .live z es true full=>Q.assert (0<len∧0<es.length) (.ret (.sl id off len,[(id,.live z es true full)]))
  | _=> .fail
 | _=> .fail
def qFf:List V→Q (V×Wr)
 | [.ref id i f]=> .ret (.ref id i f,[])
 | [.ro cs]=> .ret (.ro cs,[])
 | _=> .fail
def sem (o:AO) (vs:List V) (nb:Nat):Q (V×Wr):=
 match o with
 | .mov=>zAr vs
 | .smov=>qSj vs
 | .pick=>qOm vs
 | .new z es=>qVg z es nb vs
 | .box=>qVe nb vs
 | .boxArr=>qFe nb vs
 | .build z pl=>qIn z pl vs
 | .bslice z len zero ix=>qIm z len zero ix nb vs
 | .load n agg=>qJm n agg vs
 | .store n=>qIr n vs
 | .bin op=>zAo op vs
 | .beq neg=>qVd neg vs
 | .un op=>zL8 op vs
 | .conv k=>qDt k vs
 | .s2b=>qQz nb vs
 | .b2s=>zAn vs
 | .mkslice z by_ zero=>zL7 z by_ zero nb vs
 | .sslice lo hi mx=>qIq lo hi mx vs
 | .slice z lo hi mx=>qL0 z lo hi mx vs
 | .aslice n z lo hi mx=>qIl n z lo hi mx vs
 | .faddr off=>qLx off vs
 | .field off n agg=>qLy off n agg vs
 | .iaddr z=>qIo z vs
 | .aaddr n z=>qIk n z vs
 | .index n z agg=>qLz n z agg vs
 | .sindex=>qC3 vs
 | .extract i=>qC2 i vs
 | .len=>qVf vs
 | .slen=>qJn vs
 | .lenc n=>qOl n vs
 | .append z by_=>qC1 z by_ nb vs
 | .appstr=>xQ nb vs
 | .copy z=>qOk z vs
 | .min=>zAq vs
 | .max=>zAp vs
 | .mkfn f=>qSi f vs
 | .mkbd f=>qSh f vs
 | .idsl=>qSg vs
 | .nileq neg=>qIp neg vs
 | .appendt z by_=>qFo z by_ nb vs
 | .aeq n k neg=>qOj n k neg vs
 | .nilchk=>qFf vs
 | .bad=> .fail
end Go.Eng
end
section
namespace Go.Eng
def upd (hm:Nat→Option Ob):Wr→(Nat→Option Ob)
 | []=>hm
 | (i,o)::r=>upd (fun j=>if j=i then some o else hm j) r
def qO6 (β:Nat→Option BI) (i:Nat) (bi:BI):Nat→Option BI:=fun j=>if j=i then some bi else β j
theorem qSk {β:Nat→Option BI} {i:Nat} {bi:BI} (h:β i=none) : ∀ j b,β j=some b→qO6 β i bi j=some b:=by
 intro j b hj
 unfold qO6
 split
 ·subst_vars;rw[h] at hj;cases hj
 ·exact hj
theorem zA {β:Nat→Option BI} {i:Nat} {bi:BI}:qO6 β i bi i=some bi:=by simp[qO6]
theorem jH {β:Nat→Option BI} {i j:Nat} {bi:BI} (h:j≠i):qO6 β i bi j=β j:=by simp[qO6,h]
variable {cx:Cx} {β β':Nat→Option BI} {F:Nat→Prop} {fm:Nat→Option V} {hm hm':Nat→Option Ob} {a:Act} {w w':World}
theorem Rel.step (R:Rel cx β F fm hm a w) (hβ : ∀ i bi,β i=some bi→β' i=some bi)
  (hos:w'.os=w.os) (htp:w'.tape=w.tape) (hout:w'.output=w.output) (hsz:w.heap.size≤w'.heap.size)
  (hblk : ∀ b,b<w.heap.size→w'.heap[b]?=w.heap[b]? ∨ ∃ id z es full bi,hm id=some (.live z es true full)∧β id=some bi∧bi.blk=some b)
  (hhp : ∀ id o,hm' id=some o → ∃ bi,β' id=some bi∧qCq β' F w' bi o)
  (hdom : ∀ id,hm' id=none→β' id=none)
  (hinj : ∀ i j bi bj b oi oj,β' i=some bi→β' j=some bj→bi.blk=some b→bj.blk=some b→hm' i=some oi→hm' j=some oj→oi≠ .dead→oj≠ .dead→i=j)
  (hold : ∀ id z es full bi b,hm' id=some (.live z es true full)→β' id=some bi→bi.blk=some b→cx.w0.heap.size≤b∨id<100∧cx.inb b)
  (hblt : ∀ id bi b,β' id=some bi→bi.blk=some b→b<w'.heap.size):Rel cx β' F fm hm' a w':=by
 have notF : ∀ id z es full bi b,hm id=some (.live z es true full)→β id=some bi→bi.blk=some b → ¬ F b:=by
  intro id z es full bi b h1 h2 h3
  obtain⟨bi',hb',hok⟩:=R.hp id _ h1
  rw[h2] at hb'
  cases hb'
  unfold qCq at hok
  simp only[h3] at hok
  obtain⟨_,_,c,e,fz,_,_,_,_,_,_,h7⟩:=hok
  simpa using h7
 have hF : ∀ b,F b→w'.heap[b]?=w.heap[b]?:=by
  intro b hb
  rcases hblk b (R.Fw b hb) with h | ⟨id,z,es,full,bi,h1,h2,h3⟩
  ·exact h
  ·exact absurd hb (notF id z es full bi b h1 h2 h3)
 refine⟨R.tsz,R.dfr,fun t v hv=>?_,hhp,hdom,hinj,hos.trans R.os,htp.trans R.tape,hout.trans R.output,Nat.le_trans R.size hsz,fun b hb hib=>?_,hold,R.inF,R.inw,
  fun b hb=>Nat.lt_of_lt_of_le (R.Fw b hb) hsz,R.F0,hblt,fun g cs hg=>(R.gl g cs hg).mono hβ (fun _ h=>h) hF,fun k bi h=>hβ _ _ (R.ext0 k bi h),fun g cs hg=>(R.gs g cs hg).mono (hF g (jC3 (R.gl g cs hg)))⟩
 ·obtain⟨x,hx,hr⟩:=R.fr t v hv
  exact⟨x,hx,hr.mono hβ (fun _ h=>h) hF⟩
 ·rcases hblk b (Nat.lt_of_lt_of_le hb R.size) with h | ⟨id,z,es,full,bi,h1,h2,h3⟩
  ·exact h.trans (R.ext b hb hib)
  ·rcases R.old id z es full bi b h1 h2 h3 with h | h
   ·omega
   ·exact absurd h.2 hib
theorem Rel.notF (R:Rel cx β F fm hm a w) {id z:Nat} {es:List V} {full:Bool} {bi:BI} {b:Nat} (h1:hm id=some (.live z es true full)) (h2:β id=some bi) (h3:bi.blk=some b) : ¬ F b:=by
 obtain⟨bi',hb',hok⟩:=R.hp id _ h1
 rw[h2] at hb'
 cases hb'
 unfold qCq at hok
 simp only[h3] at hok
 obtain⟨_,_,c,e,fz,_,_,_,_,_,_,h7⟩:=hok
 simpa using h7
theorem Rel.drew (R:Rel cx β F fm hm a w):Rel cx β F fm hm a w.drew:=by
 refine R.step (w':=w.drew) (fun _ _ h=>h) rfl rfl rfl (Nat.le_refl _) (fun b _=> .inl rfl) (fun id o h=>?_) R.dom R.inj R.old R.blt
 obtain⟨bi,h1,h2⟩:=R.hp id o h
 exact⟨bi,h1,h2.mono (fun _ _ h=>h) (fun _ h=>h) (fun _ _=>rfl) (fun b _ _=>⟨rfl,fun h=>h⟩)⟩
theorem qL.drew {v:V} {x:Value} (h:qL β F w v x):qL β F w.drew v x:=h.mono (fun _ _ h=>h) (fun _ h=>h) (fun _ _=>rfl)
theorem zJ {i:Nat} {o:Ob}:upd hm [(i,o)] i=some o:=by simp[upd]
theorem qI {i j:Nat} {o:Ob} (h:j≠i):upd hm [(i,o)] j=hm j:=by simp[upd,h]
theorem Rel.alloc (R:Rel cx β F fm hm a w) {nb:Nat} (hnb:hm nb=none) {c:Array Value} {e:TypeId} {es:List V} {wr full:Bool} {sz room:Nat} {fz:Nat×Nat}
  (hwr:wr=true) (hw':w'.heap=w.heap.push (.cells c e fz)) (hos:w'.os=w.os) (htp:w'.tape=w.tape) (hout:w'.output=w.output)
  (hfz : ∀ j,(j<c.size → ¬ (fz.1≤j∧j<fz.2))∧fz.1≤fz.2) (hc:c.size=room*sz) (hl:es.length≤room) (hm0:room≤maxLen) (hfull:full=true→room=es.length) (hH:jZ β F w es sz c) :
  Rel cx (qO6 β nb ⟨some w.heap.size,sz,room⟩) F fm (upd hm [(nb,.live sz es wr full)]) a w' ∧ ∀ i bi,β i=some bi→qO6 β nb ⟨some w.heap.size,sz,room⟩ i=some bi:=by
 subst hwr
 have hβ : ∀ i bi,β i=some bi→qO6 β nb ⟨some w.heap.size,sz,room⟩ i=some bi:=qSk (R.dom nb hnb)
 have hbl : ∀ b,b<w.heap.size→w'.heap[b]?=w.heap[b]?:=fun b hb=>by
  rw[hw',Array.getElem?_push,if_neg (by omega)]
 have hnew:w'.heap[w.heap.size]?=some (.cells c e fz):=by rw[hw',Array.getElem?_push,if_pos rfl]
 have hsize:w'.heap.size=w.heap.size+1:=by rw[hw'];simp
 refine⟨R.step hβ hos htp hout (by omega) (fun b hb=> .inl (hbl b hb)) (fun id o ho=>?_) (fun id hn=>?_) (fun i j bi bj b oi oj h1 h2 h3 h4 h5 h6 h7 h8=>?_) (fun id z' es' full' bi b h1 h2 h3=>?_) (fun id bi b h1 h2=>?_),hβ⟩
 ·by_cases hid:id=nb
  ·subst hid
   rw[zJ] at ho
   cases ho
   refine⟨_,zA,rfl,hfull,c,e,fz,hnew,hfz,hc,hl,hm0,hH.mono hβ (fun _ h=>h) (fun b hb=>hbl b (R.Fw b hb)),?_⟩
   simp only[if_true]
   exact fun hF=>absurd (R.Fw _ hF) (Nat.lt_irrefl _)
  ·rw[qI hid] at ho
   obtain⟨bi,h1,h2⟩:=R.hp id o ho
   exact⟨bi,hβ _ _ h1,h2.mono hβ (fun _ h=>h) (fun b hb=>hbl b (R.Fw b hb)) (fun b hb _=>⟨hbl b (R.blt id bi b h1 hb),fun h=>h⟩)⟩
 ·by_cases hid:id=nb
  ·subst hid;rw[zJ] at hn;cases hn
  ·rw[qI hid] at hn;rw[jH hid];exact R.dom id hn
 ·by_cases hi:i=nb<;>by_cases hj:j=nb
  ·rw[hi,hj]
  ·subst hi
   rw[zA] at h1;cases h1
   rw[jH hj] at h2
   simp only[Option.some.injEq] at h3
   have:=R.blt j bj b h2 h4
   omega
  ·subst hj
   rw[zA] at h2;cases h2
   rw[jH hi] at h1
   simp only[Option.some.injEq] at h4
   have:=R.blt i bi b h1 h3
   omega
  ·rw[jH hi] at h1;rw[jH hj] at h2
   rw[qI hi] at h5;rw[qI hj] at h6
   exact R.inj i j bi bj b oi oj h1 h2 h3 h4 h5 h6 h7 h8
 ·by_cases hi:id=nb
  ·subst hi
   rw[zA] at h2;cases h2
   simp only[Option.some.injEq] at h3
   exact .inl (by have:=R.size;omega)
  ·rw[jH hi] at h2
   rw[qI hi] at h1
   exact R.old id z' es' full' bi b h1 h2 h3
 ·by_cases hi:id=nb
  ·subst hi
   rw[zA] at h1;cases h1
   simp only[Option.some.injEq] at h2
   omega
  ·rw[jH hi] at h1
   have:=R.blt id bi b h1 h2
   omega
theorem Rel.virt (R:Rel cx β F fm hm a w) {nb:Nat} (hnb:hm nb=none) {full:Bool} (sz:Nat) :
  Rel cx (qO6 β nb ⟨none,sz,0⟩) F fm (upd hm [(nb,.live sz [] true full)]) a w ∧ ∀ i bi,β i=some bi→qO6 β nb ⟨none,sz,0⟩ i=some bi:=by
 have hβ : ∀ i bi,β i=some bi→qO6 β nb ⟨none,sz,0⟩ i=some bi:=qSk (R.dom nb hnb)
 refine⟨R.step hβ rfl rfl rfl (Nat.le_refl _) (fun b _=> .inl rfl) (fun id o ho=>?_) (fun id hn=>?_) (fun i j bi bj b oi oj h1 h2 h3 h4 h5 h6 h7 h8=>?_) (fun id z' es' full' bi b h1 h2 h3=>?_) (fun id bi b h1 h2=>?_),hβ⟩
 ·by_cases hid:id=nb
  ·subst hid
   rw[zJ] at ho
   cases ho
   exact⟨_,zA,rfl,fun _=>rfl,rfl,rfl⟩
  ·rw[qI hid] at ho
   obtain⟨bi,h1,h2⟩:=R.hp id o ho
   exact⟨bi,hβ _ _ h1,h2.mono hβ (fun _ h=>h) (fun b _=>rfl) (fun b _ _=>⟨rfl,fun h=>h⟩)⟩
 ·by_cases hid:id=nb
  ·subst hid;rw[zJ] at hn;cases hn
  ·rw[qI hid] at hn;rw[jH hid];exact R.dom id hn
 ·by_cases hi:i=nb
  ·subst hi;rw[zA] at h1;cases h1;cases h3
  ·by_cases hj:j=nb
   ·subst hj;rw[zA] at h2;cases h2;cases h4
   ·rw[jH hi] at h1;rw[jH hj] at h2
    rw[qI hi] at h5;rw[qI hj] at h6
    exact R.inj i j bi bj b oi oj h1 h2 h3 h4 h5 h6 h7 h8
 ·by_cases hi:id=nb
  ·subst hi;rw[zA] at h2;cases h2;cases h3
  ·rw[jH hi] at h2
   rw[qI hi] at h1
   exact R.old id z' es' full' bi b h1 h2 h3
 ·by_cases hi:id=nb
  ·subst hi;rw[zA] at h1;cases h1;cases h2
  ·rw[jH hi] at h1
   exact R.blt id bi b h1 h2
theorem Rel.write (R:Rel cx β F fm hm a w) {id b z:Nat} {es es':List V} {full full':Bool} {bi:BI} (hid:hm id=some (.live z es true full)) (hb:β id=some bi) (hbk:bi.blk=some b)
  {c':Array Value} {e:TypeId} {fz:Nat×Nat}
  (hos:w'.os=w.os) (htp:w'.tape=w.tape) (hout:w'.output=w.output) (hsz:w'.heap.size=w.heap.size)
  (hother : ∀ k,k≠b→w'.heap[k]?=w.heap[k]?) (hthis:w'.heap[b]?=some (.cells c' e fz))
  (hfz : ∀ j,(j<c'.size → ¬ (fz.1≤j∧j<fz.2))∧fz.1≤fz.2) (hc:c'.size=bi.room*bi.sz) (hl:es'.length≤bi.room) (hfull:full'=true→bi.room=es'.length) (hH:jZ β F w es' bi.sz c') :
  Rel cx β F fm (upd hm [(id,.live z es' true full')]) a w':=by
 have hnF : ¬ F b:=R.notF hid hb hbk
 have hF : ∀ k,F k→w'.heap[k]?=w.heap[k]?:=fun k hk=>hother k (fun h=>hnF (h▸hk))
 refine R.step (fun _ _ h=>h) hos htp hout (by omega) (fun k hk=>?_) (fun j o ho=>?_) (fun j hn=>?_) (fun i j bi' bj k oi oj h1 h2 h3 h4 h5 h6 h7 h8=>?_) (fun j z'' es'' full'' bi' k h1 h2 h3=>?_) (fun j bi' k h1 h2=>by rw[hsz];exact R.blt j bi' k h1 h2)
 ·by_cases h:k=b
  ·subst h;exact .inr ⟨id,z,es,full,bi,hid,hb,hbk⟩
  ·exact .inl (hother k h)
 ·by_cases h:j=id
  ·subst h
   rw[zJ] at ho
   cases ho
   obtain⟨bi0,hb0,hok0⟩:=R.hp j _ hid
   rw[hb] at hb0
   cases hb0
   obtain⟨hz0,_,hok0⟩:=hok0
   refine⟨bi,hb,hz0,hfull,?_⟩
   simp only[hbk] at hok0 ⊢
   obtain⟨_,_,_,_,_,_,_,hmx,_,_⟩:=hok0
   refine⟨c',e,fz,hthis,hfz,hc,hl,hmx,hH.mono (fun _ _ h=>h) (fun _ h=>h) hF,?_⟩
   simpa using hnF
  ·rw[qI h] at ho
   obtain⟨bi',h1,h2⟩:=R.hp j o ho
   refine⟨bi',h1,h2.mono (fun _ _ h=>h) (fun _ h=>h) hF (fun k hk hd=>⟨hother k (fun hkb=>?_),fun h=>h⟩)⟩
   subst hkb
   exact h (R.inj j id bi' bi k o _ h1 hb hk hbk ho hid hd (by simp))
 ·by_cases h:j=id
  ·subst h;rw[zJ] at hn;cases hn
  ·rw[qI h] at hn;exact R.dom j hn
 ·have live : ∀ j o,upd hm [(id,.live z es' true full')] j=some o→o≠ .dead → ∃ o',hm j=some o'∧o'≠ .dead:=by
   intro j o hj hd
   by_cases h:j=id
   ·subst h;exact⟨_,hid,by simp⟩
   ·rw[qI h] at hj;exact⟨o,hj,hd⟩
  obtain⟨oi',a1,a2⟩:=live i oi h5 h7
  obtain⟨oj',b1,b2⟩:=live j oj h6 h8
  exact R.inj i j bi' bj k oi' oj' h1 h2 h3 h4 a1 b1 a2 b2
 ·by_cases h:j=id
  ·subst h
   exact R.old j z es full bi' k hid h2 h3
  ·rw[qI h] at h1
   exact R.old j z'' es'' full'' bi' k h1 h2 h3
theorem Rel.rename (R:Rel cx β F fm hm a w) {id nb z:Nat} {es:List V} {full:Bool} {bi:BI} (hid:hm id=some (.live z es true full)) (hb:β id=some bi) (hnb:hm nb=none) (h100:100≤id) :
  Rel cx (qO6 β nb bi) F fm (upd hm [(id,.dead),(nb,.live z es true full)]) a w ∧ ∀ i bj,β i=some bj→qO6 β nb bi i=some bj:=by
 have hβ : ∀ i bj,β i=some bj→qO6 β nb bi i=some bj:=qSk (R.dom nb hnb)
 have hne:id≠nb:=fun h=>by subst h;rw[hid] at hnb;cases hnb
 have u1:upd hm [(id,.dead),(nb,.live z es true full)] nb=some (.live z es true full):=by simp[upd]
 have u2:upd hm [(id,.dead),(nb,.live z es true full)] id=some .dead:=by simp[upd,hne]
 have u3 : ∀ j,j≠id→j≠nb→upd hm [(id,.dead),(nb,.live z es true full)] j=hm j:=fun j h1 h2=>by simp[upd,h1,h2]
 refine⟨R.step hβ rfl rfl rfl (Nat.le_refl _) (fun b _=> .inl rfl) (fun j o ho=>?_) (fun j hn=>?_) (fun i j bi' bj k oi oj h1 h2 h3 h4 h5 h6 h7 h8=>?_) (fun j z'' es'' full'' bi' k h1 h2 h3=>?_) (fun j bi' k h1 h2=>?_),hβ⟩
 ·by_cases h1:j=nb
  ·subst h1
   rw[u1] at ho;cases ho
   obtain⟨bi',h2,h3⟩:=R.hp id _ hid
   rw[hb] at h2;cases h2
   exact⟨bi,zA,h3.mono hβ (fun _ h=>h) (fun _ _=>rfl) (fun _ _ _=>⟨rfl,fun h=>h⟩)⟩
  ·by_cases h2:j=id
   ·subst h2;rw[u2] at ho;cases ho;exact⟨bi,hβ _ _ hb,trivial⟩
   ·rw[u3 j h2 h1] at ho
    obtain⟨bi',h3,h4⟩:=R.hp j o ho
    exact⟨bi',hβ _ _ h3,h4.mono hβ (fun _ h=>h) (fun _ _=>rfl) (fun _ _ _=>⟨rfl,fun h=>h⟩)⟩
 ·by_cases h1:j=nb
  ·subst h1;rw[u1] at hn;cases hn
  ·by_cases h2:j=id
   ·subst h2;rw[u2] at hn;cases hn
   ·rw[u3 j h2 h1] at hn;rw[jH h1];exact R.dom j hn
 ·
  have back : ∀ j bj o,qO6 β nb bi j=some bj→upd hm [(id,.dead),(nb,.live z es true full)] j=some o→o≠ .dead → ∃ j' o',β j'=some bj∧hm j'=some o'∧o'≠ .dead∧(j=nb∧j'=id∨j≠nb∧j≠id∧j'=j):=by
   intro j bj o hj ho hd
   by_cases h1:j=nb
   ·subst h1
    rw[zA] at hj;cases hj
    exact⟨id,_,hb,hid,by simp,.inl ⟨rfl,rfl⟩⟩
   ·by_cases h2:j=id
    ·subst h2;rw[u2] at ho;cases ho;exact absurd rfl hd
    ·rw[u3 j h2 h1] at ho;rw[jH h1] at hj
     exact⟨j,o,hj,ho,hd,.inr ⟨h1,h2,rfl⟩⟩
  obtain⟨i',oi',a1,a2,a3,a4⟩:=back i bi' oi h1 h5 h7
  obtain⟨j',oj',b1,b2,b3,b4⟩:=back j bj oj h2 h6 h8
  have:=R.inj i' j' bi' bj k oi' oj' a1 b1 h3 h4 a2 b2 a3 b3
  rcases a4 with⟨x1,x2⟩ | ⟨x1,x2,x3⟩<;>rcases b4 with⟨y1,y2⟩ | ⟨y1,y2,y3⟩<;>subst_vars<;>first | rfl | exact absurd rfl x2 | exact absurd rfl y2 | skip
  all_goals first | (exact absurd this x2) | (exact absurd this.symm y2) | exact this
 ·by_cases h4:j=nb
  ·subst h4
   rw[zA] at h2;cases h2
   rcases R.old id z es full bi k hid hb h3 with h | h
   ·exact .inl h
   ·omega
  ·by_cases h5:j=id
   ·subst h5;rw[u2] at h1;cases h1
   ·rw[u3 j h5 h4] at h1;rw[jH h4] at h2
    exact R.old j z'' es'' full'' bi' k h1 h2 h3
 ·by_cases h4:j=nb
  ·subst h4;rw[zA] at h1;cases h1;exact R.blt id bi k hb h2
  ·rw[jH h4] at h1;exact R.blt j bi' k h1 h2
theorem Rel.kill (R:Rel cx β F fm hm a w) {id:Nat} {o:Ob} (hid:hm id=some o):Rel cx β F fm (upd hm [(id,.dead)]) a w:=by
 refine R.step (fun _ _ h=>h) rfl rfl rfl (Nat.le_refl _) (fun b _=> .inl rfl) (fun j o' ho=>?_) (fun j hn=>?_) (fun i j bi bj b oi oj h1 h2 h3 h4 h5 h6 h7 h8=>?_) (fun j z' es' full' bi b h1 h2 h3=>?_) R.blt
 ·by_cases h:j=id
  ·subst h
   obtain⟨bi,h1,_⟩:=R.hp j o hid
   rw[zJ] at ho;cases ho
   exact⟨bi,h1,trivial⟩
  ·rw[qI h] at ho;exact R.hp j o' ho
 ·by_cases h:j=id
  ·subst h;rw[zJ] at hn;cases hn
  ·rw[qI h] at hn;exact R.dom j hn
 ·have a1:i≠id:=fun h=>by subst h;rw[zJ] at h5;cases h5;exact h7 rfl
  have a2:j≠id:=fun h=>by subst h;rw[zJ] at h6;cases h6;exact h8 rfl
  rw[qI a1] at h5;rw[qI a2] at h6
  exact R.inj i j bi bj b oi oj h1 h2 h3 h4 h5 h6 h7 h8
 ·have a1:j≠id:=fun h=>by subst h;rw[zJ] at h1;cases h1
  rw[qI a1] at h1
  exact R.old j z' es' full' bi b h1 h2 h3
end Go.Eng
end
section
namespace Go.Eng
inductive wU {α β:Type} (R:α→β→Prop):List α→List β→Prop
 | nil:wU R [] []
 | cons {x:α} {y:β} {xs:List α} {ys:List β} (h:R x y) (t:wU R xs ys):wU R (x::xs) (y::ys)
theorem wU.length {α β:Type} {R:α→β→Prop} {xs:List α} {ys:List β} (h:wU R xs ys):xs.length=ys.length:=by
 induction h with
 | nil=>rfl
 | cons _ _ ih=>simp[ih]
theorem wU.get {α β:Type} {R:α→β→Prop} {xs:List α} {ys:List β} (h:wU R xs ys) : ∀ (i:Nat) (y:β),ys[i]?=some y → ∃ x,xs[i]?=some x∧R x y:=by
 induction h with
 | nil=>intro i y hy;simp at hy
 | cons hr _ ih=>
  intro i y hy
  cases i with
  | zero=>simp at hy;subst hy;exact⟨_,rfl,hr⟩
  | succ i=>simp at hy;obtain⟨x,h1,h2⟩:=ih i y hy;exact⟨x,by simpa using h1,h2⟩
theorem wU.get' {α β:Type} {R:α→β→Prop} {xs:List α} {ys:List β} (h:wU R xs ys) : ∀ (i:Nat) (x:α),xs[i]?=some x → ∃ y,ys[i]?=some y∧R x y:=by
 induction h with
 | nil=>intro i y hy;simp at hy
 | cons hr _ ih=>
  intro i y hy
  cases i with
  | zero=>simp at hy;subst hy;exact⟨_,rfl,hr⟩
  | succ i=>simp at hy;obtain⟨x,h1,h2⟩:=ih i y hy;exact⟨x,by simpa using h1,h2⟩
def Out (cx:Cx) (β:Nat→Option BI) (F:Nat→Prop) (fm:Nat→Option V) (hm:Nat→Option Ob) (a:Act) (w:World) (v:V) (W:Wr) (s:Sem Value):Prop:=
 ∃ x w' β',s.run cx.P w = .ok x w'∧Rel cx β' F fm (upd hm W) a w'∧qL β' F w' v x ∧ ∀ i bi,β i=some bi→β' i=some bi
variable {cx:Cx} {β:Nat→Option BI} {F:Nat→Prop} {fm:Nat→Option V} {hm:Nat→Option Ob} {a:Act} {w:World}
theorem Out.same (R:Rel cx β F fm hm a w) {v:V} {x:Value} {s:Sem Value} (hr:s.run cx.P w = .ok x w) (h:qL β F w v x):Out cx β F fm hm a w v [] s:=
 ⟨x,w,β,hr,R,h,fun _ _ h=>h⟩
theorem qL.int_inv {k:IntKind} {n:Int} {x:Value} (h:qL β F w (.t (.int k n)) x):x = .int k n:=by cases h with | t h=>cases h;rfl
theorem qL.bool_inv {b:Bool} {x:Value} (h:qL β F w (.t (.bool b)) x):x = .bool b:=by cases h with | t h=>cases h;rfl
theorem qL.str_inv {s:ByteArray} {x:Value} (h:qL β F w (.t (.str s)) x):x = .string s:=by cases h with | t h=>cases h;rfl
theorem qL.intArg_inv {v:V} {n:Int} {x:Value} (h:qL β F w v x) (hv:yL v=some n) : ∃ k,x = .int k n:=by
 unfold yL at hv
 split at hv
 ·cases hv;exact⟨_,h.int_inv⟩
 ·cases hv
theorem qOd {P:Program} {w:World} {op:BinOp} {t:TypeId} {x y:Operand} {k:IntKind} {n:Int} {q:Value}:(eqGuard op t x y (.int k n) q).run P w = .ok () w:=by cases op<;>rfl
theorem qOe {P:Program} {w:World} {op:BinOp} {t:TypeId} {x y:Operand} {s:ByteArray} {q:Value}:(eqGuard op t x y (.string s) q).run P w = .ok () w:=by cases op<;>rfl
theorem qD6 {P:Program} {w:World} {op:BinOp} {t:TypeId} {x y:Operand} {b:Bool} {q:Value}:(eqGuard op t x y (.bool b) q).run P w = .ok () w:=by cases op<;>rfl
theorem zO2 {P:Program} {w:World} {op:BinOp} {t:TypeId} {k k':IntKind} {p q:Int} {r:T} (h:qO7 op k p k' q=some r) :
  ∃ x,(binOp op t (.int k p) (.int k' q)).run P w = .ok x w∧Rep F w r x:=by
 cases op<;>simp only[qO7] at h<;>split at h<;>(try cases h)
 case shl hn=>exact⟨_,by simp[binOp,Op.shift,hn];rfl,by constructor⟩
 case shr hn=>exact⟨_,by simp[binOp,Op.shift,hn];rfl,by constructor⟩
 case quo hn=>obtain⟨rfl,hq⟩:=hn;exact⟨_,by simp[binOp,Op.intDiv,hq];rfl,by constructor⟩
 case rem hn=>obtain⟨rfl,hq⟩:=hn;exact⟨_,by simp[binOp,Op.intDiv,hq];rfl,by constructor⟩
 case andNot=>subst_vars;exact⟨_,by simp only[binOp,ne_eq,not_true_eq_false,if_false,Op.intBits,Sem.run_pure];rfl,by constructor⟩
 all_goals (subst_vars;exact⟨_,by simp[binOp,Op.intArith,Op.intCmp,Op.intBits];rfl,by constructor⟩)
theorem zO3 {P:Program} {w:World} {op:BinOp} {t:TypeId} {p q:ByteArray} {r:T} (h:qEq op (.str p) (.str q)=some r) :
  ∃ x,(binOp op t (.string p) (.string q)).run P w = .ok x w∧Rep F w r x:=by
 cases op<;>simp only[qEq] at h<;>(try cases h)
 ·split at h
  ·cases h
   rename_i hm
   refine⟨.string (p++q),?_,.str _⟩
   have : ¬ (((p.size+q.size:Nat):Int)>IntKind.i64.max):=by
    have:IntKind.i64.max=9223372036854775807:=by decide
    rw[this];unfold maxLen at hm;omega
   simp only[binOp,Op.stringOp,this,if_false,Sem.run_pure]
  ·cases h
 ·exact⟨_,by simp[binOp,Op.stringOp];rfl,by constructor⟩
 ·exact⟨_,by simp[binOp,Op.stringOp];rfl,by constructor⟩
theorem zDy {P:Program} {w:World} {op:BinOp} {t:TypeId} {xo yo:Operand} {x y r:T} {p q:Value} (h:qEq op x y=some r) (hx:Rep F w x p) (hy:Rep F w y q) :
  ∃ u,(do eqGuard op t xo yo p q;binOp op t p q:Sem Value).run P w = .ok u w∧Rep F w r u:=by
 unfold qEq at h
 split at h
 ·cases hx;cases hy
  obtain⟨u,h1,h2⟩:=zO2 (F:=F) (P:=P) (w:=w) (t:=t) h
  refine⟨u,?_,h2⟩
  rw[Sem.run_bind,qOd]
  exact h1
 ·cases hx;cases hy
  have h':qEq op (.str _) (.str _)=some r:=h
  obtain⟨u,h1,h2⟩:=zO3 (F:=F) (P:=P) (w:=w) (t:=t) h'
  refine⟨u,?_,h2⟩
  rw[Sem.run_bind,qOe]
  exact h1
 ·cases h
theorem zMv {P:Program} {w:World} {op:UnOp} {x r:T} {p:Value} (h:unT op x=some r) (hx:Rep F w x p) :
  ∃ u,(Op.unary op p).run P w = .ok u w∧Rep F w r u:=by
 unfold unT at h
 split at h
 ·cases hx
  split at h<;>(try cases h)
  ·exact⟨_,by simp[Op.unary,Op.intArith],.int _ _⟩
  ·exact⟨_,by simp[Op.unary,Op.intBits],.int _ _⟩
 ·cases hx
  split at h<;>(try cases h)
  exact⟨_,by simp[Op.unary],.bool _⟩
 ·cases h
theorem qUq {k:IntKind} : ∀ {xs:List T} {a:List Int},qN0 k xs=some a→xs=a.map (T.int k)
 | [],a,h=>by simp[qN0] at h;subst h;rfl
 | x::r,a,h=>by
  cases x<;>simp only[qN0] at h<;>try cases h
  split at h
  ·simp only[Option.map_eq_some_iff] at h
   obtain⟨b,h1,rfl⟩:=h
   subst_vars
   rw[qUq h1];rfl
  ·cases h
theorem qB6 {k:IntKind} {xs:List T} {a:List Int} {p:Value} (h:qL β F w (.t (.agg xs)) p) (ha:qN0 k xs=some a):p = .agg (a.map (Value.int k)).toArray:=by
 have hx:=qUq ha
 subst hx
 cases h with
 | t h=>
  cases h with
  | agg _ vs hl h1 h2=>
   congr 1
   refine Array.ext (by simp[hl]) (fun i h3 h4=>?_)
   have hi:i<a.length:=by simpa [hl] using h3
   have:=h2 i (T.int k a[i]) vs[i] (by simp[hi]) (by simp[h3])
   have hv:vs[i]=Value.int k a[i]:=by generalize vs[i]=u at this;cases this;rfl
   rw[hv];simp
theorem qF7 : ∀ (xs ys:List Int),xs.length=ys.length→((List.range xs.length).all fun i=>xs.getD i 0==ys.getD i 0)=(xs==ys)
 | [],[],_=>rfl
 | x::xs,y::ys,h=>by
  have ih:=qF7 xs ys (by simpa using h)
  rw[List.length_cons,List.range_succ_eq_map,List.all_cons,List.all_map]
  simp only[List.getD_cons_zero,Function.comp_def,List.getD_cons_succ,ih]
  simp[List.cons_beq_cons]
 | [],_::_,h=>by simp at h
 | _::_,[],h=>by simp at h
theorem qD7 {P:Program} (w:World) (d:Nat) (t e:TypeId) (n:Nat) (k:IntKind) (ht:P.underlying t=some (.array n e)) (he:P.underlying e=some (.int k)) (hsz : ∀ w,(sizeOf e).run P w = .ok 1 w)
  (xs ys:List Int) (hx:xs.length=n) (hy:ys.length=n) :
  (Op.equalIn (d+2) t (.agg (xs.map (Value.int k)).toArray) (.agg (ys.map (Value.int k)).toArray)).run P w = .ok (xs==ys) w:=by
 rw[←qF7 xs ys (hx.trans hy.symm),hx,List.range_eq_range',Op.equalIn]
 simp only[Sem.run_bind,run_underlying ht,Result.andThen_ok,hsz,Std.Legacy.Range.forIn_eq_forIn_range',Std.Legacy.Range.size,Nat.sub_zero,Nat.add_sub_cancel,Nat.div_one]
 have hl : ∀ i∈List.range' 0 n 1,i<n:=fun i hi=>by simpa using (List.mem_range'_1.1 hi).2
 generalize List.range' 0 n 1=l at hl ⊢
 induction l with
 | nil=>simp
 | cons i l ih=>
  have hi:i<n:=hl i (by simp)
  have px:(part e (xs.map (Value.int k)).toArray (i*1)).run P w = .ok (.int k (xs.getD i 0)) w:=by
   simp[part,isAgg,run_underlying he,List.getD,List.getElem?_eq_getElem (show i<xs.length by omega)]
  have py:(part e (ys.map (Value.int k)).toArray (i*1)).run P w = .ok (.int k (ys.getD i 0)) w:=by
   simp[part,isAgg,run_underlying he,List.getD,List.getElem?_eq_getElem (show i<ys.length by omega)]
  have pe:(Op.equalIn (d+1) e (.int k (xs.getD i 0)) (.int k (ys.getD i 0))).run P w = .ok (xs.getD i 0==ys.getD i 0) w:=run_equalIn_int w d e k k _ _ he
  simp only[List.forIn_cons,Sem.run_bind,px,py,pe,Result.andThen_ok,List.all_cons]
  cases hb:(xs.getD i 0==ys.getD i 0)
  ·simp
  ·simp only[Bool.not_true,Bool.false_eq_true,if_false,Sem.run_pure,Result.andThen_ok,Bool.true_and]
   exact ih fun j hj=>hl j (by simp[hj])
theorem zGx {P:Program} (w:World) (neg:Bool) (xo yo:Operand) (t e:TypeId) (n:Nat) (k:IntKind) (ht:P.underlying t=some (.array n e)) (he:P.underlying e=some (.int k)) (hsz : ∀ w,(sizeOf e).run P w = .ok 1 w) (hg:P.eqGuardType P.depth t=false)
  (xs ys:List Int) (hx:xs.length=n) (hy:ys.length=n):(do eqGuard (if neg then .neq else .eql) t xo yo (.agg (xs.map (Value.int k)).toArray) (.agg (ys.map (Value.int k)).toArray);binOp (if neg then .neq else .eql) t (.agg (xs.map (Value.int k)).toArray) (.agg (ys.map (Value.int k)).toArray):Sem Value).run P w = .ok (.bool (if neg then !(xs==ys) else xs==ys)) w:=by
 rw[Sem.run_bind,run_eqGuard_agg w _ t xo yo _ _ hg]
 simp only[Result.andThen_ok]
 cases neg
 ·simp only[Bool.false_eq_true,if_false]
  rw[run_eql_struct,qD7 w 9998 t e n k ht he hsz xs ys hx hy];rfl
 ·simp only[if_true]
  rw[run_neq_struct,qD7 w 9998 t e n k ht he hsz xs ys hx hy];rfl
def qUi (P:Program) (k:IntKind):List Field→Nat→Bool
 | [],_=>true
 | f::fs,i=>decide (f.name ≠ "_")&&(f.offset==i)&&(match P.underlying f.type with | some (.int k')=>decide (k'=k) | _=>false)&&qUi P k fs (i+1)
theorem qC0 {P:Program} (w:World) (d:Nat) (k:IntKind) : ∀ (fs:List Field) (i:Nat) (xs ys:List Int),qUi P k fs i=true→xs.length=i+fs.length→ys.length=i+fs.length→
  (Op.eqFields (d+1) (xs.map (Value.int k)).toArray (ys.map (Value.int k)).toArray fs).run P w = .ok (xs.drop i==ys.drop i) w
 | [],i,xs,ys,_,hx,hy=>by
  rw[List.drop_eq_nil_of_le (by simp at hx;omega),List.drop_eq_nil_of_le (by simp at hy;omega)]
  simp[Op.eqFields]
 | f::fs,i,xs,ys,h,hx,hy=>by
  simp only[List.length_cons] at hx hy
  simp only[qUi,Bool.and_eq_true,decide_eq_true_eq,beq_iff_eq] at h
  obtain⟨⟨⟨h1,h2⟩,h3⟩,h4⟩:=h
  have he:P.underlying f.type=some (.int k):=by
   split at h3
   ·rename_i k' hk';simp only[decide_eq_true_eq] at h3;rw[hk',h3]
   ·simp at h3
  have px:(part f.type (xs.map (Value.int k)).toArray f.offset).run P w = .ok (.int k (xs.getD i 0)) w:=by
   rw[h2];simp[part,isAgg,run_underlying he,List.getD,List.getElem?_eq_getElem (show i<xs.length by omega)]
  have py:(part f.type (ys.map (Value.int k)).toArray f.offset).run P w = .ok (.int k (ys.getD i 0)) w:=by
   rw[h2];simp[part,isAgg,run_underlying he,List.getD,List.getElem?_eq_getElem (show i<ys.length by omega)]
  have pe:(Op.equalIn (d+1) f.type (.int k (xs.getD i 0)) (.int k (ys.getD i 0))).run P w = .ok (xs.getD i 0==ys.getD i 0) w:=run_equalIn_int w d f.type k k _ _ he
  have ih:=qC0 w d k fs (i+1) xs ys h4 (by omega) (by omega)
  have dx:xs.drop i=xs.getD i 0::xs.drop (i+1):=by
   rw[List.drop_eq_getElem_cons (show i<xs.length by omega)];simp[List.getD,List.getElem?_eq_getElem (show i<xs.length by omega)]
  have dy:ys.drop i=ys.getD i 0::ys.drop (i+1):=by
   rw[List.drop_eq_getElem_cons (show i<ys.length by omega)];simp[List.getD,List.getElem?_eq_getElem (show i<ys.length by omega)]
  rw[Op.eqFields,if_pos h1]
  simp only[Sem.run_bind,px,py,pe,Result.andThen_ok]
  rw[dx,dy,List.cons_beq_cons]
  cases hb:(xs.getD i 0==ys.getD i 0)
  ·simp
  ·simp only[Bool.not_true,Bool.false_eq_true,if_false,Bool.true_and]
   exact ih
theorem zAi {P:Program} (w:World) (neg:Bool) (xo yo:Operand) (t:TypeId) (fs:Array Field) (k:IntKind) (ht:P.underlying t=some (.struct fs)) (hf:qUi P k fs.toList 0=true) (hg:P.eqGuardType P.depth t=false) (hst:P.stoodInHeld t=false)
  (xs ys:List Int) (hx:xs.length=fs.size) (hy:ys.length=fs.size):(do eqGuard (if neg then .neq else .eql) t xo yo (.agg (xs.map (Value.int k)).toArray) (.agg (ys.map (Value.int k)).toArray);binOp (if neg then .neq else .eql) t (.agg (xs.map (Value.int k)).toArray) (.agg (ys.map (Value.int k)).toArray):Sem Value).run P w = .ok (.bool (if neg then !(xs==ys) else xs==ys)) w:=by
 have hfs:P.fieldsOf t=fs:=by unfold Program.fieldsOf;rw[ht]
 have hr:=qC0 (P:=P) w 9998 k fs.toList 0 xs ys hf (by simp[hx]) (by simp[hy])
 simp only[List.drop_zero] at hr
 have he:=run_equalIn_agg (P:=P) w 9999 t (xs.map (Value.int k)).toArray (ys.map (Value.int k)).toArray (by rw[hfs];exact ht) hst
 rw[hfs] at he
 rw[Sem.run_bind,run_eqGuard_agg w _ t xo yo _ _ hg]
 simp only[Result.andThen_ok]
 cases neg
 ·simp only[Bool.false_eq_true,if_false]
  rw[run_eql_struct,he,hr];rfl
 ·simp only[if_true]
  rw[run_neq_struct,he,hr];rfl
theorem qL.cells {v:V} {x:Value} (h:qL β F w v x):x.cells.size=v.cells.length∧(∀ (i:Nat) (c:V) (u:Value),v.cells[i]?=some c→x.cells[i]?=some u→qL β F w c u):=by
 have one : ∀ {v:V} {x:Value},v.cells=[v]→x.cells = #[x]→qL β F w v x→x.cells.size=v.cells.length∧(∀ (i:Nat) (c:V) (u:Value),v.cells[i]?=some c→x.cells[i]?=some u→qL β F w c u):=by
  intro v x h1 h2 h3
  rw[h1,h2]
  refine⟨rfl,fun i c u hc hu=>?_⟩
  cases i with
  | zero=>simp at hc hu;subst hc hu;exact h3
  | succ i=>simp at hc
 cases h with
 | t h=>
  cases h with
  | agg cs vs hl h1 h=>
   refine⟨by simp[V.cells,Value.cells,hl],fun i c u hc hu=>?_⟩
   simp only[V.cells,List.getElem?_map,Option.map_eq_some_iff] at hc
   obtain⟨c',hc',rfl⟩:=hc
   exact .t (h i c' u hc' hu)
  | int k n=>exact one rfl rfl (.t (.int k n))
  | bool b=>exact one rfl rfl (.t (.bool b))
  | str s=>exact one rfl rfl (.t (.str s))
  | fnil=>exact one rfl rfl (.t .fnil)
  | pnil=>exact one rfl rfl (.t .pnil)
  | tup cs vs hl h=>exact one rfl rfl (.t (.tup cs vs hl h))
  | nil=>exact one rfl rfl (.t .nil)
  | sl es a cap sz news ha hc hn h1 hF hw hz h=>exact one rfl rfl (.t (.sl es a cap sz news ha hc hn h1 hF hw hz h))
 | nil=>exact one rfl rfl .nil
 | ref id i f b sz room hb=>exact one rfl rfl (.ref id i f b sz room hb)
 | ro cs a news ha hn h1 hF hw h=>exact one rfl rfl (.ro cs a news ha hn h1 hF hw h)
 | sl id off len cap b sz room a hb hlc hr ha hs=>exact one rfl rfl (.sl id off len cap b sz room a hb hlc hr ha hs)
 | slv id sz room hb=>exact one rfl rfl (.slv id sz room hb)
 | agg cs vs hl h1 h=>exact⟨by simp[V.cells,Value.cells,hl],fun i c u hc hu=>h i c u hc hu⟩
 | tup cs vs hl h=>exact one rfl rfl (.tup cs vs hl h)
 | fn f cs vs hl h=>exact one rfl rfl (.fn f cs vs hl h)
 | bd g id i f b sz room hb=>exact one rfl rfl (.bd g id i f b sz room hb)
 | bq b=>exact one rfl rfl (.bq b)
theorem qA4 {cs:List V} {ts:List T} (h:qCo cs=some ts):cs=ts.map .t:=by
 induction cs generalizing ts with
 | nil=>simp[qCo] at h;subst h;rfl
 | cons c r ih=>
  cases c<;>simp only[qCo] at h<;>try cases h
  simp only[Option.map_eq_some_iff] at h
  obtain⟨ts',h1,rfl⟩:=h
  rw[ih h1];rfl
theorem qL.mk {cs:List V} {vs:Array Value} (hl:vs.size=cs.length) (h1 : ∀ u∈vs,u.oneCell'=true) (h : ∀ (i:Nat) (c:V) (u:Value),cs[i]?=some c→vs[i]?=some u→qL β F w c u) :
  qL β F w (V.mk cs) (.agg vs):=by
 unfold V.mk
 split
 ·rename_i ts hts
  have:=qA4 hts
  subst this
  refine .t (.agg ts vs (by simpa using hl) h1 (fun i c u hc hu=>?_))
  have:=h i (.t c) u (by simp[hc]) hu
  cases this with | t h=>exact h
 ·exact .agg cs vs hl h1 h
theorem V.cells_mk (cs:List V):(V.mk cs).cells=cs:=by
 unfold V.mk
 split
 ·rename_i ts hts;rw[qA4 hts];rfl
 ·rfl
theorem jU {P:Program} {w:World} {t:TypeId} {i:TypeInfo} (h:P.info? t=some i):(sizeOf t).run P w = .ok i.size w:=by
 simp[sizeOf,typeInfo,h]
def yI:TypeDesc→Bool
 | .struct _ | .array _ _=>true
 | _=>false
theorem qVb {P:Program} {w:World} {t:TypeId} {d:TypeDesc} (h:P.underlying t=some d):(isAgg t).run P w = .ok (yI d) w:=by
 unfold isAgg
 rw[Sem.run_bind,run_underlying h]
 cases d<;>rfl
theorem qOf {P:Program} {w:World} {t:TypeId} {i:TypeInfo} {d:TypeDesc} (hi:P.info? t=some i) (hd:P.underlying t=some d) (ad:Addr) (cs:List Value)
  (hl:cs.length=i.size) (hc : ∀ j v,cs[j]?=some v→w.cell? (ad.add j)=some v) (h1:yI d=false→i.size=1) :
  (loadVar t ad).run P w = .ok (if yI d then .agg cs.toArray else cs.headD undef) w:=by
 unfold loadVar
 rw[Sem.run_bind,qVb hd]
 simp only[Result.andThen_ok]
 cases hg:yI d
 ·simp only[Bool.false_eq_true,if_false]
  have:=h1 hg
  match cs,hl with
  | [],hl=>simp at hl;omega
  | c::r,hl=>
   have h0:=hc 0 c (by simp)
   simp only[Addr.add,if_true] at h0
   simp[h0]
 ·simp only[if_true]
  rw[Sem.run_bind,jU hi]
  simp only[Result.andThen_ok,Sem.run_bind,←hl,run_loadCells_list w ad cs hc,Sem.run_pure]
theorem qK5 {x:Value}:x.oneCell'=true→x.cells = #[x]:=by cases x<;>simp[Value.oneCell',Value.cells]
end Go.Eng
end
section
namespace Go.Eng
variable {cx:Cx} {β:Nat→Option BI} {F:Nat→Prop} {fm:Nat→Option V} {hm:Nat→Option Ob} {a:Act} {w:World}
theorem qL.plain_one {v:V} {x:Value} (h:qL β F w v x) (hp:v.plain=true) : ∀ u∈x.cells,u.oneCell'=true:=by
 have one : ∀ {x:Value},x.oneCell'=true → ∀ u∈x.cells,u.oneCell'=true:=by
  intro x hx u hu
  rw[qK5 hx] at hu
  simp at hu;subst hu;exact hx
 cases h with
 | t h=>cases h with
  | agg cs vs hl h1 h=>exact h1
  | tup cs vs hl h=>simp[V.plain] at hp
  | _=>exact one rfl
 | agg cs vs hl h1 h=>exact h1
 | tup cs vs hl h=>simp[V.plain] at hp
 | _=>exact one rfl
theorem qL.one_cells {v:V} {x:Value} (h:qL β F w v x) (hx:x.oneCell'=true):v.cells=[v]:=by
 cases h with
 | t h=>cases h with
  | agg cs vs hl h1 h=>simp[Value.oneCell'] at hx
  | _=>rfl
 | agg cs vs hl h1 h=>simp[Value.oneCell'] at hx
 | _=>rfl
theorem qL.one_plain {v:V} {x:Value} (h:qL β F w v x) (hx:x.oneCell'=true):v.plain=true:=by
 cases h with
 | t h=>cases h with
  | tup cs vs hl h=>simp[Value.oneCell'] at hx
  | _=>rfl
 | tup cs vs hl h=>simp[Value.oneCell'] at hx
 | _=>rfl
theorem kF {x:Value} {v:V} (h:V.ofConst x=some v):qL β F w v x:=by
 unfold V.ofConst at h
 split at h
 ·cases h;exact .t (.int _ _)
 ·cases h;exact .t (.bool _)
 ·cases h;exact .t (.str _)
 ·cases h;exact .t .fnil
 ·cases h;exact .t .pnil
 ·split at h
  ·rename_i hlc
   obtain⟨rfl,rfl⟩:=hlc
   cases h;exact .nil
  ·cases h
 ·split at h
  ·rename_i vs hv
   cases h
   exact .tup [] vs hv (by intro i c u hc;simp at hc)
  ·cases h
 ·cases h
theorem qIf {α β:Type} {f:α→Option β} : ∀ {l:List α} {r:List β},l.mapM f=some r→r.length=l.length ∧ ∀ (i:Nat) (x:α) (y:β),l[i]?=some x→r[i]?=some y→f x=some y
 | [],r,h=>by simp at h;subst h;exact⟨rfl,by intro i x y hx;simp at hx⟩
 | a::l,r,h=>by
  simp only[List.mapM_cons,Option.pure_def,Option.bind_eq_bind,Option.bind_eq_some_iff] at h
  obtain⟨b,hb,r',hr,h⟩:=h
  cases h
  obtain⟨h1,h2⟩:=qIf hr
  refine⟨by simp[h1],fun i x y hx hy=>?_⟩
  cases i with
  | zero=>simp at hx hy;subst hx hy;exact hb
  | succ i=>simp at hx hy;exact h2 i x y hx hy
theorem qKs {i n z j:Nat} (hi:i<n) (hj:j<z):i*z+j<n*z:=by
 have:(i+1)*z≤n*z:=Nat.mul_le_mul_right z hi
 have h2:(i+1)*z=i*z+z:=by rw[Nat.add_mul,Nat.one_mul]
 omega
theorem jZ.one {v:V} {x:Value} (h:qL β F w v x) (hp:v.plain=true):jZ β F w [v] v.cells.length x.cells:=by
 obtain⟨h1,h2⟩:=h.cells
 intro i y hy
 cases i with
 | succ i=>simp at hy
 | zero=>
  simp at hy;subst hy
  refine⟨rfl,fun j c hc=>?_⟩
  have hj:j<x.cells.size:=by rw[h1];exact (List.getElem?_eq_some_iff.1 hc).1
  refine⟨x.cells[j],by simp[hj],h2 j c _ hc (by simp[hj]),h.plain_one hp _ (by simp)⟩
theorem jZ.cells {v:V} {x:Value} (h:qL β F w v x) (hp:v.plain=true):jZ β F w v.cells 1 x.cells:=by
 obtain⟨h1,h2⟩:=h.cells
 intro i y hy
 have hi:i<x.cells.size:=by rw[h1];exact (List.getElem?_eq_some_iff.1 hy).1
 have hone:x.cells[i].oneCell'=true:=h.plain_one hp _ (by simp)
 have hr:qL β F w y x.cells[i]:=h2 i y _ hy (by simp[hi])
 have hc:=hr.one_cells hone
 rw[hc]
 refine⟨rfl,fun j c hj=>?_⟩
 cases j with
 | succ j=>simp at hj
 | zero=>simp at hj;subst hj;exact⟨x.cells[i],by simp[hi],hr,hone⟩
theorem zQ1 (R:Rel cx β F fm hm a w) {v:V} {x:Value} (h:qL β F w v x):Out cx β F fm hm a w v [] (pure x):=Out.same R rfl h
theorem qN7 {cs:List V} {us:List Value} {off n:Nat} {agg:Bool} {v:V} (h:qK6 cs off n agg=some v)
  (hl:us.length=cs.length) (h1 : ∀ u∈us,u.oneCell'=true) (hr : ∀ (i:Nat) (c:V) (u:Value),cs[i]?=some c→us[i]?=some u→qL β F w c u) :
  if agg then off+n≤us.length∧qL β F w v (.agg ((us.drop off).take n).toArray) else ∃ u,us[off]?=some u∧qL β F w v u:=by
 unfold qK6 at h
 cases agg
 ·simp only[Bool.false_eq_true,if_false] at h ⊢
  have hlt:off<us.length:=by rw[hl];exact (List.getElem?_eq_some_iff.1 h).1
  exact⟨us[off],by simp[hlt],hr off v _ h (by simp[hlt])⟩
 ·simp only[if_true] at h ⊢
  split at h
  ·rename_i hle
   cases h
   refine⟨by omega,qL.mk (by simp[hl]) (fun u hu=>h1 u (List.mem_of_mem_drop (List.mem_of_mem_take (by simpa using hu)))) (fun i c u hc hu=>?_)⟩
   simp only[List.getElem?_take,List.getElem?_drop] at hc
   simp only[List.getElem?_toArray,List.getElem?_take,List.getElem?_drop] at hu
   split at hc
   ·rename_i hlt
    rw[if_pos hlt] at hu
    exact hr _ c u hc hu
   ·cases hc
  ·cases h
theorem Rel.obj (R:Rel cx β F fm hm a w) {id b z:Nat} {es:List V} {wr full:Bool} {bi:BI} (h:hm id=some (.live z es wr full)) (hb:β id=some bi) (hbk:bi.blk=some b) :
  ∃ (c:Array Value) (e:TypeId) (fz:Nat×Nat),w.heap[b]?=some (.cells c e fz)∧(∀ j,(j<c.size → ¬ (fz.1≤j∧j<fz.2))∧fz.1≤fz.2)∧
   c.size=bi.room*bi.sz∧es.length≤bi.room∧bi.room≤maxLen∧jZ β F w es bi.sz c∧(full=true→bi.room=es.length)∧bi.sz=z:=by
 obtain⟨bi',hb',hok⟩:=R.hp id _ h
 rw[hb] at hb'
 cases hb'
 unfold qCq at hok
 simp only[hbk] at hok
 obtain⟨hz,h0,c,e,fz,h1,h2,h3,h4,h5,h6,_⟩:=hok
 exact⟨c,e,fz,h1,h2,h3,h4,h5,h6,h0,hz⟩
theorem jZ.elem {es:List V} {sz:Nat} {c:Array Value} {room:Nat} (h:jZ β F w es sz c) (hc:c.size=room*sz) (hl:es.length≤room) {i:Nat} {x:V} (hx:es[i]?=some x) :
  x.cells.length=sz∧((c.toList.drop (i*sz)).take sz).length=sz∧(∀ u∈(c.toList.drop (i*sz)).take sz,u.oneCell'=true)∧
   (∀ (j:Nat) (y:V) (u:Value),x.cells[j]?=some y→((c.toList.drop (i*sz)).take sz)[j]?=some u→qL β F w y u):=by
 obtain⟨h1,h2⟩:=h i x hx
 have hi:i<room:=Nat.lt_of_lt_of_le (List.getElem?_eq_some_iff.1 hx).1 hl
 have hle:(i+1)*sz≤room*sz:=Nat.mul_le_mul_right sz hi
 have e2:(i+1)*sz=i*sz+sz:=by rw[Nat.add_mul,Nat.one_mul]
 have hlen:((c.toList.drop (i*sz)).take sz).length=sz:=by simp;omega
 have get : ∀ j u,((c.toList.drop (i*sz)).take sz)[j]?=some u→j<sz∧c[i*sz+j]?=some u:=by
  intro j u hu
  simp only[List.getElem?_take,List.getElem?_drop] at hu
  split at hu
  ·rename_i hlt;exact⟨hlt,by simpa using hu⟩
  ·cases hu
 refine⟨h1,hlen,fun u hu=>?_,fun j y u hy hu=>?_⟩
 ·obtain⟨j,hj⟩:=List.getElem?_of_mem hu
  obtain⟨hlt,hcu⟩:=get j u hj
  have hjx:j<x.cells.length:=by omega
  obtain⟨u',hu',_,hone⟩:=h2 j x.cells[j] (by simp[hjx])
  rw[hcu] at hu';cases hu';exact hone
 ·obtain⟨hlt,hcu⟩:=get j u hu
  obtain⟨u',hu',hr,_⟩:=h2 j y hy
  rw[hcu] at hu';cases hu';exact hr
theorem qGf {P:Program} {t:TypeId} {i:TypeInfo} {d:TypeDesc} (hi:P.info? t=some i) (hd:P.underlying t=some d) (h1:yI d=false→i.size=1)
  {b:Nat} {c:Array Value} {e:TypeId} {fz:Nat×Nat} (hb:w.heap[b]?=some (.cells c e fz)) {o:Nat} (hle:o+i.size≤c.size) :
  (Instr.loadAt t (.pointer (some ⟨b,o,none⟩))).run P w = .ok (if yI d then .agg ((c.toList.drop o).take i.size).toArray else ((c.toList.drop o).take i.size).headD undef) w:=by
 unfold Instr.loadAt
 simp only[Instr.sureAddr,Sem.run_bind,Sem.run_pure,Result.andThen_ok]
 refine qOf hi hd _ _ (by simp;omega) (fun j v hv=>?_) h1
 simp only[List.getElem?_take,List.getElem?_drop] at hv
 split at hv
 ·rw[Addr.add_lit,cell_of_row w b _ c e fz hb];simpa using hv
 ·cases hv
theorem qPm {α:Type} (l:List α) (p q m n:Nat) (h:q+n≤m):((((l.drop p).take m).drop q).take n)=(l.drop (p+q)).take n:=by
 apply List.ext_getElem?
 intro j
 simp only[List.getElem?_take,List.getElem?_drop]
 by_cases hj:j<n
 ·rw[if_pos hj,if_pos hj,if_pos (by omega)];congr 1;omega
 ·rw[if_neg hj,if_neg hj]
def zDg (P:Program) (β:Nat→Option BI) (F:Nat→Prop) (w:World) (v:V) (s:Sem Value):Prop := ∃ x,s.run P w = .ok x w∧qL β F w v x
theorem zDg.of {P:Program} {v:V} {x:Value} {s:Sem Value} (h:s.run P w = .ok x w) (hr:qL β F w v x):zDg P β F w v s:=⟨x,h,hr⟩
theorem zDg.out {v:V} {s:Sem Value} (h:zDg cx.P β F w v s) (R:Rel cx β F fm hm a w):Out cx β F fm hm a w v [] s:=let ⟨_,h1,h2⟩:=h;Out.same R h1 h2
theorem qU1 (R:Rel cx β F fm hm a w) {t:TypeId} {ti:TypeInfo} {d:TypeDesc} (hi:cx.P.info? t=some ti) (hd:cx.P.underlying t=some d) (h1:yI d=false→ti.size=1)
  {id i f:Nat} {p:Value} (hp:qL β F w (.ref id i f) p) {z:Nat} {es:List V} {wr full:Bool} (ho:hm id=some (.live z es wr full)) {x v:V} (hx:es[i]?=some x)
  (hle:f+ti.size≤x.cells.length) (hv:qK6 x.cells f ti.size (yI d)=some v):zDg cx.P β F w v (Instr.loadAt t p):=by
 cases hp with
 | ref _ _ _ b sz room hb=>
  obtain⟨c,e,fz,h2,h3,h4,h5,h6,h7,h8,_⟩:=R.obj ho hb rfl
  simp only at h4 h5 h7
  obtain⟨e1,e2,e3,e4⟩:=h7.elem h4 h5 hx
  have hir:i<room:=Nat.lt_of_lt_of_le (List.getElem?_eq_some_iff.1 hx).1 h5
  have hle2:(i+1)*sz≤room*sz:=Nat.mul_le_mul_right sz hir
  have e5:(i+1)*sz=i*sz+sz:=by rw[Nat.add_mul,Nat.one_mul]
  have hrun:=qGf (P:=cx.P) (w:=w) hi hd h1 h2 (o:=i*sz+f) (by omega)
  have hpart:=qN7 hv (by rw[e2,e1]) e3 e4
  have hdt:((c.toList.drop (i*sz)).take sz |>.drop f |>.take ti.size)=(c.toList.drop (i*sz+f)).take ti.size:=qPm _ _ _ _ _ (by omega)
  cases hg:yI d
  ·rw[hg] at hrun hpart
   simp only[Bool.false_eq_true,if_false] at hrun hpart
   obtain⟨u,hu,hr⟩:=hpart
   have hs1:=h1 hg
   refine zDg.of hrun ?_
   have:((c.toList.drop (i*sz+f)).take ti.size).headD undef=u:=by
    have:((c.toList.drop (i*sz+f)).take ti.size)[0]?=some u:=by
     simp only[List.getElem?_take,List.getElem?_drop] at hu ⊢
     rw[if_pos (by omega)]
     split at hu
     ·simpa using hu
     ·cases hu
    cases hq:(c.toList.drop (i*sz+f)).take ti.size with
    | nil=>rw[hq] at this;simp at this
    | cons z r=>rw[hq] at this;simp at this;simp[this]
   rw[this];exact hr
  ·rw[hg] at hrun hpart
   simp only[if_true] at hrun hpart
   rw[hdt] at hpart
   exact zDg.of hrun hpart.2
theorem qVk {y:V} (h:y.single=true):y.cells=[y]:=by
 unfold V.single at h
 split at h
 ·cases h
 ·cases h
 ·rename_i h1 h2
  cases y with
  | agg cs=>exact absurd rfl (h1 cs)
  | t x=>cases x with
   | agg cs=>exact absurd rfl (h2 cs)
   | _=>rfl
  | _=>rfl
theorem zK4 {es:List V} (h:qO5 es=true) {i:Nat} {y:V} (hy:es[i]?=some y):y.cells=[y]:=by
 unfold qO5 at h
 rw[List.all_eq_true] at h
 exact qVk (h y (List.mem_of_getElem? hy))
theorem jZ.ones {es:List V} {sz:Nat} {c:Array Value} (h:jZ β F w es sz c) (h1:Eng.qO5 es=true) {i:Nat} {y:V} (hy:es[i]?=some y) :
  sz=1 ∧ ∃ u,c[i]?=some u∧qL β F w y u∧u.oneCell'=true:=by
 obtain⟨k1,k2⟩:=h i y hy
 rw[zK4 h1 hy] at k1 k2
 have hs:sz=1:=by simpa using k1.symm
 subst hs
 obtain⟨u,hu,hr,ho⟩:=k2 0 y (by simp)
 exact⟨rfl,u,by simpa using hu,hr,ho⟩
theorem qU0 (R:Rel cx β F fm hm a w) {t:TypeId} {ti:TypeInfo} {d:TypeDesc} (hi:cx.P.info? t=some ti) (hd:cx.P.underlying t=some d) (hg:yI d=true)
  {id i:Nat} {p:Value} (hp:qL β F w (.ref id i 0) p) {z:Nat} {es:List V} {wr full:Bool} (ho:hm id=some (.live z es wr full)) {x:V} (hx:es[i]?=some x)
  (h1:qO5 es=true) (hle:i+ti.size≤es.length):zDg cx.P β F w (V.mk ((es.drop i).take ti.size)) (Instr.loadAt t p):=by
 cases hp with
 | ref _ _ _ b sz room hb=>
  obtain⟨c,e,fz,h2,h3,h4,h5,h6,h7,h8,_⟩:=R.obj ho hb rfl
  simp only at h4 h5 h7
  obtain⟨hsz,_⟩:=h7.ones h1 hx
  subst hsz
  have hrun:=qGf (P:=cx.P) (w:=w) hi hd (by simp[hg]) h2 (o:=i*1+0) (by omega)
  rw[hg] at hrun
  simp only[if_true] at hrun
  have get : ∀ (j:Nat) (u:Value),((c.toList.drop (i*1+0)).take ti.size)[j]?=some u→j<ti.size∧c[i+j]?=some u:=by
   intro j u hu
   simp only[List.getElem?_take,List.getElem?_drop,Nat.mul_one,Nat.add_zero] at hu
   split at hu
   ·rename_i hlt;exact⟨hlt,by simpa using hu⟩
   ·cases hu
  refine zDg.of hrun (qL.mk (by simp;omega) (fun u hu=>?_) (fun j y u hy hu=>?_))
  ·obtain⟨j,hj⟩:=List.getElem?_of_mem (by simpa using hu)
   obtain⟨hlt,hc⟩:=get j u (by simpa using hj)
   have hjl:i+j<es.length:=by omega
   obtain⟨_,u',hu',_,hone⟩:=h7.ones h1 (i:=i+j) (y:=es[i+j]) (by simp[hjl])
   rw[hc] at hu';cases hu';exact hone
  ·obtain⟨hlt,hc⟩:=get j u (by simpa using hu)
   have hy':es[i+j]?=some y:=by
    simp only[List.getElem?_take,List.getElem?_drop] at hy
    rwa [if_pos hlt] at hy
   obtain⟨_,u',hu',hr,_⟩:=h7.ones h1 hy'
   rw[hc] at hu';cases hu';exact hr
theorem qN6 (R:Rel cx β F fm hm a w) {t:TypeId} {ti:TypeInfo} {d:TypeDesc} (hi:cx.P.info? t=some ti) (hd:cx.P.underlying t=some d) (h1:yI d=false→ti.size=1)
  {cs:List T} {p:Value} (hp:qL β F w (.ro cs) p) (hle:ti.size≤cs.length) {v:V} (hv:if yI d then v = .t (.agg (cs.take ti.size)) else ∃ x,cs[0]?=some x∧v = .t x) :
  zDg cx.P β F w v (Instr.loadAt t p):=by
 cases hp with
 | ro _ ad news ha hn ho hF hw h=>
  have hrun:(Instr.loadAt t (.pointer (some ad))).run cx.P w = .ok (if yI d then .agg (news.take ti.size).toArray else (news.take ti.size).headD undef) w:=by
   unfold Instr.loadAt
   simp only[Instr.sureAddr,Sem.run_bind,Sem.run_pure,Result.andThen_ok]
   refine qOf hi hd _ _ (by simp;omega) (fun j u hu=>?_) h1
   simp only[List.getElem?_take] at hu
   split at hu
   ·exact hw j u hu
   ·cases hu
  refine zDg.of hrun ?_
  cases hg:yI d
  ·rw[hg] at hv
   simp only[Bool.false_eq_true,if_false] at hv ⊢
   obtain⟨x,hx,rfl⟩:=hv
   have hs:=h1 hg
   have hpos:0<news.length:=by omega
   obtain⟨u,hu⟩ : ∃ u,news[0]?=some u:=⟨news[0],by simp[hpos]⟩
   have h0:(news.take ti.size).headD undef=u:=by
    rw[hs]
    cases news with
    | nil=>simp at hpos
    | cons z r=>simpa using hu
   rw[h0]
   exact .t (h 0 x _ hx hu)
  ·rw[hg] at hv
   simp only[if_true] at hv ⊢
   subst hv
   refine .t (.agg _ _ (by simp;omega) (fun u hu=>ho u (List.mem_of_mem_take (by simpa using hu))) (fun j c u hc hu=>?_))
   simp only[List.getElem?_take] at hc
   simp only[List.getElem?_toArray,List.getElem?_take] at hu
   split at hc
   ·rename_i hlt
    rw[if_pos hlt] at hu
    exact h j c u hc hu
   ·cases hc
end Go.Eng
end
section
namespace Go.Eng
variable {cx:Cx} {β:Nat→Option BI} {F:Nat→Prop} {fm:Nat→Option V} {hm:Nat→Option Ob} {a:Act} {w:World}
def zAt (c:Array Value) (o:Nat):List Value→Array Value
 | []=>c
 | v::r=>zAt (c.setIfInBounds o v) (o+1) r
theorem qIs (vs:List Value) : ∀ (c:Array Value) (o:Nat),(zAt c o vs).size=c.size:=by
 induction vs with
 | nil=>intro c o;rfl
 | cons v r ih=>intro c o;rw[zAt,ih];simp
theorem qAo (vs:List Value) : ∀ (c:Array Value) (o k:Nat),(k<o∨o+vs.length≤k)→(zAt c o vs)[k]?=c[k]?:=by
 induction vs with
 | nil=>intro c o k _;rfl
 | cons v r ih=>
  intro c o k h
  simp only[List.length_cons] at h
  rw[zAt,ih _ _ _ (by omega),Array.getElem?_setIfInBounds_ne (by omega)]
theorem qG3 (vs:List Value) : ∀ (c:Array Value) (o:Nat),o+vs.length≤c.size → ∀ j,j<vs.length→(zAt c o vs)[o+j]?=vs[j]?:=by
 induction vs with
 | nil=>intro c o _ j hj;simp at hj
 | cons v r ih=>
  intro c o h j hj
  simp only[List.length_cons] at h hj
  rw[zAt]
  cases j with
  | zero=>
   rw[qAo _ _ _ _ (by omega)]
   simp only[Nat.add_zero,List.getElem?_cons_zero]
   rw[Array.getElem?_setIfInBounds_self]
   rw[if_pos (by omega)]
  | succ j=>
   have:=ih (c.setIfInBounds o v) (o+1) (by simp;omega) j (by omega)
   rw[show o+(j+1)=o+1+j by omega,this];simp
theorem qSl (b:Nat) (vs:List Value) : ∀ (o:Nat) (w:World) (c:Array Value) (e:TypeId) (fz:Nat×Nat),w.heap[b]?=some (.cells c e fz)→
  (w.setCells b o vs).heap[b]?=some (.cells (zAt c o vs) e fz)∧(∀ k,k≠b→(w.setCells b o vs).heap[k]?=w.heap[k]?)∧(w.setCells b o vs).heap.size=w.heap.size∧
   (w.setCells b o vs).os=w.os∧(w.setCells b o vs).tape=w.tape∧(w.setCells b o vs).output=w.output:=by
 induction vs with
 | nil=>intro o w c e fz h;exact⟨h,fun _ _=>rfl,rfl,rfl,rfl,rfl⟩
 | cons v r ih=>
  intro o w c e fz h
  have h1:(w.setCell ⟨b,o,none⟩ v).heap[b]?=some (.cells (c.setIfInBounds o v) e fz):=by
   simp[World.setCell,Array.getElem?_modify,h]
  obtain⟨i1,i2,i3,i4,i5,i6⟩:=ih (o+1) (w.setCell ⟨b,o,none⟩ v) _ e fz h1
  refine⟨i1,fun k hk=>?_,?_,i4,i5,i6⟩
  ·rw[World.setCells,i2 k hk];exact heap_setCell_other w _ k v hk
  ·rw[World.setCells,i3];simp
theorem zFg {c:Array Value} {e:TypeId} {fz:Nat×Nat} {b j:Nat} (hb:w.heap[b]?=some (.cells c e fz)) (hf : ∀ j,(j<c.size → ¬ (fz.1≤j∧j<fz.2))∧fz.1≤fz.2) (hj:j<c.size) :
  w.frozen? ⟨b,j,none⟩=false:=by
 simp only[World.frozen?,hb]
 have:=(hf j).1 hj
 simp only[Bool.and_eq_false_iff,decide_eq_false_iff_not]
 omega
theorem vO {P:Program} {b o:Nat} {c:Array Value} {e:TypeId} {fz:Nat×Nat} {vs:List Value} (hb:w.heap[b]?=some (.cells c e fz)) (hf : ∀ j,(j<c.size → ¬ (fz.1≤j∧j<fz.2))∧fz.1≤fz.2)
  (hle:o+vs.length≤c.size) (h1 : ∀ v∈vs,v.oneCell'=true):(storeCells ⟨b,o,none⟩ vs).run P w = .ok () (w.setCells b o vs):=by
 refine run_storeCells_cells b o vs 0 w (fun j hj=>?_) (fun j hj=>?_) h1
 ·rw[cell_of_row w b _ c e fz hb]
  simp;omega
 ·exact zFg hb hf (by omega)
theorem qOh {P:Program} {t:TypeId} {ti:TypeInfo} (hi:P.info? t=some ti) {x:Value} (hx:x.cells.size=ti.size) {b o:Nat} {c:Array Value} {e:TypeId} {fz:Nat×Nat}
  (hb:w.heap[b]?=some (.cells c e fz)) (hf : ∀ j,(j<c.size → ¬ (fz.1≤j∧j<fz.2))∧fz.1≤fz.2) (hle:o+ti.size≤c.size) (h1 : ∀ v∈x.cells,v.oneCell'=true) :
  (Instr.storeAt t (.pointer (some ⟨b,o,none⟩)) x).run P w = .ok () (w.setCells b o x.cells.toList):=by
 unfold Instr.storeAt
 simp only[Instr.sureAddr,Sem.run_bind,Sem.run_pure,Result.andThen_ok,storeVar,jU hi,hx,ne_eq,not_true_eq_false,if_false]
 exact vO hb hf (by simpa [hx] using hle) (by simpa using h1)
def zT2 (cx:Cx) (β:Nat→Option BI) (F:Nat→Prop) (fm:Nat→Option V) (hm:Nat→Option Ob) (a:Act) (w:World) (W:Wr) (s:Sem Unit):Prop:=
 ∃ w',s.run cx.P w = .ok () w'∧Rel cx β F fm (upd hm W) a w'
theorem xP (R:Rel cx β F fm hm a w) {id z:Nat} {es es':List V} {full full':Bool} (hid:hm id=some (.live z es true full)) {b sz room:Nat} (hb:β id=some ⟨some b,sz,room⟩)
  {c:Array Value} {e:TypeId} {fz:Nat×Nat} (hblk:w.heap[b]?=some (.cells c e fz)) (hfz : ∀ j,(j<c.size → ¬ (fz.1≤j∧j<fz.2))∧fz.1≤fz.2) (hc:c.size=room*sz)
  {o:Nat} {vs:List Value} (hl:es'.length≤room) (hfull:full'=true→room=es'.length) (hH:jZ β F w es' sz (zAt c o vs)) :
  Rel cx β F fm (upd hm [(id,.live z es' true full')]) a (w.setCells b o vs):=by
 obtain⟨i1,i2,i3,i4,i5,i6⟩:=qSl b vs o w c e fz hblk
 exact R.write hid hb rfl i4 i5 i6 i3 i2 i1 (by rw[qIs];exact hfz) (by rw[qIs];exact hc) hl hfull hH
theorem kS {α:Type} (l:List α) (i:Nat) (xs:List α) (h:i+xs.length≤l.length) (j:Nat) :
  (zT l i xs)[j]?=if i≤j∧j<i+xs.length then xs[j-i]? else l[j]?:=by
 have h1:(l.take i).length=i:=by simp;omega
 unfold zT
 by_cases hj:j<i
 ·rw[if_neg (by omega),List.append_assoc,List.getElem?_append_left (by omega),List.getElem?_take,if_pos hj]
 ·by_cases hj2:j<i+xs.length
  ·rw[if_pos ⟨by omega,hj2⟩,List.append_assoc,List.getElem?_append_right (by omega),h1,List.getElem?_append_left (by omega)]
  ·rw[if_neg (by omega),List.append_assoc,List.getElem?_append_right (by omega),h1,List.getElem?_append_right (by omega),List.getElem?_drop]
   congr 1;omega
theorem qH9 {α:Type} (l:List α) (i:Nat) (xs:List α) (h:i≤l.length) (j:Nat) :
  (zT l i xs)[j]?=if i≤j∧j<i+xs.length then xs[j-i]? else l[j]?:=by
 have h1:(l.take i).length=i:=by simp;omega
 unfold zT
 by_cases hj:j<i
 ·rw[if_neg (by omega),List.append_assoc,List.getElem?_append_left (by omega),List.getElem?_take,if_pos hj]
 ·by_cases hj2:j<i+xs.length
  ·rw[if_pos ⟨by omega,hj2⟩,List.append_assoc,List.getElem?_append_right (by omega),h1,List.getElem?_append_left (by omega)]
  ·rw[if_neg (by omega),List.append_assoc,List.getElem?_append_right (by omega),h1,List.getElem?_append_right (by omega),List.getElem?_drop]
   congr 1;omega
theorem qD3 {α:Type} (l:List α) (i:Nat) (xs:List α) (h:i≤l.length):(zT l i xs).length=Nat.max l.length (i+xs.length):=by
 unfold zT
 simp only[List.length_append,List.length_take,List.length_drop]
 have:Nat.max l.length (i+xs.length)=max l.length (i+xs.length):=rfl
 rw[this]
 omega
theorem kE {α:Type} (l:List α) (i:Nat) (xs:List α) (h:i+xs.length≤l.length):(zT l i xs).length=l.length:=by
 unfold zT
 simp;omega
theorem qGc (R:Rel cx β F fm hm a w) {t:TypeId} {ti:TypeInfo} (hi:cx.P.info? t=some ti) {id i f:Nat} {p x:Value} (hp:qL β F w (.ref id i f) p)
  {z:Nat} {es:List V} {full:Bool} (ho:hm id=some (.live z es true full)) {y v y':V} (hy:es[i]?=some y) (hv:qL β F w v x) (hpl:v.plain=true) (hn:v.cells.length=ti.size)
  (hle:f+ti.size≤y.cells.length) (hy':y'.cells=zT y.cells f v.cells):zT2 cx β F fm hm a w [(id,.live z (es.set i y') true full)] (Instr.storeAt t p x):=by
 cases hp with
 | ref _ _ _ b sz room hb=>
  obtain⟨c,e,fz,h2,h3,h4,h5,h6,h7,h8,_⟩:=R.obj ho hb rfl
  simp only at h4 h5 h7 h8
  obtain⟨hxs,hxr⟩:=hv.cells
  have hone:=hv.plain_one hpl
  obtain⟨e1,e2,e3,e4⟩:=h7.elem h4 h5 hy
  have hir:i<room:=Nat.lt_of_lt_of_le (List.getElem?_eq_some_iff.1 hy).1 h5
  have hil:i<es.length:=(List.getElem?_eq_some_iff.1 hy).1
  have hle2:(i+1)*sz≤room*sz:=Nat.mul_le_mul_right sz hir
  have e5:(i+1)*sz=i*sz+sz:=by rw[Nat.add_mul,Nat.one_mul]
  have hlen:x.cells.toList.length=ti.size:=by simp[hxs,hn]
  refine⟨_,qOh hi (by rw[hxs,hn]) h2 h3 (by omega) hone,xP R ho hb h2 h3 h4 (by simpa using h5) (fun h=>by simpa using h8 h) ?_⟩
  intro k zz hz
  by_cases hki:k=i
  ·subst hki
   rw[List.getElem?_set_self hil] at hz
   cases hz
   rw[hy']
   have hlr:f+v.cells.length≤y.cells.length:=by omega
   refine⟨by rw[kE _ _ _ hlr];exact e1,fun j q hq=>?_⟩
   rw[kS _ _ _ hlr] at hq
   split at hq
   ·rename_i hj
    have hjx:j-f<x.cells.toList.length:=by omega
    have:=qG3 x.cells.toList c (k*sz+f) (by omega) (j-f) hjx
    rw[show k*sz+f+(j-f)=k*sz+j by omega] at this
    refine⟨x.cells.toList[j-f],by rw[this];simp,hxr (j-f) q _ hq (by simp),hone _ (by simp)⟩
   ·rename_i hj
    have hjl:j<sz:=by rw[←e1];exact (List.getElem?_eq_some_iff.1 hq).1
    obtain⟨_,h9⟩:=h7 k y hy
    obtain⟨u,hu,hr,ho1⟩:=h9 j q hq
    exact⟨u,by rw[qAo _ _ _ _ (by omega)];exact hu,hr,ho1⟩
  ·rw[List.getElem?_set_ne (Ne.symm hki)] at hz
   obtain⟨k1,k2⟩:=h7 k zz hz
   refine⟨k1,fun j q hq=>?_⟩
   obtain⟨u,hu,hr,ho1⟩:=k2 j q hq
   refine⟨u,?_,hr,ho1⟩
   have hjl:j<sz:=by rw[←k1];exact (List.getElem?_eq_some_iff.1 hq).1
   rw[qAo _ _ _ _ ?_];exact hu
   rcases Nat.lt_or_gt_of_ne hki with h | h
   ·have h':(k+1)*sz≤i*sz:=Nat.mul_le_mul_right sz h
    have:(k+1)*sz=k*sz+sz:=by rw[Nat.add_mul,Nat.one_mul]
    omega
   ·have h':(i+1)*sz≤k*sz:=Nat.mul_le_mul_right sz h
    omega
theorem qR6 (R:Rel cx β F fm hm a w) {t:TypeId} {ti:TypeInfo} (hi:cx.P.info? t=some ti) {id i:Nat} {p x:Value} (hp:qL β F w (.ref id i 0) p)
  {z:Nat} {es:List V} {full:Bool} (ho:hm id=some (.live z es true full)) {y v:V} (hy:es[i]?=some y) (hv:qL β F w v x) (hpl:v.plain=true) (hn:v.cells.length=ti.size)
  (h1:qO5 es=true) (hle:i+ti.size≤es.length):zT2 cx β F fm hm a w [(id,.live z (zT es i v.cells) true full)] (Instr.storeAt t p x):=by
 cases hp with
 | ref _ _ _ b sz room hb=>
  obtain⟨c,e,fz,h2,h3,h4,h5,h6,h7,h8,_⟩:=R.obj ho hb rfl
  simp only at h4 h5 h7 h8
  obtain⟨hxs,hxr⟩:=hv.cells
  have hone:=hv.plain_one hpl
  obtain⟨hsz,_⟩:=h7.ones h1 hy
  subst hsz
  have hlr:i+v.cells.length≤es.length:=by omega
  have hlen:x.cells.toList.length=ti.size:=by simp[hxs,hn]
  refine⟨_,qOh hi (by rw[hxs,hn]) h2 h3 (by omega) hone,xP R ho hb h2 h3 h4 (by rw[kE _ _ _ hlr];exact h5) (fun h=>by rw[kE _ _ _ hlr];exact h8 h) ?_⟩
  intro k zz hz
  rw[kS _ _ _ hlr] at hz
  split at hz
  ·rename_i hk
   have hjx:k-i<x.cells.toList.length:=by omega
   have hset:=qG3 x.cells.toList c (i*1+0) (by omega) (k-i) hjx
   have hu1:x.cells.toList[k-i].oneCell'=true:=hone _ (by simp)
   have hr1:qL β F w zz x.cells.toList[k-i]:=hxr (k-i) zz _ hz (by simp)
   have hzc:zz.cells=[zz]:=hr1.one_cells hu1
   rw[hzc]
   refine⟨rfl,fun j q hq=>?_⟩
   cases j with
   | succ j=>simp at hq
   | zero=>
    simp at hq;subst hq
    refine⟨x.cells.toList[k-i],?_,hr1,hu1⟩
    rw[show k*1+0=i*1+0+(k-i) by omega,hset];simp
  ·rename_i hk
   obtain⟨k1,k2⟩:=h7 k zz hz
   refine⟨k1,fun j q hq=>?_⟩
   obtain⟨u,hu,hr,ho1⟩:=k2 j q hq
   have hjl:j<1:=by rw[←k1];exact (List.getElem?_eq_some_iff.1 hq).1
   exact⟨u,by rw[qAo _ _ _ _ (by omega)];exact hu,hr,ho1⟩
end Go.Eng
end
section
namespace Go.Eng
variable {cx:Cx} {β:Nat→Option BI} {F:Nat→Prop} {fm:Nat→Option V} {hm:Nat→Option Ob} {a:Act} {w:World}
def Src (β:Nat→Option BI) (F:Nat→Prop) (w:World) (xs:List V) (z:Nat) (news:List Value):Prop:=
 news.length=xs.length*z∧(∀ u∈news,u.oneCell'=true) ∧ ∀ (i:Nat) (y:V),xs[i]?=some y→y.cells.length=z ∧ ∀ (j:Nat) (q:V),y.cells[j]?=some q → ∃ u,news[i*z+j]?=some u∧qL β F w q u∧u.oneCell'=true
theorem Src.mono {β':Nat→Option BI} {F':Nat→Prop} {w':World} {xs:List V} {z:Nat} {news:List Value} (h:Src β F w xs z news) (hβ : ∀ i bi,β i=some bi→β' i=some bi) (hF : ∀ b,F b→F' b)
  (hw : ∀ b,F b→w'.heap[b]?=w.heap[b]?):Src β' F' w' xs z news:=
 ⟨h.1,h.2.1,fun i y hy=>let ⟨a,b⟩:=h.2.2 i y hy;⟨a,fun j q hq=>let ⟨u,c,d,e⟩:=b j q hq;⟨u,c,d.mono hβ hF hw,e⟩⟩⟩
theorem qTa {z:Nat} {es:List V} (h:zOk z es=true) {i:Nat} {y:V} (hy:es[i]?=some y):y.cells.length=z:=by
 unfold zOk at h
 rw[List.all_eq_true] at h
 simpa using h y (List.mem_of_getElem? hy)
theorem zNa {z:Nat} {es:List T} (h:qTf z es=true) {y:T} (hy:y∈es):y.cells.length=z:=by
 unfold qTf at h
 rw[List.all_eq_true] at h
 simpa using h y hy
theorem qGm (e:T):(V.t e).cells=e.cells.map .t:=by
 cases e<;>rfl
theorem wP {e:T} {j:Nat} {q:V} (h:(V.t e).cells[j]?=some q) : ∃ c,e.cells[j]?=some c∧q = .t c:=by
 rw[qGm,List.getElem?_map,Option.map_eq_some_iff] at h
 obtain⟨c,h1,h2⟩:=h
 exact⟨c,h1,h2.symm⟩
theorem qIt (R:Rel cx β F fm hm a w) {v:V} {x:Value} {xs:List V} {l:List Nat} {z:Nat} (h:(qAf v).run hm=some (xs,l)) (hz:zOk z xs=true) (hv:qL β F w v x) :
  (x = .slice none 0 0∧xs=[]) ∨ ∃ ad cap news,x = .slice (some ad) xs.length cap∧True∧Src β F w xs z news ∧ ∀ j u,news[j]?=some u→w.cell? (ad.add j)=some u:=by
 unfold qAf at h
 split at h
 ·simp only[Q.run,Option.some.injEq,Prod.mk.injEq] at h
  obtain⟨rfl,rfl⟩:=h
  cases hv
  exact .inl ⟨rfl,rfl⟩
 ·rename_i es
  simp only[Q.run,Option.some.injEq,Prod.mk.injEq] at h
  obtain⟨rfl,rfl⟩:=h
  cases hv with
  | t hv=>
   cases hv with
   | nil=>exact .inl ⟨rfl,rfl⟩
   | sl _ ad cap sz news ha hc hn h1 hF hw hzz hr=>
    refine .inr ⟨ad,cap,news,by simp,trivial,⟨?_,h1,fun i y hy=>?_⟩,hw⟩
    ·rw[List.length_map,hn]
     cases es with
     | nil=>simp
     | cons e r=>
      have:=qTa hz (i:=0) (y:= .t e) (by simp)
      rw[qGm,List.length_map,hzz e (by simp)] at this
      rw[this]
    ·rw[List.getElem?_map,Option.map_eq_some_iff] at hy
     obtain⟨e,he,rfl⟩:=hy
     have hk:=qTa hz (i:=i) (y:= .t e) (by simp[he])
     refine⟨hk,fun j q hq=>?_⟩
     obtain⟨c,hc',rfl⟩:=wP hq
     have hsz:sz=z:=by rw[qGm,List.length_map,hzz e (List.mem_of_getElem? he)] at hk;exact hk
     subst hsz
     have hj:j<sz:=by rw[←hzz e (List.mem_of_getElem? he)];exact (List.getElem?_eq_some_iff.1 hc').1
     have hi:i<es.length:=(List.getElem?_eq_some_iff.1 he).1
     have hlt:i*sz+j<news.length:=by rw[hn];exact qKs hi hj
     exact⟨news[i*sz+j],by simp[hlt],.t (hr i e j c _ he hc' (by simp[hlt])),h1 _ (by simp)⟩
 ·rename_i id off len
  simp only[Q.run] at h
  cases ho:hm id with
  | none=>rw[ho] at h;cases h
  | some o=>
   rw[ho] at h
   cases o with
   | dead=>simp[Q.run] at h
   | live z0 es wr full=>
    by_cases hle:off+len≤es.length
    ·simp only[Q.assert,hle,if_true,Q.run,Option.some.injEq,Prod.mk.injEq] at h
     obtain⟨rfl,rfl⟩:=h
     ·cases hv with
      | slv _ sz room hb=>exact .inl ⟨rfl,by simp⟩
      | sl _ _ _ scap b sz room ad hb hlc hr had hs=>
       obtain⟨c,e,fz,h2,h3,h4,h5,h6,h7,h8,_⟩:=R.obj ho hb rfl
       simp only at h4 h5 h7
       have hxl:((es.drop off).take len).length=len:=by simp;omega
       refine .inr ⟨ad,scap,(c.toList.drop (off*sz)).take (len*sz),by rw[hxl],trivial,⟨?_,?_,?_⟩,?_⟩
       ·have hlen:((c.toList.drop (off*sz)).take (len*sz)).length=len*sz:=by
         have:(off+len)*sz≤room*sz:=Nat.mul_le_mul_right sz (by omega)
         have e2:(off+len)*sz=off*sz+len*sz:=by rw[Nat.add_mul]
         simp;omega
        rw[hlen,hxl]
        cases hq:(es.drop off).take len with
        | nil=>rw[hq] at hxl;simp at hxl;subst hxl;simp
        | cons y r=>
         have h0:((es.drop off).take len)[0]?=some y:=by rw[hq];rfl
         have k1:=qTa hz h0
         have h0':es[off]?=some y:=by
          simp only[List.getElem?_take,List.getElem?_drop] at h0
          split at h0
          ·simpa using h0
          ·cases h0
         rw[←k1,(h7 off y h0').1]
       ·intro u hu
        obtain⟨j,hj⟩:=List.getElem?_of_mem hu
        simp only[List.getElem?_take,List.getElem?_drop] at hj
        split at hj
        ·rename_i hjlt
         have hszp:0<sz:=by
          rcases Nat.eq_zero_or_pos sz with h0 | h0
          ·subst h0;simp at hjlt
          ·exact h0
         have hdiv:j/sz<len:=Nat.div_lt_of_lt_mul (by rw[Nat.mul_comm];exact hjlt)
         have hmod:j%sz<sz:=Nat.mod_lt _ hszp
         have hjeq:j/sz*sz+j%sz=j:=by rw[Nat.mul_comm];exact Nat.div_add_mod j sz
         have hel:off+j/sz<es.length:=by omega
         obtain⟨k1,k2⟩:=h7 (off+j/sz) es[off+j/sz] (by simp[hel])
         obtain⟨u',hu',_,hone⟩:=k2 (j%sz) (es[off+j/sz].cells[j%sz]'(by omega)) (by simp)
         have:(off+j/sz)*sz+j%sz=off*sz+j:=by rw[Nat.add_mul];omega
         rw[this] at hu'
         have hj':c[off*sz+j]?=some u:=by simpa using hj
         rw[hj'] at hu';cases hu';exact hone
        ·cases hj
       ·intro i y hy
        have hk:=qTa hz hy
        have hy':es[off+i]?=some y∧i<len:=by
         simp only[List.getElem?_take,List.getElem?_drop] at hy
         split at hy
         ·rename_i hlt;exact⟨hy,hlt⟩
         ·cases hy
        obtain⟨k1,k2⟩:=h7 (off+i) y hy'.1
        have hsz:sz=z:=by omega
        subst hsz
        refine⟨hk,fun j q hq=>?_⟩
        obtain⟨u,hu,hr',ho'⟩:=k2 j q hq
        have hj:j<sz:=by rw[←k1];exact (List.getElem?_eq_some_iff.1 hq).1
        refine⟨u,?_,hr',ho'⟩
        simp only[List.getElem?_take,List.getElem?_drop]
        rw[if_pos (qKs hy'.2 hj)]
        have:off*sz+(i*sz+j)=(off+i)*sz+j:=by rw[Nat.add_mul];omega
        rw[this];simpa using hu
       ·intro j u hu
        simp only[List.getElem?_take,List.getElem?_drop] at hu
        split at hu
        ·rename_i hjlt
         have hlt:0<scap:=by
          rcases Nat.eq_zero_or_pos len with h0 | h0
          ·subst h0;simp at hjlt
          ·omega
         rw[had hlt,Addr.add_lit,cell_of_row w b _ c e fz h2]
         simpa using hu
        ·cases hu
    ·simp[Q.assert,hle,Q.run] at h
 ·simp[Q.run] at h
section
variable {P:Program}
theorem qB7 (t t' ty e e':TypeId) (i:TypeInfo) (ht:P.underlying t=some (.slice e)) (ht':P.underlying t'=some (.slice e')) (hi:P.info? e=some i)
  (base:Option Addr) (sLen sCap:Nat) (x:Option Addr) (n cp:Nat) (news:List Value) (hn:x=none→news=[]) (hl:news.length=n*i.size)
  (hnews : ∀ ad,x=some ad → ∀ j u,news[j]?=some u→w.cell? (ad.add j)=some u) (hroom:sLen+n≤sCap) (w':World)
  (hst : ∀ ad,base=some ad→(storeCells (ad.add (sLen*i.size)) news).run P w = .ok () w') (hb:base=none→w'=w) :
  (Builtin.append_ #[t,t'] ty #[.slice base sLen sCap,.slice x n cp]).run P w = .ok (.slice base (sLen+n) sCap) w':=by
 have hf:(Builtin.firstCells i.size n (.slice x n cp)).run P w = .ok news.toArray w:=by
  cases x with
  | none=>simp[Builtin.firstCells,hn rfl]
  | some ad=>exact run_firstCells_some w i.size n ad n cp news hl (hnews ad rfl)
 cases base with
 | none=>simp[Builtin.append_,run_underlying ht,run_underlying ht',sizeOf,typeInfo,hi,Builtin.lenOf,hroom,hf,hb rfl]
 | some ad=>simp[Builtin.append_,run_underlying ht,run_underlying ht',sizeOf,typeInfo,hi,Builtin.lenOf,hroom,hf,hst ad rfl]
theorem qVa (t t' ty e e':TypeId) (i:TypeInfo) (z:Value) (ht:P.underlying t=some (.slice e)) (ht':P.underlying t'=some (.slice e')) (hi:P.info? e=some i) (hz:i.zero=some z)
  (base:Option Addr) (sLen sCap:Nat) (olds:List Value) (hbn:base=none→olds=[]) (hlo:olds.length=sLen*i.size) (holds : ∀ ad,base=some ad → ∀ j v,olds[j]?=some v→w.cell? (ad.add j)=some v)
  (x:Option Addr) (n cp:Nat) (news:List Value) (hn:x=none→news=[]) (hl:news.length=n*i.size)
  (hnews : ∀ ad,x=some ad → ∀ j u,news[j]?=some u→w.cell? (ad.add j)=some u)
  (hg:sCap<sLen+n) (h63:sLen+n≤maxLen) (hfit:(sLen+n)*i.bytes≤140737488355328) :
  (Builtin.append_ #[t,t'] ty #[.slice base sLen sCap,.slice x n cp]).run P w =
   .ok (.slice (some ⟨w.heap.size,0,none⟩) (sLen+n) (grownCap w (sLen+n) sCap e))
    (w.drew.alloc (.cells (olds.toArray++news.toArray++Builtin.zeroCells z.cells (grownCap w (sLen+n) sCap e-(sLen+n))) e)):=by
 have hnn : ¬ (sLen+n≤sCap):=by omega
 have h63' : ¬ (9223372036854775807<((sLen:Int)+(n:Int))):=by unfold maxLen at h63;omega
 have h48:=growslice_fits hg hfit
 have h48' : ¬ (281474976710656<Builtin.nextslicecap (sLen+n) sCap*i.bytes):=by omega
 have hf:(Builtin.firstCells i.size n (.slice x n cp)).run P w.drew = .ok news.toArray w.drew:=by
  cases x with
  | none=>simp[Builtin.firstCells,hn rfl]
  | some ad=>exact run_firstCells_some w.drew i.size n ad n cp news hl (by simpa using hnews ad rfl)
 have hfo:(Builtin.firstCells i.size sLen (.slice base sLen sCap)).run P w.drew = .ok olds.toArray w.drew:=by
  cases base with
  | none=>simp[Builtin.firstCells,hbn rfl]
  | some ad=>exact run_firstCells_some w.drew i.size sLen ad sLen sCap olds hlo (by simpa using holds ad rfl)
 simp[Builtin.append_,run_underlying ht,run_underlying ht',sizeOf,typeInfo,zeroValue,hi,hz,Builtin.lenOf,hnn,h63',h48',Question.forced,hf,hfo,newRow,grownCap]
 congr 2
 apply Array.ext'
 simp[List.append_assoc]
end
theorem Src.get {xs:List V} {z:Nat} {news:List Value} (h:Src β F w xs z news) {i:Nat} {y:V} (hy:xs[i]?=some y) {j:Nat} {q:V} (hq:y.cells[j]?=some q) :
  ∃ u,news[i*z+j]?=some u∧qL β F w q u∧u.oneCell'=true:=(h.2.2 i y hy).2 j q hq
theorem qE7 {es xs:List V} {z:Nat} {olds news:List Value} (h1:Src β F w es z olds) (h2:Src β F w xs z news) (rest:List Value):jZ β F w (es++xs) z (olds++news++rest).toArray:=by
 intro i y hy
 rw[List.getElem?_append] at hy
 split at hy
 ·rename_i hlt
  refine⟨(h1.2.2 i y hy).1,fun j q hq=>?_⟩
  obtain⟨u,hu,hr,ho⟩:=h1.get hy hq
  refine⟨u,?_,hr,ho⟩
  have:i*z+j<olds.length:=(List.getElem?_eq_some_iff.1 hu).1
  rw[List.getElem?_toArray,List.append_assoc,List.getElem?_append_left this];exact hu
 ·rename_i hlt
  refine⟨(h2.2.2 _ y hy).1,fun j q hq=>?_⟩
  obtain⟨u,hu,hr,ho⟩:=h2.get hy hq
  refine⟨u,?_,hr,ho⟩
  have hn:(i-es.length)*z+j<news.length:=(List.getElem?_eq_some_iff.1 hu).1
  have he:i*z+j=olds.length+((i-es.length)*z+j):=by
   rw[h1.1,←Nat.add_assoc,←Nat.add_mul];congr 2;omega
  rw[List.getElem?_toArray,List.append_assoc,he,List.getElem?_append_right (by omega),List.getElem?_append_left (by omega)]
  rw[←hu];congr 1;omega
theorem jZ.src {es:List V} {sz:Nat} {c:Array Value} {room:Nat} (h:jZ β F w es sz c) (hc:c.size=room*sz) (hl:es.length≤room):Src β F w es sz (c.toList.take (es.length*sz)):=by
 have hle:es.length*sz≤room*sz:=Nat.mul_le_mul_right sz hl
 refine⟨by simp;omega,fun u hu=>?_,fun i y hy=>⟨(h i y hy).1,fun j q hq=>?_⟩⟩
 ·obtain⟨j,hj⟩:=List.getElem?_of_mem hu
  simp only[List.getElem?_take] at hj
  split at hj
  ·rename_i hjlt
   have hszp:0<sz:=by
    rcases Nat.eq_zero_or_pos sz with h0 | h0
    ·subst h0;simp at hjlt
    ·exact h0
   have hdiv:j/sz<es.length:=Nat.div_lt_of_lt_mul (by rw[Nat.mul_comm];exact hjlt)
   have hmod:j%sz<sz:=Nat.mod_lt _ hszp
   have hjeq:j/sz*sz+j%sz=j:=by rw[Nat.mul_comm];exact Nat.div_add_mod j sz
   obtain⟨k1,k2⟩:=h (j/sz) es[j/sz] (by simp[hdiv])
   obtain⟨u',hu',_,hone⟩:=k2 (j%sz) (es[j/sz].cells[j%sz]'(by omega)) (by simp)
   rw[hjeq] at hu'
   have hj':c[j]?=some u:=by simpa using hj
   rw[hj'] at hu';cases hu';exact hone
  ·cases hj
 ·obtain⟨u,hu,hr,ho⟩:=(h i y hy).2 j q hq
  refine⟨u,?_,hr,ho⟩
  have hi:i<es.length:=(List.getElem?_eq_some_iff.1 hy).1
  have hj:j<sz:=by rw[←(h i y hy).1];exact (List.getElem?_eq_some_iff.1 hq).1
  rw[List.getElem?_take,if_pos (qKs hi hj)];simpa using hu
theorem zHw {id nb:Nat} {o p q:Ob}:upd (upd hm [(id,o),(nb,p)]) [(nb,q)]=upd hm [(id,o),(nb,q)]:=by
 funext j
 simp only[upd]
 by_cases h:j=nb<;>simp[h]
end Go.Eng
end
section
namespace Go.Eng
variable {cx:Cx} {β:Nat→Option BI} {F:Nat→Prop} {fm:Nat→Option V} {hm:Nat→Option Ob} {a:Act} {w:World}
theorem qAl (w:World) (need old:Nat) (e:TypeId) (h:need≤maxLen):need≤grownCap w need old e∧grownCap w need old e≤maxLen:=
 ⟨grownCap_ge w need old e,grownCap_le_maxLen w need old e h⟩
theorem qR5 (R:Rel cx β F fm hm a w) {nb:Nat} (hnb:hm nb=none) {t t' ty e e':TypeId} {i:TypeInfo} {z:Value} (ht:cx.P.underlying t=some (.slice e)) (ht':cx.P.underlying t'=some (.slice e'))
  (hi:cx.P.info? e=some i) (hz:i.zero=some z) (hzs:z.cells.size=i.size)
  {es xs:List V} {olds news:List Value} (hs1:Src β F w es i.size olds) (hs2:Src β F w xs i.size news)
  {base:Option Addr} {sCap:Nat} (hbn:base=none→olds=[]) (holds : ∀ ad,base=some ad → ∀ j v,olds[j]?=some v→w.cell? (ad.add j)=some v)
  {x:Option Addr} {cp:Nat} (hn:x=none→news=[]) (hnews : ∀ ad,x=some ad → ∀ j u,news[j]?=some u→w.cell? (ad.add j)=some u)
  (hg:sCap<es.length+xs.length) (h63:es.length+xs.length≤maxLen) (hfit:(es.length+xs.length)*i.bytes≤140737488355328) :
  Out cx β F fm hm a w (.sl nb 0 (es.length+xs.length)) [(nb,.live i.size (es++xs) true false)] (Builtin.append_ #[t,t'] ty #[.slice base es.length sCap,.slice x xs.length cp]):=by
 have hrun:=qVa (w:=w) t t' ty e e' i z ht ht' hi hz base es.length sCap olds hbn hs1.1 holds x xs.length cp news hn hs2.1 hnews hg h63 hfit
 obtain⟨hge,hmx⟩:=qAl w (es.length+xs.length) sCap e h63
 have hsz:(olds.toArray++news.toArray++Builtin.zeroCells z.cells (grownCap w (es.length+xs.length) sCap e-(es.length+xs.length))).size=grownCap w (es.length+xs.length) sCap e*i.size:=by
  simp only[Array.size_append,List.size_toArray,size_zeroCells,hzs,hs1.1,hs2.1,←Nat.add_mul]
  congr 1;omega
 have hH:=qE7 hs1 hs2 (Builtin.zeroCells z.cells (grownCap w (es.length+xs.length) sCap e-(es.length+xs.length))).toList
 have hal:=R.drew.alloc (w':=w.drew.alloc (.cells (olds.toArray++news.toArray++Builtin.zeroCells z.cells (grownCap w (es.length+xs.length) sCap e-(es.length+xs.length))) e)) (nb:=nb) hnb
  (fz:=(0,0)) (wr:=true) (es:=es++xs) (full:=false) (sz:=i.size) (room:=grownCap w (es.length+xs.length) sCap e) rfl rfl rfl rfl rfl (fun j=>⟨fun _=>by simp,by simp⟩) hsz
  (by simpa using hge) hmx (by simp) (by
   have:(olds.toArray++news.toArray++Builtin.zeroCells z.cells (grownCap w (es.length+xs.length) sCap e-(es.length+xs.length))) =
     (olds++news++(Builtin.zeroCells z.cells (grownCap w (es.length+xs.length) sCap e-(es.length+xs.length))).toList).toArray:=by
    apply Array.ext';simp
   rw[this]
   exact hH.mono (fun _ _ h=>h) (fun _ h=>h) (fun _ _=>rfl))
 refine⟨_,_,_,hrun,hal.1,?_,hal.2⟩
 have:=qL.sl (β:=qO6 β nb ⟨some w.heap.size,i.size,grownCap w (es.length+xs.length) sCap e⟩) (F:=F) (w:=w.drew.alloc (.cells (olds.toArray++news.toArray++Builtin.zeroCells z.cells (grownCap w (es.length+xs.length) sCap e-(es.length+xs.length))) e))
  nb 0 (es.length+xs.length) (grownCap w (es.length+xs.length) sCap e) w.heap.size i.size (grownCap w (es.length+xs.length) sCap e) ⟨w.heap.size,0,none⟩ zA (by omega) (by omega) (fun _=>by simp) rfl
 simpa using this
theorem qOp {z:Nat}:Src β F w [] z []:=⟨by simp,by simp,by intro i y hy;simp at hy⟩
theorem qPg (R:Rel cx β F fm hm a w) {nb:Nat} (hnb:hm nb=none) {t t' ty e e':TypeId} {i:TypeInfo} {z:Value} (ht:cx.P.underlying t=some (.slice e)) (ht':cx.P.underlying t'=some (.slice e'))
  (hi:cx.P.info? e=some i) (hz:i.zero=some z) (hzs:z.cells.size=i.size)
  {v:V} {x:Value} {xs:List V} {l:List Nat} (hx:(qAf v).run hm=some (xs,l)) (hzo:zOk i.size xs=true) (hv:qL β F w v x) (hsz:qAj xs.length i.bytes) :
  Out cx β F fm hm a w (.sl nb 0 xs.length) [(nb,.live i.size xs true false)] (Builtin.append_ #[t,t'] ty #[.slice none 0 0,x]):=by
 rcases qIt R hx hzo hv with⟨rfl,rfl⟩ | ⟨ad,cap,news,rfl,has,hs,hw⟩
 ·have hvt:=R.virt hnb (full:=false) i.size
  refine⟨_,_,_,qB7 t t' ty e e' i ht ht' hi none 0 0 none 0 0 [] (fun _=>rfl) (by simp) (by simp) (Nat.le_refl _) w (by simp) (fun _=>rfl),hvt.1,?_,hvt.2⟩
  exact .slv nb i.size 0 zA
 ·by_cases h0:xs.length=0
  ·have:xs=[]:=List.eq_nil_of_length_eq_zero h0
   subst this
   have hn:news=[]:=List.eq_nil_of_length_eq_zero (by simpa using hs.1)
   subst hn
   have hvt:=R.virt hnb (full:=false) i.size
   refine⟨_,_,_,qB7 t t' ty e e' i ht ht' hi none 0 0 (some ad) 0 cap [] (by simp) (by simp) (by simp) (Nat.le_refl _) w (by simp) (fun _=>rfl),hvt.1,?_,hvt.2⟩
   exact .slv nb i.size 0 zA
  ·have:=qR5 (es:=[]) R hnb (t:=t) (t':=t') (ty:=ty) ht ht' hi hz hzs qOp hs (base:=none) (sCap:=0) (fun _=>rfl) (by simp) (x:=some ad) (cp:=cap) (by simp) (by intro ad' h;cases h;exact hw)
    (by simp;omega) (by simpa using hsz.1) (by simpa using hsz.2)
   simpa using this
theorem qPh (R:Rel cx β F fm hm a w) {nb:Nat} (hnb:hm nb=none) {t t' ty e e':TypeId} {i:TypeInfo} {z:Value} (ht:cx.P.underlying t=some (.slice e)) (ht':cx.P.underlying t'=some (.slice e'))
  (hi:cx.P.info? e=some i) (hz:i.zero=some z) (hzs:z.cells.size=i.size)
  {v:V} {x:Value} {xs:List V} {l:List Nat} (hx:(qAf v).run hm=some (xs,l)) (hzo:zOk i.size xs=true) (hv:qL β F w v x)
  {id len:Nat} {p:Value} (hp:qL β F w (.sl id 0 len) p) {es:List V} {full:Bool} (hid:hm id=some (.live i.size es true full)) (hel:es.length=len)
  (hsz:qAj (len+xs.length) i.bytes) (h100:100≤id) :
  Out cx β F fm hm a w (.sl nb 0 (len+xs.length)) [(id,.dead),(nb,.live i.size (es++xs) true false)] (Builtin.append_ #[t,t'] ty #[p,x]):=by
 have hne:id≠nb:=fun h=>by subst h;rw[hid] at hnb;cases hnb
 have hk:=R.kill hid
 have hkn:upd hm [(id,.dead)] nb=none:=by simp[upd,Ne.symm hne,hnb]
 have hsrc:=qIt R hx hzo hv
 have post : ∀ {s:Sem Value} {m:Nat},Out cx β F fm (upd hm [(id,.dead)]) a w (.sl nb 0 m) [(nb,.live i.size (es++xs) true false)] s→
   Out cx β F fm hm a w (.sl nb 0 m) [(id,.dead),(nb,.live i.size (es++xs) true false)] s:=fun ⟨x,w',β',h1,h2,h3,h4⟩=>⟨x,w',β',h1,h2,h3,h4⟩
 obtain⟨xp,cap,news,hxeq,hxn,hs,hw⟩ : ∃ xp cap news,x = .slice xp xs.length cap∧(xp=none→news=[])∧Src β F w xs i.size news∧(∀ ad,xp=some ad → ∀ j u,news[j]?=some u→w.cell? (ad.add j)=some u):=by
  rcases hsrc with⟨rfl,rfl⟩ | ⟨ad,cap,news,rfl,has,hs,hw⟩
  ·exact⟨none,0,[],rfl,fun _=>rfl,qOp,by simp⟩
  ·exact⟨some ad,cap,news,rfl,by simp,hs,by intro ad' h;cases h;exact hw⟩
 subst hxeq
 cases hp with
 | slv _ sz room hb=>
  obtain⟨bi',hb',hok⟩:=R.hp id _ hid
  rw[hb] at hb';cases hb'
  simp only[qCq] at hok
  obtain⟨_,_,hnil,_⟩:=hok
  subst hnil
  by_cases h0:xs.length=0
  ·have:xs=[]:=List.eq_nil_of_length_eq_zero h0
   subst this
   have hn:news=[]:=List.eq_nil_of_length_eq_zero (by simpa using hs.1)
   subst hn
   have hvt:=hk.virt hkn (full:=false) i.size
   refine post ⟨_,_,_,qB7 t t' ty e e' i ht ht' hi none 0 0 xp 0 cap [] hxn (by simp) (by simp) (Nat.le_refl _) w (by simp) (fun _=>rfl),hvt.1,?_,hvt.2⟩
   exact .slv nb i.size 0 zA
  ·have:=qR5 (es:=[]) hk hkn (t:=t) (t':=t') (ty:=ty) ht ht' hi hz hzs qOp hs (base:=none) (sCap:=0) (fun _=>rfl) (by simp) (x:=xp) (cp:=cap) hxn hw
    (by simp;omega) (by simpa using hsz.1) (by simpa using hsz.2)
   exact post (by simpa using this)
 | sl _ _ _ scap b sz room bad hb hlc hr had hspot=>
  subst hel
  obtain⟨c,ce,fz,h2,h3,h4,h5,h6,h7,h8,h9⟩:=R.obj hid hb rfl
  simp only at h4 h5 h6 h7 h8 h9
  subst h9
  have hold:=h7.src h4 h5
  by_cases hroom:es.length+xs.length≤scap
  ·have hroom':es.length+xs.length≤room:=by omega
   have hre:=R.rename hid hb hnb h100
   have hle:es.length*i.size+xs.length*i.size≤c.size:=by
    rw[h4,←Nat.add_mul];exact Nat.mul_le_mul_right _ hroom'
   have hst:(storeCells (bad.add (es.length*i.size)) news).run cx.P w = .ok () (w.setCells b (es.length*i.size) news):=by
    by_cases hrp:0<scap
    ·have hbad:=had hrp
     simp only[Nat.zero_mul] at hbad
     subst hbad
     rw[Addr.add_lit,Nat.zero_add]
     exact vO h2 h3 (by rw[hs.1];exact hle) hs.2.1
    ·have hx0:xs.length=0:=by omega
     have hn:news=[]:=List.eq_nil_of_length_eq_zero (by rw[hs.1,hx0];simp)
     subst hn;rfl
   have hrel:=xP hre.1 (id:=nb) (z:=i.size) (es:=es) (es':=es++xs) (full:=full) (full':=false) (by simp[upd]) zA h2 h3 h4 (o:=es.length*i.size) (vs:=news) (by simpa using hroom') (by simp) (by
    intro k y hy
    rw[List.getElem?_append] at hy
    split at hy
    ·rename_i hlt
     obtain⟨k1,k2⟩:=h7 k y hy
     refine⟨k1,fun j q hq=>?_⟩
     obtain⟨u,hu,hru,hou⟩:=k2 j q hq
     have hj:j<i.size:=by rw[←k1];exact (List.getElem?_eq_some_iff.1 hq).1
     exact⟨u,by rw[qAo _ _ _ _ (.inl (qKs hlt hj))];exact hu,hru.mono hre.2 (fun _ h=>h) (fun _ _=>rfl),hou⟩
    ·rename_i hlt
     obtain⟨k1,k2⟩:=hs.2.2 _ y hy
     refine⟨k1,fun j q hq=>?_⟩
     obtain⟨u,hu,hru,hou⟩:=k2 j q hq
     have hult:(k-es.length)*i.size+j<news.length:=(List.getElem?_eq_some_iff.1 hu).1
     have:=qG3 news c (es.length*i.size) (by rw[hs.1];exact hle) _ hult
     have he:es.length*i.size+((k-es.length)*i.size+j)=k*i.size+j:=by
      rw[←Nat.add_assoc,←Nat.add_mul];congr 2;omega
     rw[he] at this
     exact⟨u,by rw[this];exact hu,hru.mono hre.2 (fun _ h=>h) (fun _ _=>rfl),hou⟩)
   rw[zHw] at hrel
   refine⟨_,_,_,qB7 t t' ty e e' i ht ht' hi (some bad) es.length scap xp xs.length cap news hxn hs.1 hw hroom _ (by intro ad h;cases h;exact hst) (by simp),hrel,?_,hre.2⟩
   exact .sl nb 0 (es.length+xs.length) scap b i.size room bad zA hroom hr had hspot
  ·
   have:=qR5 hk hkn (t:=t) (t':=t') (ty:=ty) ht ht' hi hz hzs hold hs (base:=some bad) (sCap:=scap) (by simp) (by
     intro ad h j u hu
     cases h
     simp only[List.getElem?_take] at hu
     split at hu
     ·rename_i hlt
      have hrp:0<scap:=by
       rcases Nat.eq_zero_or_pos es.length with h0 | h0
       ·rw[h0] at hlt;simp at hlt
       ·omega
      rw[had hrp,Addr.add_lit,cell_of_row w b _ c ce fz h2]
      simpa using hu
     ·cases hu) (x:=xp) (cp:=cap) hxn hw (by omega) hsz.1 hsz.2
   exact post this
end Go.Eng
end
section
namespace Go.Eng
variable {cx:Cx} {β:Nat→Option BI} {F:Nat→Prop} {fm:Nat→Option V} {hm:Nat→Option Ob} {a:Act} {w:World}
def zDf (agg:Bool):Value→Option V
 | .agg cs=>if agg then (cs.toList.mapM V.ofConst).map V.mk else none
 | v=>if agg then none else V.ofConst v
def qFb (cs:Array Value):Bool:=cs.all Value.oneCell'
theorem qHg {agg:Bool} {z:Value} {v:V} (h:zDf agg z=some v) (h1:qFb z.cells=true):qL β F w v z∧v.plain=true:=by
 have h1' : ∀ u∈z.cells,u.oneCell'=true:=by
  unfold qFb at h1
  rw[Array.all_eq_true_iff_forall_mem] at h1
  exact h1
 unfold zDf at h
 split at h
 ·rename_i cs
  split at h
  ·simp only[Option.map_eq_some_iff] at h
   obtain⟨vs,hvs,rfl⟩:=h
   obtain⟨hl,hg⟩:=qIf hvs
   refine⟨qL.mk (by simpa using hl.symm) h1' (fun i c u hc hu=>kF (hg i u c (by simpa using hu) hc)),?_⟩
   unfold V.mk;split<;>rfl
  ·cases h
 ·rename_i hne
  split at h
  ·cases h
  ·have hr:qL β F w v z:=kF h
   refine⟨hr,hr.one_plain ?_⟩
   have hz:z.cells = #[z]:=by
    cases z with
    | agg cs=>exact absurd rfl (hne cs)
    | _=>rfl
   exact h1' z (by rw[hz];simp)
theorem zKr {z:Array Value} {n i j:Nat} (hi:i<n) (hj:j<z.size):(madeCells z (n*z.size))[i*z.size+j]?=some z[j]:=by
 have hlt:=qKs hi hj
 have hmod:(i*z.size+j)%z.size=j:=by rw[Nat.mul_comm,Nat.mul_add_mod];exact Nat.mod_eq_of_lt hj
 simp[madeCells,hlt,hmod,hj]
theorem qE8 {v:V} {z:Value} (hr:qL β F w v z) (hp:v.plain=true) {n l:Nat} (hl:l≤n):jZ β F w (List.replicate l v) v.cells.length (madeCells z.cells (n*v.cells.length)):=by
 obtain⟨h1,h2⟩:=hr.cells
 intro i y hy
 rw[List.getElem?_replicate] at hy
 split at hy
 ·rename_i hi
  cases hy
  refine⟨rfl,fun j q hq=>?_⟩
  have hj:j<z.cells.size:=by rw[h1];exact (List.getElem?_eq_some_iff.1 hq).1
  rw[←h1]
  exact⟨z.cells[j],zKr (by omega) hj,h2 j q _ hq (by simp[hj]),hr.plain_one hp _ (by simp)⟩
 ·cases hy
theorem zLa (R:Rel cx β F fm hm a w) {nb:Nat} (hnb:hm nb=none) {t e:TypeId} {i:TypeInfo} {z:Value} {agg:Bool} {zv:V} (ht:cx.P.underlying t=some (.slice e))
  (hi:cx.P.info? e=some i) (hz:i.zero=some z) (hzv:zDf agg z=some zv) (h1:qFb z.cells=true) (hsize:zv.cells.length=i.size)
  {lv cv:V} {lx cxv:Value} {l c:Int} (hl:qL β F w lv lx) (hc:qL β F w cv cxv) (hl':yL lv=some l) (hc':yL cv=some c) (h0:0≤l) (hlc:l≤c) (hsz:qAj c.toNat i.bytes) :
  Out cx β F fm hm a w (.sl nb 0 l.toNat) [(nb,.live i.size (List.replicate l.toNat zv) true false)] (Instr.makeSlice t lx cxv):=by
 obtain⟨kl,rfl⟩:=hl.intArg_inv hl'
 obtain⟨kc,rfl⟩:=hc.intArg_inv hc'
 obtain⟨hr,hp⟩:=qHg (β:=β) (F:=F) (w:=w) hzv h1
 obtain⟨s1,s2⟩:=hsz
 have hcn:(c.toNat:Int)=c:=Int.toNat_of_nonneg (by omega)
 have hrun:=run_make (P:=cx.P) w t e i z ht hi hz kl kc l c h0 hlc (by
  have:((c.toNat*i.bytes:Nat):Int)≤140737488355328:=by omega
  rw[Int.natCast_mul,hcn,Int.mul_comm] at this
  omega) (by unfold maxLen at s1;omega)
 have hzsz:z.cells.size=i.size:=by rw[hr.cells.1,hsize]
 have hal:=R.alloc (w':=w.alloc (.cells (madeCells z.cells (c.toNat*i.size)) e)) (nb:=nb) hnb (fz:=(0,0)) (wr:=true) (es:=List.replicate l.toNat zv) (full:=false) (sz:=i.size) (room:=c.toNat)
  rfl rfl rfl rfl rfl (fun j=>⟨fun _=>by simp,by simp⟩) (size_madeCells _ _) (by simp;omega) s1 (by simp) (by rw[←hsize];exact qE8 hr hp (by omega))
 refine⟨_,_,_,hrun,hal.1,?_,hal.2⟩
 have:=qL.sl (β:=qO6 β nb ⟨some w.heap.size,i.size,c.toNat⟩) (F:=F) (w:=w.alloc (.cells (madeCells z.cells (c.toNat*i.size)) e)) nb 0 l.toNat c.toNat w.heap.size i.size c.toNat ⟨w.heap.size,0,none⟩ zA (by omega) (by omega) (fun _=>by simp) rfl
 simpa using this
theorem qWt (b:UInt8):(V.t (qA b)).cells=[.t (qA b)]:=rfl
theorem zQ2 (R:Rel cx β F fm hm a w) {nb:Nat} (hnb:hm nb=none) {src dst e:TypeId} (hs:cx.P.underlying src=some .string) (hd:cx.P.underlying dst=some (.slice e)) (he:cx.P.underlying e=some (.int .u8))
  {s:ByteArray} (hsz:qAj s.size 1) :
  Out cx β F fm hm a w (.sl nb 0 s.size) [(nb,.live 1 (s.data.toList.map fun b=> .t (qA b)) true false)] (convert src dst (.string s)):=by
 have hrun:=run_bytes_of_string (P:=cx.P) w src dst e s hs hd he
 obtain⟨hge,hmx⟩:=qAl w s.size 0 e hsz.1
 have hsize:(bytesRow s (grownCap w s.size 0 e)).size=grownCap w s.size 0 e*1:=by
  simp[bytesRow]
  have:s.data.size=s.size:=rfl
  omega
 have hlen:(s.data.toList.map fun b=>V.t (qA b)).length=s.size:=by simp
 have hal:=R.drew.alloc (w':=w.drew.alloc (.cells (bytesRow s (grownCap w s.size 0 e)) e ((bytesRow s (grownCap w s.size 0 e)).size,(bytesRow s (grownCap w s.size 0 e)).size+1))) (nb:=nb) hnb
  (wr:=true) (es:=s.data.toList.map fun b=> .t (qA b)) (full:=false) (sz:=1) (room:=grownCap w s.size 0 e)
  rfl rfl rfl rfl rfl (fun j=>⟨fun hj=>by omega,by simp⟩) hsize (by rw[hlen];exact hge) hmx (by simp) (by
   intro i y hy
   rw[List.getElem?_map,Option.map_eq_some_iff] at hy
   obtain⟨b,hb,rfl⟩:=hy
   rw[qWt]
   refine⟨rfl,fun j q hq=>?_⟩
   cases j with
   | succ j=>simp at hq
   | zero=>
    simp at hq;subst hq
    have hi:i<s.data.size:=by simpa using (List.getElem?_eq_some_iff.1 hb).1
    have hb':s.data[i]=b:=by
     have:=(List.getElem?_eq_some_iff.1 hb).2
     simpa using this
    refine⟨.int .u8 b.toNat,?_,.t (.int _ _),rfl⟩
    simp only[bytesRow,Nat.mul_one,Nat.add_zero]
    rw[Array.getElem?_append_left (by simpa using hi)]
    rw[Array.getElem?_map,Array.getElem?_eq_getElem hi,hb'];rfl)
 refine⟨_,_,_,hrun,hal.1,?_,hal.2⟩
 have:=qL.sl (β:=qO6 β nb ⟨some w.heap.size,1,grownCap w s.size 0 e⟩) (F:=F)
  (w:=w.drew.alloc (.cells (bytesRow s (grownCap w s.size 0 e)) e ((bytesRow s (grownCap w s.size 0 e)).size,(bytesRow s (grownCap w s.size 0 e)).size+1)))
  nb 0 s.size (grownCap w s.size 0 e) w.heap.size 1 (grownCap w s.size 0 e) ⟨w.heap.size,0,none⟩ zA (by omega) (by omega) (fun _=>by simp) rfl
 simpa using this
theorem qMs : ∀ {es:List V} {bs:List UInt8},qDb es=some bs → ∃ ns:List Int,es=ns.map (fun n=>V.t (.int .u8 n))∧bs=ns.map (fun n=>UInt8.ofNat n.toNat)
 | [],bs,h=>by simp[qDb] at h;subst h;exact⟨[],rfl,rfl⟩
 | v::r,bs,h=>by
  unfold qDb at h
  split at h
  ·rename_i heq;cases heq
  ·rename_i n r' heq
   cases heq
   simp only[Option.map_eq_some_iff] at h
   obtain⟨bs',h1,rfl⟩:=h
   obtain⟨ns,h2,h3⟩:=qMs h1
   exact⟨n::ns,by simp[h2],by simp[h3]⟩
  ·cases h
theorem qE4 : ∀ (l:List Int) (r:ByteArray),l.foldl (fun r n=>r.push (UInt8.ofNat n.toNat)) r=⟨r.data++(l.map fun n=>UInt8.ofNat n.toNat).toArray⟩
 | [],r=>by simp
 | n::l,r=>by
  simp only[List.map_cons,List.foldl_cons]
  rw[qE4 l]
  simp[ByteArray.push]
theorem qK4 (l:List Int):l.foldl (fun r n=>r.push (UInt8.ofNat n.toNat)) ByteArray.empty=⟨(l.map fun n=>UInt8.ofNat n.toNat).toArray⟩:=by
 rw[qE4]
 congr 1
 apply Array.ext'
 rw[Array.toList_append]
 rfl
theorem zQ0 (R:Rel cx β F fm hm a w) {src dst e:TypeId} (hs:cx.P.underlying src=some (.slice e)) (he:cx.P.underlying e=some (.int .u8)) (hd:cx.P.underlying dst=some .string)
  {v:V} {x:Value} {es:List V} {l:List Nat} (hx:(qAf v).run hm=some (es,l)) (hv:qL β F w v x) {bs:List UInt8} (hb:qDb es=some bs) :
  Out cx β F fm hm a w (.t (.str ⟨bs.toArray⟩)) [] (convert src dst x):=by
 obtain⟨ns,rfl,rfl⟩:=qMs hb
 have hz:zOk 1 (ns.map fun n=>V.t (.int .u8 n))=true:=by
  unfold zOk;rw[List.all_eq_true];intro y hy;simp at hy;obtain⟨n,_,rfl⟩:=hy;rfl
 have hc : ∀ x,(convert src dst x).run cx.P w=(Conv.bytesToString x).run cx.P w ∨ ∀ a n c,x≠ .slice a n c:=by
  intro x
  cases x<;>first | (right;intro a n c h;cases h;done) | left
  simp[convert,run_underlying hs,run_underlying hd,run_underlying he]
 rcases qIt R hx hz hv with⟨rfl,hnil⟩ | ⟨ad,cap,news,rfl,has,hsrc,hw⟩
 ·have:ns=[]:=by simpa using hnil
  subst this
  refine Out.same R ((hc _).resolve_right (fun h=>h _ _ _ rfl) |>.trans (by simp[Conv.bytesToString];rfl)) (.t (.str _))
 ·have hn:news=ns.map (Value.int .u8):=by
   apply List.ext_getElem?
   intro j
   by_cases hj:j<ns.length
   ·obtain⟨u,hu,hr,_⟩:=hsrc.get (i:=j) (y:= .t (.int .u8 ns[j])) (by simp[hj]) (j:=0) (q:= .t (.int .u8 ns[j])) rfl
    rw[hr.int_inv] at hu
    simp only[Nat.mul_one,Nat.add_zero] at hu
    rw[hu];simp[hj]
   ·have:news.length=ns.length:=by simpa using hsrc.1
    rw[List.getElem?_eq_none (by omega),List.getElem?_eq_none (by simp;omega)]
  subst hn
  have hl:=run_loadCells_list (P:=cx.P) w ad _ hw
  have hrun:=run_bytesToString (P:=cx.P) w ad (ns.map fun n=>V.t (.int .u8 n)).length cap ns (by
   rw[List.length_map]
   rw[List.length_map] at hl
   exact hl)
  refine Out.same R ((hc _).resolve_right (fun h=>h _ _ _ rfl) |>.trans hrun) ?_
  rw[qK4]
  exact .t (.str _)
theorem qPd (off:Nat) (vs:List Value) : ∀ (k:Nat) (c:Array Value),((vs.zipIdx k).foldl (fun cs (x:Value×Nat)=>cs.setIfInBounds (off+x.2) x.1) c)=zAt c (off+k) vs:=by
 induction vs with
 | nil=>intro k c;rfl
 | cons v r ih=>
  intro k c
  rw[List.zipIdx_cons,List.foldl_cons,ih]
  rfl
theorem qE5 (off:Nat) (vs:Array Value) (c:Array Value):(vs.zipIdx.foldl (fun cs (x,j)=>cs.setIfInBounds (off+j) x) c)=zAt c off vs.toList:=by
 have:=qPd off vs.toList 0 c
 rw[Nat.add_zero] at this
 rw[←this,←Array.foldl_toList,Array.toList_zipIdx]
def qJ2 (β:Nat→Option BI) (F:Nat→Prop) (w:World) (cs:List V) (c:Array Value):Prop:=
 c.size=cs.length∧(∀ u∈c,u.oneCell'=true) ∧ ∀ (i:Nat) (y:V) (u:Value),cs[i]?=some y→c[i]?=some u→qL β F w y u
theorem qJ2.set {cs:List V} {c:Array Value} (h:qJ2 β F w cs c) {v:V} {x:Value} (hv:qL β F w v x) (hp:v.plain=true) {off:Nat} (hle:off+v.cells.length≤cs.length) :
  qJ2 β F w (zT cs off v.cells) (zAt c off x.cells.toList):=by
 obtain⟨h1,h2,h3⟩:=h
 obtain⟨k1,k2⟩:=hv.cells
 have hone:=hv.plain_one hp
 have hxl:x.cells.toList.length=v.cells.length:=by simp[k1]
 have get : ∀ (i:Nat) (u:Value),(zAt c off x.cells.toList)[i]?=some u→(off≤i∧i<off+v.cells.length∧x.cells[i-off]?=some u)∨((i<off∨off+v.cells.length≤i)∧c[i]?=some u):=by
  intro i u hu
  by_cases hi:off≤i∧i<off+v.cells.length
  ·left
   have:=qG3 x.cells.toList c off (by omega) (i-off) (by omega)
   rw[show off+(i-off)=i by omega,hu] at this
   exact⟨hi.1,hi.2,by simpa using this.symm⟩
  ·right
   rw[qAo _ _ _ _ (by omega)] at hu
   exact⟨by omega,hu⟩
 refine⟨by rw[qIs,kE _ _ _ hle,h1],fun u hu=>?_,fun i y u hy hu=>?_⟩
 ·obtain⟨i,hi⟩:=Array.getElem?_of_mem hu
  rcases get i u hi with⟨_,_,hx⟩ | ⟨_,hx⟩
  ·exact hone u (Array.mem_of_getElem? hx)
  ·exact h2 u (Array.mem_of_getElem? hx)
 ·rw[kS _ _ _ hle] at hy
  rcases get i u hu with⟨g1,g2,hx⟩ | ⟨g1,hx⟩
  ·rw[if_pos ⟨g1,g2⟩] at hy
   exact k2 _ y u hy hx
  ·rw[if_neg (by omega)] at hy
   exact h3 i y u hy hx
theorem qGv (place:Nat→Option (Nat×Nat)) : ∀ {ps:List (Nat×Value)} {pl:List (Nat×Nat)} {vs cs cs':List V} {c:Array Value},
  ps.map (fun p=>place p.1)=pl.map some→wU (fun (p:Nat×Value) v=>qL β F w v p.2) ps vs→qJ2 β F w cs c→qPc cs pl vs=some cs'→
   ∃ c',Instr.fill place c ps=some c'∧qJ2 β F w cs' c'
 | [],pl,vs,cs,cs',c,hpl,hall,hc,hf=>by
  cases hall
  have:pl=[]:=by simpa using hpl.symm
  subst this
  simp[qPc] at hf;subst hf
  exact⟨c,rfl,hc⟩
 | (i,x)::ps,pl,vs,cs,cs',c,hpl,hall,hc,hf=>by
  cases hall with
  | cons hv hr=>
   rename_i v vs'
   cases pl with
   | nil=>simp at hpl
   | cons q pl'=>
    obtain⟨off,n⟩:=q
    simp only[List.map_cons,List.cons.injEq] at hpl
    simp only[qPc] at hf
    split at hf
    ·rename_i hcond
     obtain⟨g1,g2,g3⟩:=hcond
     have hv':qL β F w v x:=hv
     have hxs:=hv'.cells.1
     have hset:=hc.set hv' g3 (off:=off) (by omega)
     obtain⟨c',h1,h2⟩:=qGv place hpl.2 hr hset hf
     refine⟨c',?_,h2⟩
     unfold Instr.fill
     rw[hpl.1]
     simp only
     rw[if_neg (by
      have:=hc.1
      simp only[Bool.or_eq_true,decide_eq_true_eq,ne_eq]
      omega),qE5]
     exact h1
    ·cases hf
theorem qNs {z len:Nat} : ∀ {ps:List (Nat×Value)} {ix:List Nat} {vs es es':List V} {c:Array Value},
  ps.map (·.1)=ix→wU (fun (p:Nat×Value) v=>qL β F w v p.2) ps vs→es.length=len→c.size=len*z→jZ β F w es z c→qPb z es ix vs=some es'→
   ∃ c',Instr.fill (fun i=>some (i*z,z)) c ps=some c'∧c'.size=len*z∧es'.length=len∧jZ β F w es' z c'
 | [],ix,vs,es,es',c,hpl,hall,hl,hs,hH,hf=>by
  cases hall
  subst hpl
  simp[qPb] at hf;subst hf
  exact⟨c,rfl,hs,hl,hH⟩
 | (i,x)::ps,ix,vs,es,es',c,hpl,hall,hl,hs,hH,hf=>by
  cases hall with
  | cons hv hr=>
   rename_i v vs'
   subst hpl
   simp only[List.map_cons,qPb] at hf
   split at hf
   ·rename_i hcond
    obtain⟨g1,g2,g3⟩:=hcond
    have hv':qL β F w v x:=hv
    obtain⟨k1,k2⟩:=hv'.cells
    have hone:=hv'.plain_one g3
    have hle:(i+1)*z≤len*z:=Nat.mul_le_mul_right z (by omega)
    have e5:(i+1)*z=i*z+z:=by rw[Nat.add_mul,Nat.one_mul]
    have hxl:x.cells.toList.length=z:=by simp[k1,g1]
    have hH':jZ β F w (es.set i v) z (zAt c (i*z) x.cells.toList):=by
     intro k y hy
     by_cases hk:k=i
     ·subst hk
      rw[List.getElem?_set_self g2] at hy
      cases hy
      refine⟨g1,fun j q hq=>?_⟩
      have hj:j<z:=by rw[←g1];exact (List.getElem?_eq_some_iff.1 hq).1
      have:=qG3 x.cells.toList c (k*z) (by omega) j (by omega)
      have hjx:j<x.cells.size:=by rw[k1];omega
      exact⟨x.cells[j],by rw[this];simp[hjx],k2 j q _ hq (by simp[hjx]),hone _ (by simp)⟩
     ·rw[List.getElem?_set_ne (Ne.symm hk)] at hy
      obtain⟨m1,m2⟩:=hH k y hy
      refine⟨m1,fun j q hq=>?_⟩
      obtain⟨u,hu,hru,hou⟩:=m2 j q hq
      have hj:j<z:=by rw[←m1];exact (List.getElem?_eq_some_iff.1 hq).1
      refine⟨u,?_,hru,hou⟩
      rw[qAo _ _ _ _ ?_];exact hu
      rcases Nat.lt_or_gt_of_ne hk with h | h
      ·have h':(k+1)*z≤i*z:=Nat.mul_le_mul_right z h
       have:(k+1)*z=k*z+z:=by rw[Nat.add_mul,Nat.one_mul]
       omega
      ·have h':(i+1)*z≤k*z:=Nat.mul_le_mul_right z h
       omega
    obtain⟨c',h1,h2,h3,h4⟩:=qNs (ix:=ps.map (·.1)) rfl hr (by simpa using hl) (by rw[qIs];exact hs) hH' hf
    refine⟨c',?_,h2,h3,h4⟩
    unfold Instr.fill
    simp only
    rw[if_neg (by
     simp only[Bool.or_eq_true,decide_eq_true_eq,ne_eq]
     omega),qE5]
    exact h1
   ·cases hf
end Go.Eng
end
section
namespace Go.Eng
variable {cx:Cx} {β:Nat→Option BI} {F:Nat→Prop} {fm:Nat→Option V} {hm:Nat→Option Ob} {a:Act} {w:World}
theorem qC {α γ:Type} {o:Option α} {f:α→Q γ} {r:γ×List Nat} (h:((Q.of o).bind f).run hm=some r) : ∃ x,o=some x∧(f x).run hm=some r:=by
 cases o with
 | none=>cases h
 | some x=>exact⟨x,rfl,h⟩
theorem qF {α:Type} {b:Prop} [Decidable b] {q:Q α} {r:α×List Nat} (h:(Q.assert b q).run hm=some r):b∧q.run hm=some r:=by
 unfold Q.assert at h
 split at h
 ·exact⟨by assumption,h⟩
 ·cases h
theorem yF {α:Type} {id:Nat} {k:Ob→Q α} {x:α} {l:List Nat} (h:(Q.get id k).run hm=some (x,l)) : ∃ o l',hm id=some o∧(k o).run hm=some (x,l')∧l=id::l':=by
 simp only[Q.run] at h
 cases ho:hm id with
 | none=>rw[ho] at h;cases h
 | some o=>
  rw[ho] at h
  simp only at h
  cases hk:(k o).run hm with
  | none=>rw[hk] at h;cases h
  | some p=>
   obtain⟨x',l'⟩:=p
   rw[hk] at h
   simp only[Option.some.injEq,Prod.mk.injEq] at h
   obtain⟨rfl,rfl⟩:=h
   exact⟨o,l',rfl,hk,rfl⟩
theorem vZ {α:Type} {id:Nat} {k:Q α} {x:α} {l:List Nat} (h:(Q.free id k).run hm=some (x,l)):hm id=none ∧ ∃ l',k.run hm=some (x,l')∧l=id::l':=by
 simp only[Q.run] at h
 cases ho:hm id with
 | some o=>rw[ho] at h;cases h
 | none=>
  rw[ho] at h
  simp only at h
  cases hk:k.run hm with
  | none=>rw[hk] at h;cases h
  | some p=>
   obtain⟨x',l'⟩:=p
   rw[hk] at h
   simp only[Option.some.injEq,Prod.mk.injEq] at h
   obtain⟨rfl,rfl⟩:=h
   exact⟨rfl,l',rfl,rfl⟩
theorem qW {α γ:Type} {q:Q α} {f:α→Q γ} {r:γ} {l:List Nat} (h:(q.bind f).run hm=some (r,l)) : ∃ x l1 l2,q.run hm=some (x,l1)∧(f x).run hm=some (r,l2)∧l=l1++l2:=by
 rw[Q.run_bind] at h
 cases hq:q.run hm with
 | none=>rw[hq] at h;cases h
 | some p=>
  obtain⟨x,l1⟩:=p
  rw[hq] at h
  simp only at h
  cases hf:(f x).run hm with
  | none=>rw[hf] at h;cases h
  | some p2=>
   obtain⟨r2,l2⟩:=p2
   rw[hf] at h
   simp only[Option.some.injEq,Prod.mk.injEq] at h
   obtain⟨rfl,rfl⟩:=h
   exact⟨x,l1,l2,rfl,hf,rfl⟩
theorem qB {α:Type} {x y:α} {l:List Nat} (h:(Q.ret x).run hm=some (y,l)):y=x∧l=[]:=by
 simp only[Q.run,Option.some.injEq,Prod.mk.injEq] at h
 exact⟨h.1.symm,h.2.symm⟩
def qSa (P:Program) (fs:Array Field) (ps:List Nat):Option (List (Nat×Nat)):=
 ps.mapM fun i=>(fs[i]?).bind fun f=>(P.info? f.type).map fun j=>(f.offset,j.size)
def qLi (P:Program) (e:TypeId):Option (AO×List Operand):=
 match P.underlying e,P.info? e with
 | some d,some i=>
  match i.zero with
  | some z=>
   if qFb z.cells then
    match d with
    | .array _ _=>(z.cells.toList.mapM V.ofConst).bind fun cs=>if cs.length≤1000000 then some (.new 1 cs,[]) else none
    | d=>(zDf (yI d) z).map fun v=>(.new v.cells.length [v],[])
   else none
  | none=>none
 | _,_=>none
def qRe (P:Program) (t:TypeId) (ps:List (Nat×Operand)):Option (AO×List Operand):=
 match P.underlying t,(P.info? t).bind (·.zero) with
 | some (.struct fs),some (.agg z)=>
  if qFb z∧(fs.all fun f=>(P.info? f.type).isSome)=true then (z.toList.mapM V.ofConst).bind fun cs=>(qSa P fs (ps.map (·.1))).map fun pl=>(.build cs pl,ps.map (·.2)) else none
 | some (.array _ e),some (.agg z)=>
  if qFb z then (z.toList.mapM V.ofConst).bind fun cs=>(P.info? e).map fun j=>(.build cs (ps.map fun p=>(p.1*j.size,j.size)),ps.map (·.2)) else none
 | _,_=>none
def qMj (P:Program) (t:TypeId) (len:Nat) (ps:List (Nat×Operand)):Option (AO×List Operand):=
 match P.underlying t with
 | some (.slice e)=>
  match P.info? e,P.underlying e with
  | some i,some d=>
   match i.zero with
   | some z=>
    if qFb z.cells then (zDf (yI d) z).bind fun v=>if v.cells.length=i.size∧0<i.size∧len*i.size≤16777216 then some (.bslice i.size len v (ps.map (·.1)),ps.map (·.2)) else none
    else none
   | none=>none
  | _,_=>none
 | _=>none
def qI7 (P:Program) (t:TypeId) (x:Operand):Option (AO×List Operand):=
 match P.info? t,P.underlying t with
 | some i,some d=>if yI d∨i.size=1 then some (.load i.size (yI d),[x]) else none
 | _,_=>none
def qQc (P:Program) (src dst:TypeId) (x:Operand):Option (AO×List Operand):=
 match P.underlying src,P.underlying dst with
 | some (.int _),some (.int k)=>some (.conv k,[x])
 | some .string,some .string=>some (.smov,[x])
 | some .string,some (.slice e)=>match P.underlying e with
  | some (.int .u8)=>some (.s2b,[x])
  | _=>none
 | some (.slice e),some .string=>match P.underlying e with
  | some (.int .u8)=>some (.b2s,[x])
  | _=>none
 | some (.slice _),some (.slice e)=>if src=dst then match P.underlying e with
   | some (.int .u8)=>some (.idsl,[x])
   | _=>none
  else none
 | _,_=>none
def zDr (P:Program) (t:TypeId) (l c:Operand):Option (AO×List Operand):=
 match P.underlying t with
 | some (.slice e)=>
  match P.info? e,P.underlying e with
  | some i,some d=>
   match i.zero with
   | some z=>if qFb z.cells then (zDf (yI d) z).bind fun v=>if v.cells.length=i.size then some (.mkslice i.size i.bytes v,[l,c]) else none else none
   | none=>none
  | _,_=>none
 | _=>none
def qRj (P:Program) (t:TypeId) (x:Operand) (lo hi mx:Option Operand):Option (AO×List Operand):=
 match P.underlying t with
 | some .string=>some (.sslice lo.isSome hi.isSome mx.isSome,x::(lo.toList++hi.toList++mx.toList))
 | some (.slice e)=>(P.info? e).map fun i=>(.slice i.size lo.isSome hi.isSome mx.isSome,x::(lo.toList++hi.toList++mx.toList))
 | some (.array n e)=>(P.info? e).map fun i=>(.aslice n i.size lo.isSome hi.isSome mx.isSome,x::(lo.toList++hi.toList++mx.toList))
 | _=>none
def qRf (P:Program) (s:TypeId) (x:Operand) (f:Nat):Option (AO×List Operand):=
 match P.underlying s with
 | some (.struct fs)=>match fs[f]? with
  | some fd=>match P.info? fd.type with
   | some i=>if i.size=0 then none else some (.faddr fd.offset,[x])
   | none=>none
  | none=>none
 | _=>none
def qRg (P:Program) (s:TypeId) (x:Operand) (f:Nat):Option (AO×List Operand):=
 match P.underlying s with
 | some (.struct fs)=>match fs[f]? with
  | some fd=>match P.info? fd.type,P.underlying fd.type with
   | some i,some d=>some (.field fd.offset i.size (yI d),[x])
   | _,_=>none
  | none=>none
 | _=>none
def qRh (P:Program) (t:TypeId) (x ix:Operand):Option (AO×List Operand):=
 match P.underlying t with
 | some (.slice e)=>(P.info? e).map fun i=>(.iaddr i.size,[x,ix])
 | some (.array n e)=>(P.info? e).map fun i=>(.aaddr n i.size,[x,ix])
 | _=>none
def qRi (P:Program) (t:TypeId) (x ix:Operand):Option (AO×List Operand):=
 match P.underlying t with
 | some (.array n e)=>match P.info? e,P.underlying e with
  | some i,some d=>some (.index n i.size (yI d),[x,ix])
  | _,_=>none
 | some .string=>some (.sindex,[x,ix])
 | _=>none
def qQb (P:Program) (b:Builtin) (args:List Operand) (ts:List TypeId):Option (AO×List Operand):=
 match b,args,ts with
 | .len,[x],t::_=>match P.underlying t with
  | some .string=>some (.slen,[x])
  | some (.slice _)=>some (.len,[x])
  | some (.array n _)=>some (.lenc n,[x])
  | some (.pointer p)=>match P.underlying p with
   | some (.array n _)=>some (.lenc n,[x])
   | _=>none
  | _=>none
 | .append,[s,x],t::t'::_=>match P.underlying t,P.underlying t' with
  | some (.slice e),some (.slice _)=>match P.info? e with
   | some i=>match i.zero with
    | some z=>if z.cells.size=i.size then some (.append i.size i.bytes,[s,x]) else none
    | none=>none
   | none=>none
  | some (.slice e),some .string=>match P.info? e with
   | some i=>match i.zero with
    | some z=>if z.cells.size=i.size∧i.size=1∧i.bytes=1 then some (.appstr,[s,x]) else none
    | none=>none
   | none=>none
  | _,_=>none
 | .copy,[d,x],t::t'::_=>match P.underlying t,P.underlying t' with
  | some (.slice e),some (.slice _)=>(P.info? e).map fun i=>(.copy i.size,[d,x])
  | _,_=>none
 | .min,[x,y],_=>some (.min,[x,y])
 | .max,[x,y],_=>some (.max,[x,y])
 | _,_,_=>none
def zDs (fn:Fn) (first caps:Array Operand):Option (AO×List Operand):=
 match fn with
 | .func f=>if first.size=0 then some (.mkfn f,caps.toList) else if first.size=1∧caps.size=0 then some (.mkbd f,first.toList) else none
 | _=>none
def qZa (P:Program) (t:TypeId) (n:Nat) (e:TypeId) (neg:Bool) (x y:Operand):Option (AO×List Operand):=
 match P.underlying e,P.info? e with
 | some (.int k),some i=>if i.size=1∧P.eqGuardType P.depth t=false then some (.aeq n k neg,[x,y]) else none
 | _,_=>none
def qZb (P:Program) (t:TypeId) (fs:Array Field) (neg:Bool) (x y:Operand):Option (AO×List Operand):=
 match fs.toList with
 | f::_=>match P.underlying f.type with
  | some (.int k)=>if qUi P k fs.toList 0=true∧P.eqGuardType P.depth t=false∧P.stoodInHeld t=false then some (.aeq fs.size k neg,[x,y]) else none
  | _=>none
 | []=>none
def zDt (P:Program):Op→Option (AO×List Operand)
 | .move x=>some (.mov,[x])
 | .assign x=>some (.mov,[x])
 | .pick c x y=>some (.pick,[c,x,y])
 | .alloc e=>qLi P e
 | .box e x=>match P.underlying e with
  | some (.array _ _)=>some (.boxArr,[x])
  | some _=>some (.box,[x])
  | none=>none
 | .build t ps=>qRe P t ps.toList
 | .buildSlice t len ps=>qMj P t len ps.toList
 | .load t x=>qI7 P t x
 | .store t x v=>(P.info? t).map fun i=>(.store i.size,[x,v])
 | .nilCheck x=>some (.nilchk,[x])
 | .binOp op t x y _=>match op,P.underlying t with
  | .eql,some .bool=>some (.beq false,[x,y])
  | .neq,some .bool=>some (.beq true,[x,y])
  | .eql,some (.slice _)=>some (.nileq false,[x,y])
  | .neq,some (.slice _)=>some (.nileq true,[x,y])
  | .eql,some (.array n e)=>qZa P t n e false x y
  | .neq,some (.array n e)=>qZa P t n e true x y
  | .eql,some (.struct fs)=>qZb P t fs false x y
  | .neq,some (.struct fs)=>qZb P t fs true x y
  | op,_=>some (.bin op,[x,y])
 | .unOp op _ x=>some (.un op,[x])
 | .convert s d x=>qQc P s d x
 | .makeFunc fn first caps=>zDs fn first caps
 | .makeSlice t l c=>zDr P t l c
 | .slice t x lo hi mx=>qRj P t x lo hi mx
 | .fieldAddr s x f=>qRf P s x f
 | .field s x f=>qRg P s x f
 | .indexAddr t x ix=>qRh P t x ix
 | .index t x ix=>qRi P t x ix
 | .extract x i=>some (.extract i,[x])
 | .call { callee:= .builtin b,args,argTypes }=>qQb P b args.toList argTypes.toList
 | _=>none
end Go.Eng
end
section
namespace Go.Eng
variable {cx:Cx} {β:Nat→Option BI} {F:Nat→Prop} {fm:Nat→Option V} {hm:Nat→Option Ob} {a:Act} {w:World}
def zNe (cx:Cx) (β:Nat→Option BI) (F:Nat→Prop) (fm:Nat→Option V) (hm:Nat→Option Ob) (a:Act) (w:World) (v:V) (W:Wr) (s:Sem Next):Prop:=
 ∃ n w' β' x,s.run cx.P w = .ok n w'∧(n = .value x∨n = .skip∧x=undef)∧Rel cx β' F fm (upd hm W) a w'∧qL β' F w' v x ∧ ∀ i bi,β i=some bi→β' i=some bi
theorem Out.o {v:V} {W:Wr} {s:Sem Value} (h:Out cx β F fm hm a w v W s):zNe cx β F fm hm a w v W (do pure (.value (←s))):=by
 obtain⟨x,w',β',h1,h2,h3,h4⟩:=h
 exact⟨.value x,w',β',x,by simp[h1],.inl rfl,h2,h3,h4⟩
theorem zGt:qL β F w (.tup []) undef:= .tup [] #[] rfl (by intro i c u hc;simp at hc)
theorem zT2.o {W:Wr} {s:Sem Unit} (h:zT2 cx β F fm hm a w W s):zNe cx β F fm hm a w (.tup []) W (do s;pure .skip):=by
 obtain⟨w',h1,h2⟩:=h
 exact⟨.skip,w',β,undef,by simp[h1],.inr ⟨rfl,rfl⟩,h2,zGt,fun _ _ h=>h⟩
variable {nb:Nat} {v:V} {W:Wr} {l:List Nat}
theorem zWw (R:Rel cx β F fm hm a w) {vs:List V} (hs:(qOm vs).run hm=some ((v,W),l)) {c x y:Value} (h : ∃ vc vx vy,vs=[vc,vx,vy]∧qL β F w vc c∧qL β F w vx x∧qL β F w vy y) :
  Out cx β F fm hm a w v W (do pure (if ←asBool c then x else y)):=by
 obtain⟨vc,vx,vy,rfl,h1,h2,h3⟩:=h
 unfold qOm at hs
 split at hs
 ·rename_i b p q heq
  simp only[List.cons.injEq,and_true] at heq
  obtain⟨rfl,rfl,rfl⟩:=heq
  obtain⟨h4,rfl⟩:=qB hs
  cases h4
  rw[h1.bool_inv]
  cases b
  ·exact Out.same R (by simp[asBool]) h3
  ·exact Out.same R (by simp[asBool]) h2
 ·cases hs
theorem zZ3 (R:Rel cx β F fm hm a w) {e:TypeId} {ao:AO} {xs:List Operand} (han:qLi cx.P e=some (ao,xs)) (hs:(sem ao [] nb).run hm=some ((v,W),l)) :
  Out cx β F fm hm a w v W (Instr.alloc e true (.tuple #[]))∧xs=[]:=by
 unfold qLi at han
 split at han
 ·rename_i d i hd hi
  split at han
  ·rename_i z hz
   split at han
   ·rename_i hone
    have h1' : ∀ u∈z.cells,u.oneCell'=true:=by
     unfold qFb at hone
     rw[Array.all_eq_true_iff_forall_mem] at hone
     exact hone
    have hrun : ∀ (p:Value) (w':World),((do pure (.pointer (some (←newVar e z))):Sem Value)).run cx.P w = .ok p w'→(Instr.alloc e true (.tuple #[])).run cx.P w = .ok p w':=by
     intro p w' h
     unfold Instr.alloc
     simp only[zeroValue,typeInfo,Sem.run_bind,run_program,Result.andThen_ok,hi,Sem.run_pure,hz]
     rw[←h];simp
    split at han
    ·
     simp only[Option.bind_eq_some_iff] at han
     obtain⟨cs,hcs,han⟩:=han
     split at han
     ·rename_i hmax
      cases han
      simp only[sem,qVg] at hs
      obtain⟨hnb,l',hr,rfl⟩:=vZ hs
      obtain⟨hr1,rfl⟩:=qB hr
      cases hr1
      obtain⟨hl,hg⟩:=qIf hcs
      have hlen:z.cells.size=cs.length:=by simpa using hl.symm
      have hH:jZ β F w cs 1 z.cells:=by
       intro j y hy
       have hj:j<z.cells.size:=by rw[hlen];exact (List.getElem?_eq_some_iff.1 hy).1
       have hr2:qL β F w y z.cells[j]:=kF (hg j z.cells[j] y (by simp[hj]) hy)
       have ho2:z.cells[j].oneCell'=true:=h1' _ (by simp)
       rw[hr2.one_cells ho2]
       refine⟨rfl,fun k q hq=>?_⟩
       cases k with
       | succ k=>simp at hq
       | zero=>simp at hq;subst hq;exact⟨z.cells[j],by simp[hj],hr2,ho2⟩
      have hal:=R.alloc (w':=w.alloc (.cells z.cells e)) (nb:=nb) hnb (c:=z.cells) (e:=e) (fz:=(0,0)) (wr:=true) (es:=cs) (full:=true) (sz:=1) (room:=cs.length) rfl rfl rfl rfl rfl (fun j=>⟨fun _=>by simp,by simp⟩)
       (by rw[hlen,Nat.mul_one]) (Nat.le_refl _) (by unfold maxLen;omega) (by simp) hH
      exact⟨⟨_,_,_,hrun _ _ (by simp[newVar,newRow]),hal.1,.ref nb 0 0 w.heap.size _ _ zA,hal.2⟩,rfl⟩
     ·cases han
    ·
     simp only[Option.map_eq_some_iff] at han
     obtain⟨zv,hzv,han⟩:=han
     cases han
     simp only[sem,qVg] at hs
     obtain⟨hnb,l',hr,rfl⟩:=vZ hs
     obtain⟨hr1,rfl⟩:=qB hr
     cases hr1
     obtain⟨hr2,hp⟩:=qHg (β:=β) (F:=F) (w:=w) hzv hone
     have hal:=R.alloc (w':=w.alloc (.cells z.cells e)) (nb:=nb) hnb (c:=z.cells) (e:=e) (fz:=(0,0)) (wr:=true) (es:=[zv]) (full:=true) (sz:=zv.cells.length) (room:=1) rfl rfl rfl rfl rfl (fun j=>⟨fun _=>by simp,by simp⟩)
      (by rw[hr2.cells.1,Nat.one_mul]) (by simp) (by decide) (by simp) (jZ.one hr2 hp)
     exact⟨⟨_,_,_,hrun _ _ (by simp[newVar,newRow]),hal.1,.ref nb 0 0 w.heap.size _ _ zA,hal.2⟩,rfl⟩
   ·cases han
  ·cases han
 ·cases han
theorem zZ1 (R:Rel cx β F fm hm a w) {e:TypeId} {x:Value} {vx:V} (h:qL β F w vx x) (hs:(qVe nb [vx]).run hm=some ((v,W),l)):Out cx β F fm hm a w v W (Instr.box e x):=by
 simp only[qVe] at hs
 obtain⟨hp,hs⟩:=qF hs
 obtain⟨hnb,l',hr,rfl⟩:=vZ hs
 obtain⟨hr1,rfl⟩:=qB hr
 cases hr1
 have hal:=R.alloc (w':=w.alloc (.cells x.cells e)) (nb:=nb) hnb (c:=x.cells) (e:=e) (fz:=(0,0)) (wr:=true) (es:=[vx]) (full:=true) (sz:=vx.cells.length) (room:=1) rfl rfl rfl rfl rfl (fun j=>⟨fun _=>by simp,by simp⟩)
  (by rw[h.cells.1,Nat.one_mul]) (by simp) (by decide) (by simp) (jZ.one h hp)
 exact⟨_,_,_,by simp[Instr.box,newVar,newRow],hal.1,.ref nb 0 0 w.heap.size _ _ zA,hal.2⟩
theorem zL3 (R:Rel cx β F fm hm a w) {e:TypeId} {x:Value} {vx:V} (h:qL β F w vx x) (hs:(qFe nb [vx]).run hm=some ((v,W),l)):Out cx β F fm hm a w v W (Instr.box e x):=by
 simp only[qFe] at hs
 obtain⟨⟨hp,hmax⟩,hs⟩:=qF hs
 obtain⟨hnb,l',hr,rfl⟩:=vZ hs
 obtain⟨hr1,rfl⟩:=qB hr
 cases hr1
 have hal:=R.alloc (w':=w.alloc (.cells x.cells e)) (nb:=nb) hnb (c:=x.cells) (e:=e) (fz:=(0,0)) (wr:=true) (es:=vx.cells) (full:=true) (sz:=1) (room:=vx.cells.length) rfl rfl rfl rfl rfl (fun j=>⟨fun _=>by simp,by simp⟩)
  (by rw[h.cells.1,Nat.mul_one]) (Nat.le_refl _) (by unfold maxLen;omega) (by simp) (jZ.cells h hp)
 exact⟨_,_,_,by simp[Instr.box,newVar,newRow],hal.1,.ref nb 0 0 w.heap.size _ _ zA,hal.2⟩
theorem qJj {ps:List (Nat×Operand)} {vs:List V} (h:wU (fun x v=>qL β F w v (a.eval x)) (ps.map (·.2)) vs) :
  wU (fun (p:Nat×Value) v=>qL β F w v p.2) (ps.map fun p=>(p.1,a.eval p.2)) vs:=by
 induction ps generalizing vs with
 | nil=>cases h;exact .nil
 | cons p ps ih=>
  simp only[List.map_cons] at h ⊢
  cases h with
  | cons h1 h2=>exact .cons h1 (ih h2)
theorem qMu {z:Array Value} {cs:List V} (hone:qFb z=true) (hcs:z.toList.mapM V.ofConst=some cs):qJ2 β F w cs z:=by
 have h1' : ∀ u∈z,u.oneCell'=true:=by
  unfold qFb at hone
  rw[Array.all_eq_true_iff_forall_mem] at hone
  exact hone
 obtain⟨hl,hg⟩:=qIf hcs
 exact⟨by simpa using hl.symm,h1',fun i y u hy hu=>kF (hg i u y (by simpa using hu) hy)⟩
theorem qJ2.mk {cs:List V} {c:Array Value} (h:qJ2 β F w cs c):qL β F w (V.mk cs) (.agg c):=qL.mk h.1 h.2.1 h.2.2
theorem qN9 {P:Program} {fs:Array Field} : ∀ {ps:List Nat} {pl:List (Nat×Nat)} {places:Array (Nat×Nat)},qSa P fs ps=some pl→
  (∀ (i:Nat) (f:Field) (j:TypeInfo),fs[i]?=some f→P.info? f.type=some j→places[i]?=some (f.offset,j.size))→ps.map (fun i=>places[i]?)=pl.map some
 | [],pl,places,h,_=>by simp[qSa] at h;subst h;rfl
 | i::ps,pl,places,h,hp=>by
  unfold qSa at h
  simp only[List.mapM_cons,Option.pure_def,Option.bind_eq_bind,Option.bind_eq_some_iff,Option.map_eq_some_iff] at h
  obtain⟨q,⟨f,hf,j,hj,rfl⟩,pl',hpl',h⟩:=h
  cases h
  have:=qN9 (places:=places) (P:=P) (fs:=fs) (ps:=ps) (pl:=pl') hpl' hp
  simp only[List.map_cons,hp i f j hf hj,this]
theorem zB0 {P:Program} {w:World} (fs:Array Field) (g:Field→Sem (Nat×Nat)) (hg : ∀ f j,P.info? f.type=some j→(g f).run P w = .ok (f.offset,j.size) w) :
  (∀ (f:Field),f∈fs → ∃ j,P.info? f.type=some j)→
  ∃ places:Array (Nat×Nat),(fs.mapM g).run P w = .ok places w∧
   ∀ (i:Nat) (f:Field) (j:TypeInfo),fs[i]?=some f→P.info? f.type=some j→places[i]?=some (f.offset,j.size):=by
 intro hall
 have key : ∀ (l:List Field),(∀ f∈l,∃ j,P.info? f.type=some j) → ∃ r:List (Nat×Nat),(l.mapM g).run P w = .ok r w∧
   ∀ (i:Nat) (f:Field) (j:TypeInfo),l[i]?=some f→P.info? f.type=some j→r[i]?=some (f.offset,j.size):=by
  intro l
  induction l with
  | nil=>intro _;exact⟨[],rfl,by intro i f j h;simp at h⟩
  | cons f l ih=>
   intro h
   obtain⟨j,hj⟩:=h f (by simp)
   obtain⟨r,h1,h2⟩:=ih (fun g hg=>h g (by simp[hg]))
   refine⟨(f.offset,j.size)::r,by simp[List.mapM_cons,hg f j hj,h1],fun i g k hg hk=>?_⟩
   cases i with
   | zero=>simp at hg;subst hg;rw[hj] at hk;cases hk;rfl
   | succ i=>simp at hg;simpa using h2 i g k hg hk
 obtain⟨r,h1,h2⟩:=key fs.toList (fun f hf=>hall f (by simpa using hf))
 refine⟨r.toArray,?_,fun i f j hf hj=>by simpa using h2 i f j (by simpa using hf) hj⟩
 rw[Array.mapM_eq_mapM_toList]
 simp[h1]
theorem zR1 (R:Rel cx β F fm hm a w) {t:TypeId} {ps:Array (Nat×Operand)} {ao:AO} {xs:List Operand} {vs:List V} (han:qRe cx.P t ps.toList=some (ao,xs))
  (hv:wU (fun x v=>qL β F w v (a.eval x)) xs vs) (hs:(sem ao vs nb).run hm=some ((v,W),l)):Out cx β F fm hm a w v W (Instr.build t (ps.map fun (i,x)=>(i,a.eval x))):=by
 have hpe:(ps.map fun (i,x)=>(i,a.eval x)).toList=ps.toList.map fun p=>(p.1,a.eval p.2):=by simp
 unfold qRe at han
 split at han
 ·rename_i fs z hd hz
  split at han
  ·rename_i hcond
   obtain⟨hone,hall⟩:=hcond
   simp only[Option.bind_eq_some_iff,Option.map_eq_some_iff] at han
   obtain⟨cs,hcs,pl,hpl,han⟩:=han
   cases han
   simp only[sem,qIn] at hs
   obtain⟨cs',hf,hs⟩:=qC hs
   obtain⟨hr,rfl⟩:=qB hs
   cases hr
   rw[Option.bind_eq_some_iff] at hz
   obtain⟨i,hi,hz⟩:=hz
   obtain⟨places,hp1,hp2⟩:=zB0 (P:=cx.P) (w:=w) fs (fun f=>(do pure (f.offset,←sizeOf f.type))) (fun f j hj=>by simp[jU hj]) (fun f hf=>by
    rw[Array.all_eq_true_iff_forall_mem] at hall
    exact Option.isSome_iff_exists.1 (hall f hf))
   have hmap:(ps.toList.map fun p=>(p.1,a.eval p.2)).map (fun p=>places[p.1]?)=pl.map some:=by
    rw[List.map_map,←qN9 (places:=places) hpl hp2,List.map_map];rfl
   obtain⟨c',h1,h2⟩:=qGv (fun i=>places[i]?) hmap (qJj hv) (qMu hone hcs) hf
   refine Out.same R ?_ h2.mk
   unfold Instr.build
   simp only[Sem.run_bind,zeroValue,typeInfo,run_program,Result.andThen_ok,hi,Sem.run_pure,hz,Value.cells,run_underlying hd,hp1]
   rw[hpe,h1]
   rfl
  ·cases han
 ·rename_i n e z hd hz
  split at han
  ·rename_i hone
   simp only[Option.bind_eq_some_iff,Option.map_eq_some_iff] at han
   obtain⟨cs,hcs,j,hj,han⟩:=han
   cases han
   simp only[sem,qIn] at hs
   obtain⟨cs',hf,hs⟩:=qC hs
   obtain⟨hr,rfl⟩:=qB hs
   cases hr
   rw[Option.bind_eq_some_iff] at hz
   obtain⟨i,hi,hz⟩:=hz
   have hmap:(ps.toList.map fun p=>(p.1,a.eval p.2)).map (fun p=>some (p.1*j.size,j.size))=(ps.toList.map fun p=>(p.1*j.size,j.size)).map some:=by
    rw[List.map_map,List.map_map];rfl
   obtain⟨c',h1,h2⟩:=qGv (fun i=>some (i*j.size,j.size)) hmap (qJj hv) (qMu hone hcs) hf
   refine Out.same R ?_ h2.mk
   unfold Instr.build
   simp only[Sem.run_bind,zeroValue,typeInfo,run_program,Result.andThen_ok,hi,Sem.run_pure,hz,Value.cells,run_underlying hd,jU hj]
   rw[hpe,h1]
   rfl
  ·cases han
 ·cases han
theorem zL4 (R:Rel cx β F fm hm a w) {t:TypeId} {len:Nat} {ps:Array (Nat×Operand)} {ao:AO} {xs:List Operand} {vs:List V} (han:qMj cx.P t len ps.toList=some (ao,xs))
  (hv:wU (fun x v=>qL β F w v (a.eval x)) xs vs) (hs:(sem ao vs nb).run hm=some ((v,W),l)):Out cx β F fm hm a w v W (Instr.buildSlice t len (ps.map fun (i,x)=>(i,a.eval x))):=by
 have hpe:(ps.map fun (i,x)=>(i,a.eval x)).toList=ps.toList.map fun p=>(p.1,a.eval p.2):=by simp
 unfold qMj at han
 split at han
 ·rename_i e hd
  split at han
  ·rename_i i d hi he
   split at han
   ·rename_i z hz
    split at han
    ·rename_i hone
     simp only[Option.bind_eq_some_iff] at han
     obtain⟨zv,hzv,han⟩:=han
     split at han
     ·rename_i hcond
      obtain⟨hsz,hpos,h24⟩:=hcond
      cases han
      simp only[sem,qIm] at hs
      obtain⟨es,hf,hs⟩:=qC hs
      obtain⟨hnb,l',hr,rfl⟩:=vZ hs
      obtain⟨hr1,rfl⟩:=qB hr
      cases hr1
      obtain⟨hr2,hp⟩:=qHg (β:=β) (F:=F) (w:=w) hzv hone
      have hzsz:z.cells.size=i.size:=by rw[hr2.cells.1,hsz]
      have hH0:jZ β F w (List.replicate len zv) i.size (madeCells z.cells (len*i.size)):=by
       rw[←hsz];exact qE8 hr2 hp (Nat.le_refl _)
      obtain⟨c',h1,h2,h3,h4⟩:=qNs (z:=i.size) (len:=len) (ps:=ps.toList.map fun p=>(p.1,a.eval p.2)) (ix:=ps.toList.map (·.1)) (by rw[List.map_map];rfl) (qJj hv)
       (by simp) (size_madeCells _ _) hH0 hf
      have hal:=R.alloc (w':=w.alloc (.cells c' e)) (nb:=nb) hnb (c:=c') (e:=e) (fz:=(0,0)) (wr:=true) (es:=es) (full:=true) (sz:=i.size) (room:=len) rfl rfl rfl rfl rfl (fun j=>⟨fun _=>by simp,by simp⟩)
       h2 (by omega) (by
        have:len≤len*i.size:=Nat.le_mul_of_pos_right len hpos
        unfold maxLen;omega) (by simp[h3]) h4
      refine⟨.slice (some ⟨w.heap.size,0,none⟩) len len,_,_,?_,hal.1,?_,hal.2⟩
      ·unfold Instr.buildSlice
       simp only[Sem.run_bind,run_underlying hd,Result.andThen_ok,jU hi]
       rw[if_neg (by omega)]
       by_cases h0:len*i.size=0
       ·simp only[h0,if_true,Sem.run_bind,Sem.run_pure,Result.andThen_ok]
        have hmk:madeCells z.cells (len*i.size)=(Array.range 0).map fun x=>(#[]:Array Value)[x%(#[]:Array Value).size]! := by
         rw[h0];simp[madeCells]
        rw[hmk] at h1
        rw[hpe,h1]
        simp[newRow]
       ·rw[if_neg h0]
        simp only[Sem.run_bind,zeroValue,typeInfo,run_program,Result.andThen_ok,hi,Sem.run_pure,hz]
        unfold madeCells at h1
        rw[hpe,h1]
        simp[newRow]
      ·have:=qL.sl (β:=qO6 β nb ⟨some w.heap.size,i.size,len⟩) (F:=F) (w:=w.alloc (.cells c' e)) nb 0 len len w.heap.size i.size len ⟨w.heap.size,0,none⟩ zA (by omega) (by omega) (fun _=>by simp) rfl
       simpa using this
     ·cases han
    ·cases han
   ·cases han
  ·cases han
 ·cases han
end Go.Eng
end
section
namespace Go.Eng
variable {cx:Cx} {β:Nat→Option BI} {F:Nat→Prop} {fm:Nat→Option V} {hm:Nat→Option Ob} {a:Act} {w:World}
variable {nb:Nat} {v:V} {W:Wr} {l:List Nat}
theorem jF {α γ:Type} {R:α→γ→Prop} {x:α} {ys:List γ} (h:wU R [x] ys) : ∃ y,ys=[y]∧R x y:=by
 cases h with | cons h1 h2=>cases h2;exact⟨_,rfl,h1⟩
theorem jC {α γ:Type} {R:α→γ→Prop} {x y:α} {ys:List γ} (h:wU R [x,y] ys) : ∃ p q,ys=[p,q]∧R x p∧R y q:=by
 cases h with | cons h1 h2=>obtain⟨q,rfl,h3⟩:=jF h2;exact⟨_,q,rfl,h1,h3⟩
theorem qQa {α γ:Type} {R:α→γ→Prop} {x y z:α} {ys:List γ} (h:wU R [x,y,z] ys) : ∃ p q r,ys=[p,q,r]∧R x p∧R y q∧R z r:=by
 cases h with | cons h1 h2=>obtain⟨q,r,rfl,h3,h4⟩:=jC h2;exact⟨_,q,r,rfl,h1,h3,h4⟩
theorem zG1 (R:Rel cx β F fm hm a w) {t:TypeId} {x:Operand} {ao:AO} {xs:List Operand} {vs:List V} (han:qI7 cx.P t x=some (ao,xs))
  (hv:wU (fun x v=>qL β F w v (a.eval x)) xs vs) (hs:(sem ao vs nb).run hm=some ((v,W),l)):W=[]∧zDg cx.P β F w v (Instr.loadAt t (a.eval x)):=by
 unfold qI7 at han
 split at han
 ·rename_i i d hi hd
  split at han
  ·rename_i hcond
   cases han
   have h1:yI d=false→i.size=1:=fun h=>by rcases hcond with h' | h';(rw[h] at h';cases h');(exact h')
   obtain⟨p,rfl,hp⟩:=jF hv
   simp only[sem,qJm] at hs
   split at hs
   ·rename_i id j f heq
    cases heq
    obtain⟨o,l',ho,hs2,_⟩:=yF hs
    cases o with
    | live z es wr full=>
     obtain⟨y,hy,hs3⟩:=qC hs2
     split at hs3
     ·rename_i hle
      obtain⟨u,hu,hs4⟩:=qC hs3
      obtain⟨hr,_⟩:=qB hs4
      cases hr
      exact⟨rfl,qU1 R hi hd h1 hp ho hy hle hu⟩
     ·obtain⟨⟨rfl,hg,hone,hle⟩,hs4⟩:=qF hs3
      obtain⟨hr,_⟩:=qB hs4
      cases hr
      exact⟨rfl,qU0 R hi hd hg hp ho hy hone hle⟩
    | dead=>cases hs2
   ·rename_i cs heq
    cases heq
    obtain⟨hle,hs⟩:=qF hs
    split at hs
    ·rename_i hg
     obtain⟨hr,rfl⟩:=qB hs
     cases hr
     exact⟨rfl,qN6 R hi hd h1 hp hle (by rw[if_pos hg])⟩
    ·rename_i hg
     obtain⟨y,hy,hs⟩:=qC hs
     obtain⟨hr,rfl⟩:=qB hs
     cases hr
     exact⟨rfl,qN6 R hi hd h1 hp hle (by rw[if_neg hg];exact⟨y,hy,rfl⟩)⟩
   ·cases hs
  ·cases han
 ·cases han
theorem zWu (R:Rel cx β F fm hm a w) {t:TypeId} {x:Operand} {ao:AO} {xs:List Operand} {vs:List V} (han:qI7 cx.P t x=some (ao,xs))
  (hv:wU (fun x v=>qL β F w v (a.eval x)) xs vs) (hs:(sem ao vs nb).run hm=some ((v,W),l)):Out cx β F fm hm a w v W (Instr.loadAt t (a.eval x)):=by
 obtain⟨rfl,h⟩:=zG1 R han hv hs
 exact h.out R
theorem zSa (R:Rel cx β F fm hm a w) {t:TypeId} {i:TypeInfo} (hi:cx.P.info? t=some i) {p q:Value} {vp vq:V} (hp:qL β F w vp p) (hq:qL β F w vq q)
  (hs:(qIr i.size [vp,vq]).run hm=some ((v,W),l)):zT2 cx β F fm hm a w W (Instr.storeAt t p q)∧v = .tup []:=by
 simp only[qIr] at hs
 split at hs
 ·rename_i id j f u heq
  cases heq
  obtain⟨o,l',ho,hs2,_⟩:=yF hs
  cases o with
  | dead=>cases hs2
  | live z es wr full=>
   cases wr with
   | false=>cases hs2
   | true=>
    obtain⟨y,hy,hs3⟩:=qC hs2
    obtain⟨⟨hn,hpl⟩,hs4⟩:=qF hs3
    split at hs4
    ·rename_i hc
     obtain⟨rfl,hyl⟩:=hc
     obtain⟨hr,_⟩:=qB hs4
     cases hr
     refine⟨qGc R hi hp ho hy hq hpl hn (by omega) (y':=vq) ?_,rfl⟩
     unfold zT
     rw[List.take_zero,List.nil_append,List.drop_eq_nil_of_le (by omega),List.append_nil]
    ·split at hs4
     ·rename_i hle
      obtain⟨hr,_⟩:=qB hs4
      cases hr
      exact⟨qGc R hi hp ho hy hq hpl hn hle (V.cells_mk _),rfl⟩
     ·obtain⟨⟨rfl,hone,hle⟩,hs5⟩:=qF hs4
      obtain⟨hr,_⟩:=qB hs5
      cases hr
      exact⟨qR6 R hi hp ho hy hq hpl hn hone hle,rfl⟩
 ·cases hs
def zA1 (x:Option Value) (q:Option Int):Prop:=(x=none∧q=none) ∨ ∃ k n,x=some (.int k n)∧q=some n
def zOt (x:Option Value) (n:Int):Prop:=(x=none∧n=0) ∨ ∃ k,x=some (.int k n)
theorem qCu {lo hi mx:Option Operand} {vs:List V} {b:Int×Option Int×Option Int} (h:qA6 lo.isSome hi.isSome mx.isSome vs=some b)
  (hv:wU (fun x v=>qL β F w v (a.eval x)) (lo.toList++hi.toList++mx.toList) vs) :
  zOt (lo.map a.eval) b.1∧zA1 (hi.map a.eval) b.2.1∧zA1 (mx.map a.eval) b.2.2∧(b.2.1=none→b.2.2=none):=by
 have ig : ∀ {v:V} {x:Value} {n:Int},qL β F w v x→yL v=some n → ∃ k,x = .int k n:=fun h1 h2=>h1.intArg_inv h2
 cases lo with
 | none=>
  cases hi with
  | none=>
   cases mx with
   | none=>cases hv;simp[qA6] at h;subst h;exact⟨.inl ⟨rfl,rfl⟩,.inl ⟨rfl,rfl⟩,.inl ⟨rfl,rfl⟩,fun _=>rfl⟩
   | some c=>obtain⟨p,rfl,hp⟩:=jF hv;simp[qA6] at h
  | some hi=>
   cases mx with
   | none=>
    obtain⟨p,rfl,hp⟩:=jF hv
    simp only[qA6,Option.isSome,Option.map_eq_some_iff] at h
    obtain⟨n,hn,rfl⟩:=h
    obtain⟨k,hk⟩:=ig hp hn
    exact⟨.inl ⟨rfl,rfl⟩,.inr ⟨k,n,by simp[hk],rfl⟩,.inl ⟨rfl,rfl⟩,fun h=>by cases h⟩
   | some mx=>
    obtain⟨p,q,rfl,hp,hq⟩:=jC hv
    simp only[qA6,Option.isSome,Option.bind_eq_some_iff,Option.map_eq_some_iff] at h
    obtain⟨n,hn,m,hm',rfl⟩:=h
    obtain⟨k,hk⟩:=ig hp hn
    obtain⟨k2,hk2⟩:=ig hq hm'
    exact⟨.inl ⟨rfl,rfl⟩,.inr ⟨k,n,by simp[hk],rfl⟩,.inr ⟨k2,m,by simp[hk2],rfl⟩,fun h=>by cases h⟩
 | some lo=>
  cases hi with
  | none=>
   cases mx with
   | none=>
    obtain⟨p,rfl,hp⟩:=jF hv
    simp only[qA6,Option.isSome,Option.map_eq_some_iff] at h
    obtain⟨n,hn,rfl⟩:=h
    obtain⟨k,hk⟩:=ig hp hn
    exact⟨.inr ⟨k,by simp[hk]⟩,.inl ⟨rfl,rfl⟩,.inl ⟨rfl,rfl⟩,fun _=>rfl⟩
   | some c=>obtain⟨p,q,rfl,hp,hq⟩:=jC hv;simp[qA6] at h
  | some hi=>
   cases mx with
   | none=>
    obtain⟨p,q,rfl,hp,hq⟩:=jC hv
    simp only[qA6,Option.isSome,Option.bind_eq_some_iff,Option.map_eq_some_iff] at h
    obtain⟨n,hn,m,hm',rfl⟩:=h
    obtain⟨k,hk⟩:=ig hp hn
    obtain⟨k2,hk2⟩:=ig hq hm'
    exact⟨.inr ⟨k,by simp[hk]⟩,.inr ⟨k2,m,by simp[hk2],rfl⟩,.inl ⟨rfl,rfl⟩,fun h=>by cases h⟩
   | some mx=>
    obtain⟨p,q,r,rfl,hp,hq,hr⟩:=qQa hv
    simp only[qA6,Option.isSome,Option.bind_eq_some_iff,Option.map_eq_some_iff] at h
    obtain⟨n,hn,m,hm',x,hx,rfl⟩:=h
    obtain⟨k,hk⟩:=ig hp hn
    obtain⟨k2,hk2⟩:=ig hq hm'
    obtain⟨k3,hk3⟩:=ig hr hx
    exact⟨.inr ⟨k,by simp[hk]⟩,.inr ⟨k2,m,by simp[hk2],rfl⟩,.inr ⟨k3,x,by simp[hk3],rfl⟩,fun h=>by cases h⟩
theorem qBi {P:Program} {isS:Bool} {len cap:Nat} {low high max:Option Value} {l:Int} {hq mq:Option Int} (h1:zOt low l) (h2:zA1 high hq) (h3:zA1 max mq) (h4:hq=none→mq=none)
  (h0:0≤l) (hl:l≤hq.getD len) (hh:hq.getD len≤mq.getD cap) (hmm:mq.getD cap≤cap) (hc:len≤cap) :
  (Instr.sliceBounds isS len cap low high max).run P w = .ok (l.toNat,(hq.getD len).toNat,(mq.getD cap).toNat) w:=by
 have e0 : ∀ {n:Int},0≤n→((n.toNat:Nat):Int)=n:=fun h=>Int.toNat_of_nonneg h
 rcases h3 with⟨rfl,rfl⟩ | ⟨km,m,rfl,rfl⟩
 ·rcases h2 with⟨rfl,rfl⟩ | ⟨kh,h,rfl,rfl⟩
  ·simp only[Option.getD_none] at *
   rcases h1 with⟨rfl,rfl⟩ | ⟨kl,rfl⟩
   ·simp[Instr.sliceBounds]
   ·simp[Instr.sliceBounds,run_sliceBound w kl l len _ h0 hl]
  ·simp only[Option.getD_none,Option.getD_some] at *
   have hn:0≤h:=by omega
   rcases h1 with⟨rfl,rfl⟩ | ⟨kl,rfl⟩
   ·simp[Instr.sliceBounds,run_sliceBound w kh h cap _ hn hh]
   ·simp[Instr.sliceBounds,run_sliceBound w kh h cap _ hn hh,run_sliceBound w kl l h.toNat _ h0 (by rw[e0 hn];exact hl)]
 ·rcases h2 with⟨rfl,rfl⟩ | ⟨kh,h,rfl,rfl⟩
  ·cases h4 rfl
  ·simp only[Option.getD_some] at *
   have hn:0≤h:=by omega
   have hmn:0≤m:=by omega
   rcases h1 with⟨rfl,rfl⟩ | ⟨kl,rfl⟩
   ·simp[Instr.sliceBounds,run_sliceBound w km m cap _ hmn hmm,run_sliceBound w kh h m.toNat _ hn (by rw[e0 hmn];exact hh)]
   ·simp[Instr.sliceBounds,run_sliceBound w km m cap _ hmn hmm,run_sliceBound w kh h m.toNat _ hn (by rw[e0 hmn];exact hh),run_sliceBound w kl l h.toNat _ h0 (by rw[e0 hn];exact hl)]
theorem qC5 {n:Nat} {b:Int×Option Int×Option Int} {p:Nat×Nat} (h:qK0 n b=some p) :
  0≤b.1∧b.1≤b.2.1.getD n∧b.2.1.getD n≤n∧(∀ x,b.2.2=some x→b.2.1.getD n≤x∧x≤n)∧p.1=b.1.toNat∧p.2=(b.2.1.getD n).toNat:=by
 obtain⟨x,y,z⟩:=b
 simp only[qK0] at h
 split at h
 ·rename_i hc
  cases h
  exact⟨hc.1,hc.2.1,hc.2.2.1,hc.2.2.2,rfl,rfl⟩
 ·cases h
theorem Rep.sub {es:List T} {ad:Addr} {cap sz:Nat} {news:List Value} (ha:es≠[]→ad.spot=none) (hc:es.length≤cap) (hn:news.length=es.length*sz) (h1 : ∀ u∈news,u.oneCell'=true)
  (hF:es≠[]→F ad.block) (hw : ∀ j u,news[j]?=some u→w.cell? (ad.add j)=some u) (hz : ∀ e∈es,e.cells.length=sz)
  (h : ∀ (i:Nat) (e:T) (j:Nat) (c:T) (u:Value),es[i]?=some e→e.cells[j]?=some c→news[i*sz+j]?=some u→Rep F w c u)
  {lo hi mx:Nat} (hlh:lo≤hi) (hhl:hi≤es.length) (hm1:hi≤mx) (ad':Addr) (had:lo<mx→ad'=ad.add (lo*sz)) (hsp:lo<hi→ad'.spot=none) :
  Rep F w (.sl ((es.drop lo).take (hi-lo))) (.slice (some ad') (hi-lo) (mx-lo)):=by
 have hl:((es.drop lo).take (hi-lo)).length=hi-lo:=by simp;omega
 have key:=Rep.sl (F:=F) (w:=w) ((es.drop lo).take (hi-lo)) ad' (mx-lo) sz ((news.drop (lo*sz)).take ((hi-lo)*sz)) (fun hne=>hsp (Nat.lt_of_not_le fun hge=>hne (List.eq_nil_of_length_eq_zero (by rw[hl];omega)))) (by rw[hl];omega)
  (by
   rw[hl]
   have:hi*sz≤es.length*sz:=Nat.mul_le_mul_right sz hhl
   have e2:hi*sz=lo*sz+(hi-lo)*sz:=by rw[←Nat.add_mul];congr 1;omega
   simp;omega)
  (fun u hu=>h1 u (List.mem_of_mem_drop (List.mem_of_mem_take hu)))
  (fun hne=>by
   have:lo<hi:=by
    rcases Nat.lt_or_ge lo hi with h | h
    ·exact h
    ·exact absurd (List.eq_nil_of_length_eq_zero (by rw[hl];omega)) hne
   rw[had (by omega),qA3]
   exact hF (by intro e;subst e;simp at hhl;omega))
  (fun j u hj=>by
   simp only[List.getElem?_take,List.getElem?_drop] at hj
   split at hj
   ·rename_i hlt
    have hpos:lo<hi:=by
     rcases Nat.lt_or_ge lo hi with h | h
     ·exact h
     ·have:hi-lo=0:=by omega
      rw[this] at hlt;simp at hlt
    rw[had (by omega),Addr.add_add]
    exact hw _ u hj
   ·cases hj)
  (fun e he=>hz e (List.mem_of_mem_drop (List.mem_of_mem_take he)))
  (fun i e j c u he hc hu=>by
   have he':es[lo+i]?=some e:=by
    simp only[List.getElem?_take,List.getElem?_drop] at he
    split at he
    ·exact he
    ·cases he
   simp only[List.getElem?_take,List.getElem?_drop] at hu
   split at hu
   ·refine h (lo+i) e j c u he' hc ?_
    rw[←hu];congr 1;rw[Nat.add_mul];omega
   ·cases hu)
 rw[hl] at key
 exact key
theorem qDs {P:Program} {t e:TypeId} {i:TypeInfo} (hd:P.underlying t=some (.slice e)) (hi:P.info? e=some i) {base:Option Addr} {len cap:Nat} {low high max:Option Value} {l:Int} {hq mq:Option Int}
  (h1:zOt low l) (h2:zA1 high hq) (h3:zA1 max mq) (h4:hq=none→mq=none)
  (h0:0≤l) (hl:l≤hq.getD len) (hh:hq.getD len≤mq.getD cap) (hmm:mq.getD cap≤cap) (hc:len≤cap) :
  (Instr.sliceAt t (.slice base len cap) low high max).run P w =
   .ok (.slice (if (mq.getD cap).toNat=l.toNat then base else base.map (·.add (l.toNat*i.size))) ((hq.getD len).toNat-l.toNat) ((mq.getD cap).toNat-l.toNat)) w:=by
 have hb:=qBi (w:=w) (P:=P) (isS:=true) h1 h2 h3 h4 h0 hl hh hmm hc
 simp[Instr.sliceAt,Instr.slice,run_underlying hd,hb,jU hi]
theorem zR9 (R:Rel cx β F fm hm a w) {t:TypeId} {x:Operand} {lo hi mx:Option Operand} {ao:AO} {xs:List Operand} {vs:List V} (han:qRj cx.P t x lo hi mx=some (ao,xs))
  (hv:wU (fun x v=>qL β F w v (a.eval x)) xs vs) (hs:(sem ao vs nb).run hm=some ((v,W),l)) :
  Out cx β F fm hm a w v W (Instr.sliceAt t (a.eval x) (lo.map a.eval) (hi.map a.eval) (mx.map a.eval)):=by
 unfold qRj at han
 split at han
 ·
  rename_i hd
  cases han
  cases hv with
  | cons hx hb=>
   simp only[sem] at hs
   unfold qIq at hs
   split at hs
   ·rename_i s bs heq
    cases heq
    obtain⟨b,hbd,hs⟩:=qC hs
    obtain⟨g1,g2,g3,g4⟩:=qCu hbd hb
    obtain⟨p,hp,hs⟩:=qC hs
    obtain⟨hm0,hs⟩:=qF hs
    obtain⟨hr,rfl⟩:=qB hs
    cases hr
    obtain⟨k0,k1,k2,k3,k4,k5⟩:=qC5 hp
    rw[hx.str_inv]
    rw[hm0] at g3
    have hmn:mx.map a.eval=none:=by
     rcases g3 with⟨h,_⟩ | ⟨_,_,_,h⟩
     ·exact h
     ·cases h
    refine Out.same R ?_ (.t (.str _))
    have hb2:=qBi (w:=w) (P:=cx.P) (isS:=false) (len:=s.size) (cap:=s.size) g1 g2 (.inl ⟨rfl,rfl⟩) (fun _=>rfl) k0 k1 (by simpa using k2) (by simp) (Nat.le_refl _)
    rw[hmn]
    simp only[Instr.sliceAt,Instr.slice,Sem.run_bind,run_underlying hd,Result.andThen_ok,Option.isSome,Bool.false_eq_true,if_false,hb2,Sem.run_pure,k4,k5]
   ·cases hs
 ·
  rename_i e hd
  simp only[Option.map_eq_some_iff] at han
  obtain⟨i,hi',han⟩:=han
  cases han
  cases hv with
  | cons hx hb=>
   simp only[sem] at hs
   unfold qL0 at hs
   split at hs
   ·
    rename_i es bs heq
    cases heq
    obtain⟨b,hbd,hs⟩:=qC hs
    obtain⟨g1,g2,g3,g4⟩:=qCu hbd hb
    obtain⟨p,hp,hs⟩:=qC hs
    obtain⟨hz,hs⟩:=qF hs
    obtain⟨hr,rfl⟩:=qB hs
    cases hr
    obtain⟨k0,k1,k2,k3,k4,k5⟩:=qC5 hp
    cases hx with
    | t hx=>
     cases hxe:a.eval x with
     | slice base len cap=>
      rw[hxe] at hx
      have hmq:b.2.1.getD (len:Int)≤b.2.2.getD (cap:Int)∧b.2.2.getD (cap:Int)≤cap∧len=es.length∧len≤cap:=by
       have hlc:len=es.length∧len≤cap:=by cases hx with
        | nil=>exact⟨rfl,Nat.le_refl _⟩
        | sl _ ad _ sz news ha hc hn h1 hF hw hzz hrr=>exact⟨rfl,hc⟩
       obtain⟨rfl,hlc⟩:=hlc
       cases hq:b.2.2 with
       | none=>simp only[Option.getD_none];exact⟨by omega,by omega,trivial,hlc⟩
       | some m=>have:=k3 m hq;simp only[Option.getD_some];exact⟨this.1,by omega,trivial,hlc⟩
      obtain⟨q1,q2,q3,q4⟩:=hmq
      subst q3
      have hrun:=qDs (w:=w) hd hi' (base:=base) (len:=es.length) (cap:=cap) g1 g2 g3 g4 k0 k1 q1 q2 q4
      refine Out.same R hrun (.t ?_)
      rw[←k4,←k5]
      have hp12:p.1≤p.2:=by rw[k4,k5];omega
      have hp2:p.2≤es.length:=by rw[k5];omega
      cases hx with
      | nil=>
       have e1:p.2=0:=by simpa using hp2
       have e2:p.1=0:=by omega
       have e3:(b.2.2.getD ((0:Nat):Int)).toNat=0:=by omega
       simp only[e1,e2,e3,List.drop_nil,List.take_nil,if_true]
       exact .nil
      | sl _ ad _ sz news ha hc hn h1 hF hw hzz hrr=>
       have hszi:es≠[]→sz=i.size:=by
        intro hne
        cases es with
        | nil=>exact absurd rfl hne
        | cons e0 r=>rw[←hzz e0 (by simp),zNa hz (by simp)]
       have hsub:=Rep.sub (F:=F) (w:=w) ha hc hn h1 hF hw hzz hrr (lo:=p.1) (hi:=p.2) (mx:=(b.2.2.getD (cap:Int)).toNat) hp12 hp2 (by rw[k5];omega)
        (if (b.2.2.getD (cap:Int)).toNat=p.1 then ad else ad.add (p.1*i.size))
        (by
         intro hlt
         rw[if_neg (by omega)]
         by_cases hes:es=[]
         ·subst hes
          have:p.1=0:=by simp at hp2;omega
          rw[this];simp
         ·rw[hszi hes])
        (by
         intro hlt
         have hes:es≠[]:=by intro e;subst e;simp at hp2;omega
         split;exact ha hes;unfold Addr.add;split;exact ha hes;rfl)
       have hif:(if (b.2.2.getD (cap:Int)).toNat=p.1 then some ad else (some ad).map (·.add (p.1*i.size)))=some (if (b.2.2.getD (cap:Int)).toNat=p.1 then ad else ad.add (p.1*i.size)):=by
        split<;>rfl
       rw[hif]
       exact hsub
     | _=>rw[hxe] at hx;cases hx
   ·
    rename_i id off len bs heq
    cases heq
    obtain⟨b,hbd,hs⟩:=qC hs
    obtain⟨g1,g2,g3,g4⟩:=qCu hbd hb
    obtain⟨p,hp,hs⟩:=qC hs
    obtain⟨o,l',ho,hs2,_⟩:=yF hs
    obtain⟨k0,k1,k2,k3,k4,k5⟩:=qC5 hp
    cases o with
    | dead=>cases hs2
    | live z' es wr full=>
     obtain⟨rfl,hs3⟩:=qF hs2
     obtain⟨hr,_⟩:=qB hs3
     cases hr
     have hp12:p.1≤p.2:=by rw[k4,k5];omega
     have hp2:p.2≤len:=by rw[k5];omega
     cases hxe:a.eval x with
     | slice base len' cap=>
      rw[hxe] at hx
      cases hx with
      | slv _ sz room hb'=>
       have hM0:b.2.2.getD ((0:Nat):Int)=0:=by
        cases hq:b.2.2 with
        | none=>rfl
        | some x=>
         have:=k3 x hq
         have h9:=this.1
         have h8:=this.2
         have h7:(0:Int)≤b.2.1.getD ((0:Nat):Int):=Int.le_trans k0 k1
         have h6:(0:Int)≤x:=Int.le_trans h7 h9
         have h5:x≤0:=by simpa using h8
         exact Int.le_antisymm h5 h6
       have hrun:=qDs (w:=w) hd hi' (base:=none) (len:=0) (cap:=0) g1 g2 g3 g4 k0 k1 (by rw[hM0];simpa using k2) (by rw[hM0];simp) (Nat.le_refl _)
       have e1:p.2=0:=by simpa using hp2
       have e2:p.1=0:=by omega
       refine Out.same R hrun ?_
       rw[←k4,←k5,e1,e2,hM0]
       exact .slv id sz room hb'
      | sl _ _ _ scap bk sz room ad hb' hlc hrm had hsp=>
       obtain⟨c,ce,fz,h2,h3,h4,h5,h6,h7,h8,h9⟩:=R.obj ho hb' rfl
       simp only at h9
       subst h9
       have hM:b.2.1.getD len≤b.2.2.getD (cap:Int)∧b.2.2.getD (cap:Int)≤cap:=by
        cases hq:b.2.2 with
        | none=>simp only[Option.getD_none];omega
        | some x=>
         have:=k3 x hq
         simp only[Option.getD_some];omega
       have hrun:=qDs (w:=w) hd hi' (base:=some ad) (len:=len) (cap:=cap) g1 g2 g3 g4 k0 k1 hM.1 hM.2 hlc
       refine Out.same R hrun ?_
       rw[←k4,←k5]
       generalize hMe:(b.2.2.getD (cap:Int)).toNat=M
       have hM2:p.2≤M∧M≤cap:=by rw[←hMe,k5];omega
       have hif:(if M=p.1 then some ad else (some ad).map (·.add (p.1*i.size)))=some (if M=p.1 then ad else ad.add (p.1*i.size)):=by split<;>rfl
       rw[hif]
       exact qL.sl (β:=β) (F:=F) (w:=w) id (off+p.1) (p.2-p.1) (M-p.1) bk i.size room (if M=p.1 then ad else ad.add (p.1*i.size)) hb' (by omega) (by omega)
        (by
         intro hlt
         rw[if_neg (by omega),had (by omega),Addr.add_lit,Nat.add_mul])
        (by split;exact hsp;unfold Addr.add;split;exact hsp;rfl)
     | _=>rw[hxe] at hx;cases hx
   ·
    rename_i bs heq
    cases heq
    obtain⟨b,hbd,hs⟩:=qC hs
    obtain⟨g1,g2,g3,g4⟩:=qCu hbd hb
    obtain⟨p,hp,hs⟩:=qC hs
    obtain⟨hr,rfl⟩:=qB hs
    cases hr
    obtain⟨k0,k1,k2,k3,k4,k5⟩:=qC5 hp
    have hxe:a.eval x = .slice none 0 0:=by
     generalize a.eval x=q at hx
     cases hx;rfl
    rw[hxe]
    have hmq:b.2.1.getD ((0:Nat):Int)≤b.2.2.getD ((0:Nat):Int)∧b.2.2.getD ((0:Nat):Int)≤((0:Nat):Int):=by
     cases hq:b.2.2 with
     | none=>simp only[Option.getD_none];exact⟨k2,Int.le_refl _⟩
     | some m=>have:=k3 m hq;simp only[Option.getD_some];exact⟨this.1,this.2⟩
    have hrun:=qDs (w:=w) hd hi' (base:=none) (len:=0) (cap:=0) g1 g2 g3 g4 k0 k1 hmq.1 hmq.2 (Nat.le_refl _)
    refine Out.same R hrun ?_
    have e1:(b.2.1.getD ((0:Nat):Int)).toNat-b.1.toNat=0:=by omega
    have e2:(b.2.2.getD ((0:Nat):Int)).toNat-b.1.toNat=0:=by omega
    rw[e1,e2]
    simp only[Option.map_none,ite_self]
    exact .nil
   ·cases hs
 ·
  rename_i n e hd
  simp only[Option.map_eq_some_iff] at han
  obtain⟨i,hi',han⟩:=han
  cases han
  cases hv with
  | cons hx hb=>
   simp only[sem] at hs
   unfold qIl at hs
   split at hs
   ·rename_i id bs heq
    cases heq
    obtain⟨b,hbd,hs⟩:=qC hs
    obtain⟨g1,g2,g3,g4⟩:=qCu hbd hb
    obtain⟨p,hp,hs⟩:=qC hs
    obtain⟨o,l',ho,hs2,_⟩:=yF hs
    obtain⟨k0,k1,k2,k3,k4,k5⟩:=qC5 hp
    cases o with
    | dead=>cases hs2
    | live z' es wr full=>
     cases full with
     | false=>cases hs2
     | true=>
      obtain⟨⟨rfl,hle,hm0⟩,hs3⟩:=qF hs2
      obtain⟨hr,_⟩:=qB hs3
      cases hr
      have hp12:p.1≤p.2:=by rw[k4,k5];omega
      have hp2:p.2≤n:=by rw[k5];omega
      rw[hm0] at g3 g4
      cases hxe:a.eval x with
      | pointer ad=>
       rw[hxe] at hx
       cases hx with
       | ref _ _ _ bk sz room hb'=>
        obtain⟨c,ce,fz,h2,h3,h4,h5,h6,h7,h8,h9⟩:=R.obj ho hb' rfl
        simp only at h8 h9
        subst h9
        have hroom:=h8 trivial
        have hb2:=qBi (w:=w) (P:=cx.P) (isS:=false) (len:=n) (cap:=n) g1 g2 g3 (fun _=>rfl) k0 k1 (by simpa using k2) (by simp) (Nat.le_refl _)
        refine Out.same R (x:= .slice (some (if n=p.1 then ⟨bk,0*i.size+0,none⟩ else (⟨bk,0*i.size+0,none⟩:Addr).add (p.1*i.size))) (p.2-p.1) (n-p.1)) ?_ ?_
        ·simp only[Instr.sliceAt,Sem.run_bind,run_underlying hd,Result.andThen_ok,Instr.sureAddr,Sem.run_pure,hb2,jU hi',Option.getD_none,Int.toNat_natCast,←k4,←k5]
        ·have:=qL.sl (β:=β) (F:=F) (w:=w) id p.1 (p.2-p.1) (n-p.1) bk i.size room (if n=p.1 then ⟨bk,0*i.size+0,none⟩ else (⟨bk,0*i.size+0,none⟩:Addr).add (p.1*i.size)) hb' (by omega) (by omega)
          (by
           intro hlt
           rw[if_neg (by omega),Addr.add_lit]
           simp)
          (by split;rfl;unfold Addr.add;split<;>rfl)
         exact this
      | _=>rw[hxe] at hx;cases hx
   ·cases hs
 ·cases han
end Go.Eng
end
section
namespace Go.Eng
variable {cx:Cx} {β:Nat→Option BI} {F:Nat→Prop} {fm:Nat→Option V} {hm:Nat→Option Ob} {a:Act} {w:World}
variable {nb:Nat} {v:V} {W:Wr} {l:List Nat}
theorem zR5 (R:Rel cx β F fm hm a w) {s:TypeId} {x:Operand} {f:Nat} {ao:AO} {xs:List Operand} {vs:List V} (han:qRf cx.P s x f=some (ao,xs))
  (hv:wU (fun x v=>qL β F w v (a.eval x)) xs vs) (hs:(sem ao vs nb).run hm=some ((v,W),l)):Out cx β F fm hm a w v W (Instr.fieldAt s (a.eval x) f):=by
 unfold qRf at han
 split at han
 ·rename_i fs hd
  split at han
  ·rename_i fd hfd
   split at han
   ·rename_i i hi
    split at han
    ·cases han
    ·rename_i hsz
     cases han
     obtain⟨p,rfl,hp⟩:=jF hv
     have hrun : ∀ ad,(Instr.fieldAt s (.pointer (some ad)) f).run cx.P w = .ok (.pointer (some (ad.add fd.offset))) w:=by
      intro ad
      simp[Instr.fieldAt,run_underlying hd,hfd,Instr.sureAddr,fieldPlace,jU hi,hsz]
     simp only[sem] at hs
     unfold qLx at hs
     split at hs
     ·rename_i id j g heq
      cases heq
      obtain⟨hr,rfl⟩:=qB hs
      cases hr
      generalize a.eval x=q at hp
      cases hp with
      | ref _ _ _ b sz room hb=>
       refine Out.same R (hrun _) ?_
       rw[Addr.add_lit,Nat.add_assoc]
       exact .ref id j (g+fd.offset) b sz room hb
     ·rename_i cs heq
      cases heq
      obtain⟨hle,hs⟩:=qF hs
      obtain⟨hr,rfl⟩:=qB hs
      cases hr
      generalize a.eval x=q at hp
      cases hp with
      | ro _ ad news ha hn h1 hF hw h=>
       refine Out.same R (hrun _) (.ro _ _ (news.drop fd.offset) (by unfold Addr.add;split;exact ha;rfl) (by simp[hn]) (fun u hu=>h1 u (List.mem_of_mem_drop hu)) (by rw[qA3];exact hF)
        (fun j u hj=>by rw[Addr.add_add];exact hw _ u (by simpa using hj)) (fun j c u hc hu=>h _ c u (by simpa using hc) (by simpa using hu)))
     ·cases hs
   ·cases han
  ·cases han
 ·cases han
theorem qPl (R:Rel cx β F fm hm a w) {t e:TypeId} {i:TypeInfo} (hd:cx.P.underlying t=some (.slice e)) (hi:cx.P.info? e=some i) {p q:Value} {vp vq:V} (hp:qL β F w vp p) (hq:qL β F w vq q)
  (hs:(qIo i.size [vp,vq]).run hm=some ((v,W),l)):Out cx β F fm hm a w v W (Instr.indexAt t p q):=by
 have hrun : ∀ (ad:Addr) (len cap:Nat) (k:IntKind) (j:Int),0≤j→j<len→(Instr.indexAt t (.slice (some ad) len cap) (.int k j)).run cx.P w = .ok (.pointer (some (ad.add (j.toNat*i.size)))) w:=by
  intro ad len cap k j h0 h1
  simp[Instr.indexAt,run_underlying hd,asIntOf,h0,h1,jU hi]
 unfold qIo at hs
 split at hs
 ·rename_i id off len ix heq
  cases heq
  obtain⟨j,hj,hs⟩:=qC hs
  obtain⟨⟨h0,h1⟩,hs⟩:=qF hs
  obtain⟨o,l',ho,hs2,_⟩:=yF hs
  obtain⟨k,rfl⟩:=hq.intArg_inv hj
  cases o with
  | dead=>cases hs2
  | live z' es wr full=>
   obtain⟨rfl,hs3⟩:=qF hs2
   obtain⟨hr,_⟩:=qB hs3
   cases hr
   cases hp with
   | slv _ sz room hb=>exact absurd h1 (by simp;omega)
   | sl _ _ _ scap b sz room ad hb hlc hrm had hsp=>
    obtain⟨c,ce,fz,h2,h3,h4,h5,h6,h7,h8,h9⟩:=R.obj ho hb rfl
    simp only at h9
    subst h9
    refine Out.same R (hrun ad len _ k j h0 h1) ?_
    have hjn:j.toNat<len:=by omega
    rw[had (by omega),Addr.add_lit,←Nat.add_mul]
    have:=qL.ref (β:=β) (F:=F) (w:=w) id (off+j.toNat) 0 b i.size room hb
    simpa using this
 ·rename_i es ix heq
  cases heq
  obtain⟨j,hj,hs⟩:=qC hs
  obtain⟨h0,hs⟩:=qF hs
  obtain⟨e0,he,hs⟩:=qC hs
  obtain⟨hz,hs⟩:=qF hs
  obtain⟨hr,rfl⟩:=qB hs
  cases hr
  obtain⟨k,rfl⟩:=hq.intArg_inv hj
  have hjl:j.toNat<es.length:=(List.getElem?_eq_some_iff.1 he).1
  cases hp with
  | t hp=>
   cases hp with
   | nil=>simp at hjl
   | sl _ ad cap sz news ha hc hn h1 hF hw hzz hrr=>
    have hsz:sz=i.size:=by rw[←hzz e0 (List.mem_of_getElem? he),hz]
    subst hsz
    have hl2:(j.toNat+1)*i.size≤es.length*i.size:=Nat.mul_le_mul_right _ hjl
    have e5:(j.toNat+1)*i.size=j.toNat*i.size+i.size:=by rw[Nat.add_mul,Nat.one_mul]
    have ha:=ha (by intro h;subst h;simp at hjl)
    refine Out.same R (hrun ad _ _ k j h0 (by omega)) (.ro _ _ ((news.drop (j.toNat*i.size)).take i.size) (by unfold Addr.add;split;exact ha;rfl) (by simp;omega)
     (fun u hu=>h1 u (List.mem_of_mem_drop (List.mem_of_mem_take hu))) (by rw[qA3];exact hF (by intro h;subst h;simp at hjl))
     (fun m u hm'=>?_) (fun m c u hc' hu=>?_))
    ·simp only[List.getElem?_take,List.getElem?_drop] at hm'
     split at hm'
     ·rw[Addr.add_add];exact hw _ u hm'
     ·cases hm'
    ·simp only[List.getElem?_take,List.getElem?_drop] at hu
     split at hu
     ·exact hrr j.toNat e0 m c u he hc' hu
     ·cases hu
 ·cases hs
theorem qPk (R:Rel cx β F fm hm a w) {t e:TypeId} {n:Nat} {i:TypeInfo} (hd:cx.P.underlying t=some (.array n e)) (hi:cx.P.info? e=some i) {p q:Value} {vp vq:V} (hp:qL β F w vp p) (hq:qL β F w vq q)
  (hs:(qIk n i.size [vp,vq]).run hm=some ((v,W),l)):Out cx β F fm hm a w v W (Instr.indexAt t p q):=by
 have hrun : ∀ (ad:Addr) (k:IntKind) (j:Int),0≤j→j<n→(Instr.indexAt t (.pointer (some ad)) (.int k j)).run cx.P w = .ok (.pointer (some (ad.add (j.toNat*i.size)))) w:=by
  intro ad k j h0 h1
  simp[Instr.indexAt,run_underlying hd,asIntOf,h0,h1,jU hi,Instr.sureAddr]
 unfold qIk at hs
 split at hs
 ·rename_i id i0 f ix heq
  cases heq
  obtain⟨j,hj,hs⟩:=qC hs
  obtain⟨⟨h0,h1⟩,hs⟩:=qF hs
  obtain⟨o,l',ho,hs2,_⟩:=yF hs
  obtain⟨k,rfl⟩:=hq.intArg_inv hj
  cases o with
  | dead=>cases hs2
  | live z' es wr full=>
   cases hp with
   | ref _ _ _ b sz room hb=>
    obtain⟨c,ce,fz,h2,h3,h4,h5,h6,h7,h8,h9⟩:=R.obj ho hb rfl
    simp only at h9
    subst h9
    simp only at hs2
    split at hs2
    ·rename_i hc
     obtain⟨rfl,rfl⟩:=hc
     obtain⟨hr,_⟩:=qB hs2
     cases hr
     refine Out.same R (hrun _ k j h0 h1) ?_
     rw[Addr.add_lit]
     have:=qL.ref (β:=β) (F:=F) (w:=w) id (i0+j.toNat) 0 b i.size room hb
     rw[Nat.add_mul] at this
     rw[show i0*i.size+0+j.toNat*i.size=i0*i.size+j.toNat*i.size+0 by omega]
     exact this
    ·obtain⟨hr,_⟩:=qB hs2
     cases hr
     refine Out.same R (hrun _ k j h0 h1) ?_
     rw[Addr.add_lit,Nat.add_assoc]
     exact qL.ref id i0 (f+j.toNat*i.size) b sz room hb
 ·rename_i cs ix heq
  cases heq
  obtain⟨j,hj,hs⟩:=qC hs
  obtain⟨⟨h0,h1,hle⟩,hs⟩:=qF hs
  obtain⟨hr,rfl⟩:=qB hs
  cases hr
  obtain⟨k,rfl⟩:=hq.intArg_inv hj
  cases hp with
  | ro _ ad news ha hn hone hF hw h=>
   refine Out.same R (hrun _ k j h0 h1) (.ro _ _ (news.drop (j.toNat*i.size)) (by unfold Addr.add;split;exact ha;rfl) (by simp[hn]) (fun u hu=>hone u (List.mem_of_mem_drop hu)) (by rw[qA3];exact hF)
    (fun m u hm'=>by rw[Addr.add_add];exact hw _ u (by simpa using hm')) (fun m c u hc hu=>h _ c u (by simpa using hc) (by simpa using hu)))
 ·cases hs
theorem zR7 (R:Rel cx β F fm hm a w) {t:TypeId} {x ix:Operand} {ao:AO} {xs:List Operand} {vs:List V} (han:qRh cx.P t x ix=some (ao,xs))
  (hv:wU (fun x v=>qL β F w v (a.eval x)) xs vs) (hs:(sem ao vs nb).run hm=some ((v,W),l)):Out cx β F fm hm a w v W (Instr.indexAt t (a.eval x) (a.eval ix)):=by
 unfold qRh at han
 split at han
 ·rename_i e hd
  simp only[Option.map_eq_some_iff] at han
  obtain⟨i,hi,han⟩:=han
  cases han
  obtain⟨p,q,rfl,hp,hq⟩:=jC hv
  exact qPl R hd hi hp hq hs
 ·rename_i n e hd
  simp only[Option.map_eq_some_iff] at han
  obtain⟨i,hi,han⟩:=han
  cases han
  obtain⟨p,q,rfl,hp,hq⟩:=jC hv
  exact qPk R hd hi hp hq hs
 ·cases han
theorem zAj {P:Program} {t:TypeId} {i:TypeInfo} {d:TypeDesc} (hi:P.info? t=some i) (hd:P.underlying t=some d) {cs:List V} {us:Array Value} {off:Nat}
  (h:qK6 cs off i.size (yI d)=some v) (hl:us.size=cs.length) (h1 : ∀ u∈us,u.oneCell'=true)
  (hr : ∀ (i:Nat) (c:V) (u:Value),cs[i]?=some c→us[i]?=some u→qL β F w c u) : ∃ x,(part t us off).run P w = .ok x w∧qL β F w v x:=by
 have hp:=qN7 (us:=us.toList) h (by simpa using hl) (by simpa using h1) (fun i c u hc hu=>hr i c u hc (by simpa using hu))
 unfold part
 rw[Sem.run_bind,qVb hd]
 simp only[Result.andThen_ok]
 cases hg:yI d
 ·rw[hg] at hp
  simp only[Bool.false_eq_true,if_false] at hp ⊢
  obtain⟨u,hu,hru⟩:=hp
  exact⟨u,by rw[show us[off]?=some u by simpa using hu];rfl,hru⟩
 ·rw[hg] at hp
  simp only[if_true] at hp ⊢
  obtain⟨hle,hru⟩:=hp
  refine⟨_,by simp[jU hi];rfl,?_⟩
  have:us.extract off (off+i.size)=((us.toList.drop off).take i.size).toArray:=by
   apply Array.ext'
   simp
  rw[this];exact hru
theorem qL.agg_inv {cs:List V} {x:Value} (h:qL β F w (.agg cs) x) : ∃ us,x = .agg us∧us.size=cs.length∧(∀ u∈us,u.oneCell'=true) ∧ ∀ (i:Nat) (c:V) (u:Value),cs[i]?=some c→us[i]?=some u→qL β F w c u:=by
 cases h with | agg _ us hl h1 h=>exact⟨us,rfl,hl,h1,h⟩
theorem qL.tagg_inv {cs:List T} {x:Value} (h:qL β F w (.t (.agg cs)) x) : ∃ us,x = .agg us∧us.size=(cs.map V.t).length∧(∀ u∈us,u.oneCell'=true) ∧ ∀ (i:Nat) (c:V) (u:Value),(cs.map V.t)[i]?=some c→us[i]?=some u→qL β F w c u:=by
 cases h with
 | t h=>
  cases h with
  | agg _ us hl h1 h=>
   refine⟨us,rfl,by simpa using hl,h1,fun i c u hc hu=>?_⟩
   rw[List.getElem?_map,Option.map_eq_some_iff] at hc
   obtain⟨c',hc',rfl⟩:=hc
   exact .t (h i c' u hc' hu)
theorem zR6 (R:Rel cx β F fm hm a w) {s:TypeId} {x:Operand} {f:Nat} {ao:AO} {xs:List Operand} {vs:List V} (han:qRg cx.P s x f=some (ao,xs))
  (hv:wU (fun x v=>qL β F w v (a.eval x)) xs vs) (hs:(sem ao vs nb).run hm=some ((v,W),l)):Out cx β F fm hm a w v W (Instr.field s (a.eval x) f):=by
 unfold qRg at han
 split at han
 ·rename_i fs hd
  split at han
  ·rename_i fd hfd
   split at han
   ·rename_i i d hi hd2
    cases han
    obtain⟨p,rfl,hp⟩:=jF hv
    have fin : ∀ {cs:List V} {us:Array Value},qK6 cs fd.offset i.size (yI d)=some v→a.eval x = .agg us→us.size=cs.length→(∀ u∈us,u.oneCell'=true)→
      (∀ (i:Nat) (c:V) (u:Value),cs[i]?=some c→us[i]?=some u→qL β F w c u)→Out cx β F fm hm a w v [] (Instr.field s (a.eval x) f):=by
     intro cs us h hx hl h1 hr
     obtain⟨y,hy,hry⟩:=zAj hi hd2 h hl h1 hr
     refine Out.same R ?_ hry
     rw[hx]
     simp[Instr.field,run_underlying hd,hfd,asAgg,hy]
    simp only[sem] at hs
    unfold qLy at hs
    split at hs
    ·rename_i cs heq
     cases heq
     obtain⟨y,hy,hs⟩:=qC hs
     obtain⟨hr,rfl⟩:=qB hs
     cases hr
     obtain⟨us,hx,hl,h1,h2⟩:=hp.agg_inv
     exact fin hy hx hl h1 h2
    ·rename_i cs heq
     cases heq
     obtain⟨y,hy,hs⟩:=qC hs
     obtain⟨hr,rfl⟩:=qB hs
     cases hr
     obtain⟨us,hx,hl,h1,h2⟩:=hp.tagg_inv
     exact fin hy hx hl h1 h2
    ·cases hs
   ·cases han
  ·cases han
 ·cases han
theorem zR8 (R:Rel cx β F fm hm a w) {t:TypeId} {x ix:Operand} {ao:AO} {xs:List Operand} {vs:List V} (han:qRi cx.P t x ix=some (ao,xs))
  (hv:wU (fun x v=>qL β F w v (a.eval x)) xs vs) (hs:(sem ao vs nb).run hm=some ((v,W),l)):Out cx β F fm hm a w v W (Instr.index t (a.eval x) (a.eval ix)):=by
 unfold qRi at han
 split at han
 ·rename_i n e hd
  split at han
  ·rename_i i d hi hd2
   cases han
   obtain⟨p,q,rfl,hp,hq⟩:=jC hv
   have fin : ∀ {cs:List V} {us:Array Value} {k:IntKind} {j:Int},qK6 cs (j.toNat*i.size) i.size (yI d)=some v→a.eval x = .agg us→a.eval ix = .int k j→0≤j→j<n→us.size=cs.length→(∀ u∈us,u.oneCell'=true)→
     (∀ (i:Nat) (c:V) (u:Value),cs[i]?=some c→us[i]?=some u→qL β F w c u)→Out cx β F fm hm a w v [] (Instr.index t (a.eval x) (a.eval ix)):=by
    intro cs us k j h hx hix h0 h1 hl hone hr
    obtain⟨y,hy,hry⟩:=zAj hi hd2 h hl hone hr
    refine Out.same R ?_ hry
    rw[hx,hix]
    simp[Instr.index,run_underlying hd,asIntOf,h0,h1,jU hi,hy]
   simp only[sem] at hs
   unfold qLz at hs
   split at hs
   ·rename_i cs iv heq
    cases heq
    obtain⟨j,hj,hs⟩:=qC hs
    obtain⟨⟨h0,h1⟩,hs⟩:=qF hs
    obtain⟨y,hy,hs⟩:=qC hs
    obtain⟨hr,rfl⟩:=qB hs
    cases hr
    obtain⟨k,hk⟩:=hq.intArg_inv hj
    obtain⟨us,hx,hl,hone,h2⟩:=hp.agg_inv
    exact fin hy hx hk h0 h1 hl hone h2
   ·rename_i cs iv heq
    cases heq
    obtain⟨j,hj,hs⟩:=qC hs
    obtain⟨⟨h0,h1⟩,hs⟩:=qF hs
    obtain⟨y,hy,hs⟩:=qC hs
    obtain⟨hr,rfl⟩:=qB hs
    cases hr
    obtain⟨k,hk⟩:=hq.intArg_inv hj
    obtain⟨us,hx,hl,hone,h2⟩:=hp.tagg_inv
    exact fin hy hx hk h0 h1 hl hone h2
   ·cases hs
  ·cases han
 ·rename_i hd
  cases han
  obtain⟨p,q,rfl,hp,hq⟩:=jC hv
  simp only[sem] at hs
  unfold qC3 at hs
  split at hs
  ·rename_i s iv heq
   cases heq
   obtain⟨j,hj,hs⟩:=qC hs
   obtain⟨h0,hs⟩:=qF hs
   obtain⟨b,hb,hs⟩:=qC hs
   obtain⟨hr,rfl⟩:=qB hs
   cases hr
   obtain⟨k,hk⟩:=hq.intArg_inv hj
   rw[hp.str_inv,hk]
   refine Out.same R (x:= .int .u8 b.toNat) ?_ (.t (.int _ _))
   have hlt:j.toNat<s.size:=by simpa using (List.getElem?_eq_some_iff.1 hb).1
   have hsb:s[j.toNat]?=some b:=by
    have h2:=(List.getElem?_eq_some_iff.1 hb).2
    rw[getElem?_pos s j.toNat hlt]
    rw[←h2];simp;rfl
   simp[Instr.index,run_underlying hd,asIntOf,h0,hsb]
  ·cases hs
 ·cases han
theorem zG0 (R:Rel cx β F fm hm a w) {i:Nat} {x:Value} {vx:V} (h:qL β F w vx x) (hs:(qC2 i [vx]).run hm=some ((v,W),l)):Out cx β F fm hm a w v W (Instr.extract x i):=by
 unfold qC2 at hs
 split at hs
 ·rename_i vs heq
  cases heq
  obtain⟨y,hy,hs⟩:=qC hs
  obtain⟨hr,rfl⟩:=qB hs
  cases hr
  cases h with
  | tup _ us hl h=>
   have hlt:i<us.size:=by rw[hl];exact (List.getElem?_eq_some_iff.1 hy).1
   exact Out.same R (x:=us[i]) (by simp[Instr.extract,hlt]) (h i _ _ hy (by simp[hlt]))
 ·rename_i vs heq
  cases heq
  obtain⟨y,hy,hs⟩:=qC hs
  obtain⟨hr,rfl⟩:=qB hs
  cases hr
  cases h with
  | t h=>
   cases h with
   | tup _ us hl h=>
    have hlt:i<us.size:=by rw[hl];exact (List.getElem?_eq_some_iff.1 hy).1
    exact Out.same R (x:=us[i]) (by simp[Instr.extract,hlt]) (.t (h i _ _ hy (by simp[hlt])))
 ·cases hs
theorem zL5 {x:Value} {vx:V} (h:qL β F w vx x) (hs:(qFf [vx]).run hm=some ((v,W),l)):qL β F w v x∧W=[] ∧ ∃ ad,x = .pointer (some ad):=by
 unfold qFf at hs
 split at hs
 ·rename_i id i f heq
  cases heq
  obtain⟨hr,_⟩:=qB hs
  cases hr
  cases h with | ref _ _ _ b sz room hb=>exact⟨.ref _ _ _ b sz room hb,rfl,_,rfl⟩
 ·rename_i cs heq
  cases heq
  obtain⟨hr,_⟩:=qB hs
  cases hr
  cases h with | ro _ ad news ha hn h1 hF hw h=>exact⟨.ro _ ad news ha hn h1 hF hw h,rfl,_,rfl⟩
 ·cases hs
end Go.Eng
end
section
namespace Go.Eng
variable {cx:Cx} {β:Nat→Option BI} {F:Nat→Prop} {fm:Nat→Option V} {hm:Nat→Option Ob} {a:Act} {w:World}
variable {nb:Nat} {v:V} {W:Wr} {l:List Nat}
theorem zZ2 (R:Rel cx β F fm hm a w) {t e ty:TypeId} {ts:Array TypeId} (ht:ts[0]?=some t) (hd:cx.P.underlying t=some (.slice e)) {x:Value} {vx:V} (h:qL β F w vx x)
  (hs:(qVf [vx]).run hm=some ((v,W),l)):Out cx β F fm hm a w v W (Builtin.len_ ts ty #[x]):=by
 have fin : ∀ {b:Option Addr} {n c:Nat},x = .slice b n c→v = .t (.int .i64 n)→W=[]→Out cx β F fm hm a w v W (Builtin.len_ ts ty #[x]):=by
  intro b n c hx hv hW
  subst hx hv hW
  exact Out.same R (x:= .int .i64 n) (by simp[Builtin.len_,ht,run_underlying hd,goInt]) (.t (.int _ _))
 unfold qVf at hs
 split at hs
 ·rename_i es heq
  cases heq
  obtain⟨hr,_⟩:=qB hs
  cases hr
  cases h with
  | t h=>
   cases h with
   | nil=>exact fin rfl rfl rfl
   | sl=>exact fin rfl rfl rfl
 ·rename_i heq
  cases heq
  obtain⟨hr,_⟩:=qB hs
  cases hr
  cases h with
  | sl=>exact fin rfl rfl rfl
  | slv=>exact fin rfl rfl rfl
 ·rename_i heq
  cases heq
  obtain⟨hr,_⟩:=qB hs
  cases hr
  cases h
  exact fin rfl rfl rfl
 ·cases hs
theorem zWx (R:Rel cx β F fm hm a w) {t ty:TypeId} {ts:Array TypeId} (ht:ts[0]?=some t) (hd:cx.P.underlying t=some .string) {x:Value} {vx:V} (h:qL β F w vx x)
  (hs:(qJn [vx]).run hm=some ((v,W),l)):Out cx β F fm hm a w v W (Builtin.len_ ts ty #[x]):=by
 unfold qJn at hs
 split at hs
 ·rename_i s heq
  cases heq
  obtain⟨hr,_⟩:=qB hs
  cases hr
  rw[h.str_inv]
  exact Out.same R (x:= .int .i64 s.size) (by simp[Builtin.len_,ht,run_underlying hd,goInt]) (.t (.int _ _))
 ·cases hs
theorem qTi {α:Type} {xs:Array α} {x y:α} {r:List α} (h:xs.toList=x::y::r):xs[0]?=some x∧xs[1]?=some y:=by
 rw[←Array.getElem?_toList,←Array.getElem?_toList,h];simp
theorem qIj {P:Program} {ts:Array TypeId} {t t' ty:TypeId} (h0:ts[0]?=some t) (h1:ts[1]?=some t') (args:Array Value):Builtin.append_ ts ty args=Builtin.append_ #[t,t'] ty args:=by
 unfold Builtin.append_
 simp only[h0,h1]
 rfl
theorem zL1 (R:Rel cx β F fm hm a w) {t t' e e' ty:TypeId} {ts:Array TypeId} (h0:ts[0]?=some t) (h1:ts[1]?=some t') (ht:cx.P.underlying t=some (.slice e)) (ht':cx.P.underlying t'=some (.slice e'))
  {i:TypeInfo} {z:Value} (hi:cx.P.info? e=some i) (hz:i.zero=some z) (hzs:z.cells.size=i.size) {p q:Value} {vp vq:V} (hp:qL β F w vp p) (hq:qL β F w vq q)
  (hs:(qC1 i.size i.bytes nb [vp,vq]).run hm=some ((v,W),l)):Out cx β F fm hm a w v W (Builtin.append_ ts ty #[p,q]):=by
 rw[qIj (P:=cx.P) h0 h1]
 simp only[qC1] at hs
 obtain⟨xs,l1,l2,hx,hs,_⟩:=qW hs
 obtain⟨hzo,hs⟩:=qF hs
 split at hs
 ·obtain⟨hsz,hs⟩:=qF hs
  obtain⟨hnb,l',hr,_⟩:=vZ hs
  obtain⟨hr1,_⟩:=qB hr
  cases hr1
  cases hp
  exact qPg R hnb ht ht' hi hz hzs hx hzo hq hsz
 ·rename_i id len
  obtain⟨o,l',ho,hs2,_⟩:=yF hs
  cases o with
  | dead=>cases hs2
  | live z' es wr full=>
   cases wr with
   | false=>cases hs2
   | true=>
    obtain⟨⟨rfl,hel,hsz,h100⟩,hs3⟩:=qF hs2
    obtain⟨hnb,l',hr,_⟩:=vZ hs3
    obtain⟨hr1,_⟩:=qB hr
    cases hr1
    exact qPh R hnb ht ht' hi hz hzs hx hzo hq hp ho hel hsz h100
 ·cases hs
theorem qD4 {P:Program} (t t' ty e:TypeId) (i:TypeInfo) (ht:P.underlying t=some (.slice e)) (ht':P.underlying t'=some .string) (hi:P.info? e=some i)
  (base:Option Addr) (sLen sCap:Nat) (s:ByteArray) (hroom:sLen+s.size≤sCap) (w':World)
  (hst : ∀ ad,base=some ad→(storeCells (ad.add (sLen*i.size)) (s.data.toList.map fun b=>Value.int .u8 b.toNat)).run P w = .ok () w') (hb:base=none→w'=w) :
  (Builtin.append_ #[t,t'] ty #[.slice base sLen sCap,.string s]).run P w = .ok (.slice base (sLen+s.size) sCap) w':=by
 have hx:(s.extract 0 s.size)=s:=ByteArray.extract_zero_size
 have hf:(Builtin.firstCells i.size s.size (.string s)).run P w = .ok (s.data.toList.map fun b=>Value.int .u8 b.toNat).toArray w:=by
  simp only[Builtin.firstCells,hx,Sem.run_pure]
  congr 1
  apply Array.ext';simp
 cases base with
 | none=>simp[Builtin.append_,run_underlying ht,run_underlying ht',sizeOf,typeInfo,hi,Builtin.lenOf,hroom,hf,hb rfl]
 | some ad=>simp[Builtin.append_,run_underlying ht,run_underlying ht',sizeOf,typeInfo,hi,Builtin.lenOf,hroom,hf,hst ad rfl]
theorem qD5 {P:Program} (t t' ty e:TypeId) (i:TypeInfo) (z:Value) (ht:P.underlying t=some (.slice e)) (ht':P.underlying t'=some .string) (hi:P.info? e=some i) (hz:i.zero=some z)
  (base:Option Addr) (sLen sCap:Nat) (olds:List Value) (hbn:base=none→olds=[]) (hlo:olds.length=sLen*i.size) (holds : ∀ ad,base=some ad → ∀ j v,olds[j]?=some v→w.cell? (ad.add j)=some v)
  (s:ByteArray) (hg:sCap<sLen+s.size) (h63:sLen+s.size≤maxLen) (hfit:(sLen+s.size)*i.bytes≤140737488355328) :
  (Builtin.append_ #[t,t'] ty #[.slice base sLen sCap,.string s]).run P w =
   .ok (.slice (some ⟨w.heap.size,0,none⟩) (sLen+s.size) (grownCap w (sLen+s.size) sCap e))
    (w.drew.alloc (.cells (olds.toArray++(s.data.toList.map fun b=>Value.int .u8 b.toNat).toArray++Builtin.zeroCells z.cells (grownCap w (sLen+s.size) sCap e-(sLen+s.size))) e)):=by
 have hnn : ¬ (sLen+s.size≤sCap):=by omega
 have h63' : ¬ (9223372036854775807<((sLen:Int)+(s.size:Int))):=by unfold maxLen at h63;omega
 have h48:=growslice_fits hg hfit
 have h48' : ¬ (281474976710656<Builtin.nextslicecap (sLen+s.size) sCap*i.bytes):=by omega
 have hx:(s.extract 0 s.size)=s:=ByteArray.extract_zero_size
 have hfo:(Builtin.firstCells i.size sLen (.slice base sLen sCap)).run P w.drew = .ok olds.toArray w.drew:=by
  cases base with
  | none=>simp[Builtin.firstCells,hbn rfl]
  | some ad=>exact run_firstCells_some w.drew i.size sLen ad sLen sCap olds hlo (by simpa using holds ad rfl)
 have hf:(Builtin.firstCells i.size s.size (.string s)).run P w.drew = .ok (s.data.map fun b=>Value.int .u8 b.toNat) w.drew:=by
  simp only[Builtin.firstCells,hx,Sem.run_pure]
 simp[Builtin.append_,run_underlying ht,run_underlying ht',sizeOf,typeInfo,zeroValue,hi,hz,Builtin.lenOf,hnn,h63',h48',Question.forced,hf,hfo,newRow,grownCap]
 congr 2
 apply Array.ext'
 simp[List.append_assoc]
theorem zHo (s:ByteArray):Src β F w (s.data.toList.map fun b=>V.t (qA b)) 1 (s.data.toList.map fun b=>Value.int .u8 b.toNat):=by
 refine⟨by simp,fun u hu=>?_,fun i y hy=>?_⟩
 ·simp only[List.mem_map] at hu
  obtain⟨b,_,rfl⟩:=hu;rfl
 ·rw[List.getElem?_map,Option.map_eq_some_iff] at hy
  obtain⟨b,hb,rfl⟩:=hy
  refine⟨rfl,fun j q hq=>?_⟩
  cases j with
  | succ j=>simp[V.cells,qA] at hq
  | zero=>
   simp[V.cells,qA] at hq;subst hq
   exact⟨.int .u8 b.toNat,by simp[hb],.t (.int _ _),rfl⟩
theorem zL2 (R:Rel cx β F fm hm a w) {t t' e ty:TypeId} {ts:Array TypeId} (h0:ts[0]?=some t) (h1:ts[1]?=some t') (ht:cx.P.underlying t=some (.slice e)) (ht':cx.P.underlying t'=some .string)
  {i:TypeInfo} {z:Value} (hi:cx.P.info? e=some i) (hz:i.zero=some z) (hzs:z.cells.size=i.size) (hi1:i.size=1) (hib:i.bytes=1) {p q:Value} {vp vq:V} (hp:qL β F w vp p) (hq:qL β F w vq q)
  (hs:(xQ nb [vp,vq]).run hm=some ((v,W),l)):Out cx β F fm hm a w v W (Builtin.append_ ts ty #[p,q]):=by
 rw[qIj (P:=cx.P) h0 h1]
 unfold xQ at hs
 split at hs
 ·rename_i id len st heq
  cases heq
  obtain⟨o,l',ho,hs2,_⟩:=yF hs
  cases o with
  | dead=>cases hs2
  | live z' es wr full=>
   cases wr with
   | false=>cases hs2
   | true=>
    obtain⟨⟨rfl,hel,hsz,h100⟩,hs3⟩:=qF hs2
    obtain⟨hnb,l',hr,_⟩:=vZ hs3
    obtain⟨hr1,_⟩:=qB hr
    cases hr1
    rw[hq.str_inv]
    have hne:id≠nb:=fun h=>by subst h;rw[ho] at hnb;cases hnb
    have hk:=R.kill ho
    have hkn:upd hm [(id,.dead)] nb=none:=by simp[upd,Ne.symm hne,hnb]
    have hsrc:Src β F w (st.data.toList.map fun (b:UInt8)=>V.t (qA b)) 1 (st.data.toList.map fun (b:UInt8)=>Value.int .u8 b.toNat):=zHo st
    have hlen:(st.data.toList.map fun (b:UInt8)=>V.t (qA b)).length=st.size:=by simp
    cases hp with
    | slv _ sz room hb=>
     obtain⟨bi',hb',hok⟩:=R.hp id _ ho
     rw[hb] at hb';cases hb'
     simp only[qCq] at hok
     obtain⟨_,_,hnil,_⟩:=hok
     subst hnil
     by_cases hz0:st.size=0
     ·have hd0:st.data.toList.map (fun b=>V.t (qA b))=[]:=List.eq_nil_of_length_eq_zero (by rw[hlen,hz0])
      have hvt:=hk.virt hkn (full:=false) 1
      refine⟨.slice none (0+st.size) 0,w,_,qD4 t t' ty e i ht ht' hi none 0 0 st (by omega) w (by simp) (fun _=>rfl),?_,?_,hvt.2⟩
      ·rw[hd0];exact hvt.1
      ·rw[hz0];exact .slv nb 1 0 zA
     ·have hrun:=qD5 (w:=w) t t' ty e i z ht ht' hi hz none 0 0 [] (fun _=>rfl) (by simp) (by simp) st (by omega) hsz.1 (by rw[hib];exact hsz.2)
      obtain⟨hge,hmx⟩:=qAl w (0+st.size) 0 e hsz.1
      have hH:=qE7 (es:=[]) qOp hsrc (Builtin.zeroCells z.cells (grownCap w (0+st.size) 0 e-(0+st.size))).toList
      have hal:=hk.drew.alloc (w':=w.drew.alloc (.cells (([]:List Value).toArray++(st.data.toList.map fun (b:UInt8)=>Value.int .u8 b.toNat).toArray++Builtin.zeroCells z.cells (grownCap w (0+st.size) 0 e-(0+st.size))) e)) (nb:=nb) hkn
       (fz:=(0,0)) (wr:=true) (es:=[]++st.data.toList.map fun (b:UInt8)=>V.t (qA b)) (full:=false) (sz:=1) (room:=grownCap w (0+st.size) 0 e) rfl rfl rfl rfl rfl (fun j=>⟨fun _=>by simp,by simp⟩)
       (by
        have hds:st.data.size=st.size:=rfl
        simp only[Array.size_append,List.size_toArray,size_zeroCells,hzs,hi1,List.length_map,Array.length_toList,List.length_nil]
        omega)
       (by simp only[List.nil_append];rw[hlen];omega) hmx (by simp) (by
        have:(([]:List Value).toArray++(st.data.toList.map fun (b:UInt8)=>Value.int .u8 b.toNat).toArray++Builtin.zeroCells z.cells (grownCap w (0+st.size) 0 e-(0+st.size))) =
          ([]++(st.data.toList.map fun (b:UInt8)=>Value.int .u8 b.toNat)++(Builtin.zeroCells z.cells (grownCap w (0+st.size) 0 e-(0+st.size))).toList).toArray:=by
         apply Array.ext';simp
        rw[this]
        exact hH.mono (fun _ _ h=>h) (fun _ h=>h) (fun _ _=>rfl))
      refine⟨_,_,_,hrun,hal.1,?_,hal.2⟩
      have:=qL.sl (β:=qO6 β nb ⟨some w.heap.size,1,grownCap w (0+st.size) 0 e⟩) (F:=F) (w:=w.drew.alloc (.cells (([]:List Value).toArray++(st.data.toList.map fun (b:UInt8)=>Value.int .u8 b.toNat).toArray++Builtin.zeroCells z.cells (grownCap w (0+st.size) 0 e-(0+st.size))) e))
       nb 0 (0+st.size) (grownCap w (0+st.size) 0 e) w.heap.size 1 (grownCap w (0+st.size) 0 e) ⟨w.heap.size,0,none⟩ zA (by omega) (by omega) (fun _=>by simp) rfl
      simpa using this
    | sl _ _ _ scap b sz room bad hb hlc hrm had hspot=>
     subst hel
     obtain⟨c,ce,fz,h2,h3,h4,h5,h6,h7,h8,h9⟩:=R.obj ho hb rfl
     simp only at h4 h5 h6 h7 h8 h9
     subst h9
     have hold:=h7.src h4 h5
     by_cases hroom:es.length+st.size≤scap
     ·have hroom':es.length+st.size≤room:=by omega
      have hre:=R.rename ho hb hnb h100
      have hvl:(st.data.toList.map fun (b:UInt8)=>Value.int .u8 b.toNat).length=st.size:=by simp
      have hle:es.length*1+(st.data.toList.map fun (b:UInt8)=>Value.int .u8 b.toNat).length≤c.size:=by
       rw[h4,hvl];omega
      have hst:(storeCells (bad.add (es.length*i.size)) (st.data.toList.map fun (b:UInt8)=>Value.int .u8 b.toNat)).run cx.P w = .ok () (w.setCells b (es.length*1) (st.data.toList.map fun (b:UInt8)=>Value.int .u8 b.toNat)):=by
       by_cases hrp:0<scap
       ·have hbad:=had hrp
        simp only[Nat.zero_mul] at hbad
        subst hbad
        rw[Addr.add_lit,Nat.zero_add,hi1]
        exact vO h2 h3 hle hsrc.2.1
       ·have hx0:st.size=0:=by omega
        have hn:(st.data.toList.map fun (b:UInt8)=>Value.int .u8 b.toNat)=[]:=List.eq_nil_of_length_eq_zero (by rw[hvl,hx0])
        rw[hn];rfl
      have hrel:=xP hre.1 (id:=nb) (z:=1) (es:=es) (es':=es++st.data.toList.map fun (b:UInt8)=>V.t (qA b)) (full:=full) (full':=false) (by simp[upd]) zA h2 h3 h4 (o:=es.length*1) (vs:=st.data.toList.map fun (b:UInt8)=>Value.int .u8 b.toNat)
       (by rw[List.length_append,hlen];omega) (by simp) (by
       intro k y hy
       rw[List.getElem?_append] at hy
       split at hy
       ·rename_i hlt
        obtain⟨k1,k2⟩:=h7 k y hy
        refine⟨k1,fun j q hq=>?_⟩
        obtain⟨u,hu,hru,hou⟩:=k2 j q hq
        have hj:j<1:=by rw[←k1];exact (List.getElem?_eq_some_iff.1 hq).1
        exact⟨u,by rw[qAo _ _ _ _ (.inl (qKs hlt hj))];exact hu,hru.mono hre.2 (fun _ h=>h) (fun _ _=>rfl),hou⟩
       ·rename_i hlt
        obtain⟨k1,k2⟩:=hsrc.2.2 _ y hy
        refine⟨k1,fun j q hq=>?_⟩
        obtain⟨u,hu,hru,hou⟩:=k2 j q hq
        have hult:(k-es.length)*1+j<(st.data.toList.map fun (b:UInt8)=>Value.int .u8 b.toNat).length:=(List.getElem?_eq_some_iff.1 hu).1
        have:=qG3 (st.data.toList.map fun (b:UInt8)=>Value.int .u8 b.toNat) c (es.length*1) hle _ hult
        have he:es.length*1+((k-es.length)*1+j)=k*1+j:=by omega
        rw[he] at this
        exact⟨u,by rw[this];exact hu,hru.mono hre.2 (fun _ h=>h) (fun _ _=>rfl),hou⟩)
      rw[zHw] at hrel
      refine⟨_,_,_,qD4 t t' ty e i ht ht' hi (some bad) es.length scap st (by simpa using hroom) _ (by intro ad h;cases h;exact hst) (by simp),hrel,?_,hre.2⟩
      exact .sl nb 0 (es.length+st.size) scap b 1 room bad zA hroom hrm had hspot
     ·have hrun:=qD5 (w:=w) t t' ty e i z ht ht' hi hz (some bad) es.length scap (c.toList.take (es.length*1)) (by simp) (by rw[hold.1,hi1]) (by
       intro ad h j u hu
       cases h
       simp only[List.getElem?_take] at hu
       split at hu
       ·rename_i hlt
        have hrp:0<scap:=by omega
        rw[had hrp,Addr.add_lit,cell_of_row w b _ c ce fz h2]
        simpa using hu
       ·cases hu) st (by omega) hsz.1 (by rw[hib];exact hsz.2)
      obtain⟨hge,hmx⟩:=qAl w (es.length+st.size) scap e hsz.1
      have hH:=qE7 hold hsrc (Builtin.zeroCells z.cells (grownCap w (es.length+st.size) scap e-(es.length+st.size))).toList
      have hal:=hk.drew.alloc (w':=w.drew.alloc (.cells ((c.toList.take (es.length*1)).toArray++(st.data.toList.map fun (b:UInt8)=>Value.int .u8 b.toNat).toArray++Builtin.zeroCells z.cells (grownCap w (es.length+st.size) scap e-(es.length+st.size))) e)) (nb:=nb) hkn
       (fz:=(0,0)) (wr:=true) (es:=es++st.data.toList.map fun (b:UInt8)=>V.t (qA b)) (full:=false) (sz:=1) (room:=grownCap w (es.length+st.size) scap e) rfl rfl rfl rfl rfl (fun j=>⟨fun _=>by simp,by simp⟩)
       (by
        have hds:st.data.size=st.size:=rfl
        have:=hold.1
        simp only[Array.size_append,List.size_toArray,size_zeroCells,hzs,hi1,List.length_map,Array.length_toList,this]
        omega)
       (by rw[List.length_append,hlen];omega) hmx (by simp) (by
        have:((c.toList.take (es.length*1)).toArray++(st.data.toList.map fun (b:UInt8)=>Value.int .u8 b.toNat).toArray++Builtin.zeroCells z.cells (grownCap w (es.length+st.size) scap e-(es.length+st.size))) =
          (c.toList.take (es.length*1)++(st.data.toList.map fun (b:UInt8)=>Value.int .u8 b.toNat)++(Builtin.zeroCells z.cells (grownCap w (es.length+st.size) scap e-(es.length+st.size))).toList).toArray:=by
         apply Array.ext';simp
        rw[this]
        exact hH.mono (fun _ _ h=>h) (fun _ h=>h) (fun _ _=>rfl))
      refine⟨_,_,_,hrun,hal.1,?_,hal.2⟩
      have:=qL.sl (β:=qO6 β nb ⟨some w.heap.size,1,grownCap w (es.length+st.size) scap e⟩) (F:=F) (w:=w.drew.alloc (.cells ((c.toList.take (es.length*1)).toArray++(st.data.toList.map fun (b:UInt8)=>Value.int .u8 b.toNat).toArray++Builtin.zeroCells z.cells (grownCap w (es.length+st.size) scap e-(es.length+st.size))) e))
       nb 0 (es.length+st.size) (grownCap w (es.length+st.size) scap e) w.heap.size 1 (grownCap w (es.length+st.size) scap e) ⟨w.heap.size,0,none⟩ zA (by omega) (by omega) (fun _=>by simp) rfl
      simpa using this
 ·cases hs
end Go.Eng
end
section
namespace Go.Eng
variable {cx:Cx} {β:Nat→Option BI} {F:Nat→Prop} {fm:Nat→Option V} {hm:Nat→Option Ob} {a:Act} {w:World}
variable {nb:Nat} {v:V} {W:Wr} {l:List Nat}
theorem qKv {P:Program} {ts:Array TypeId} {t ty e:TypeId} {i:TypeInfo} (h0:ts[0]?=some t) (_h1:(ts[1]?).isSome) (ht:P.underlying t=some (.slice e)) (hi:P.info? e=some i)
  (base:Option Addr) (dLen dCap:Nat) (x:Option Addr) (n cp:Nat) (news:List Value) (hn:x=none→news=[]) (hl:news.length=n*i.size)
  (hnews : ∀ ad,x=some ad → ∀ j u,news[j]?=some u→w.cell? (ad.add j)=some u) (w':World)
  (hst : ∀ ad,base=some ad→(storeCells ad (news.take (Nat.min n dLen*i.size))).run P w = .ok () w') (hb:base=none→w'=w) :
  (Builtin.copy_ ts ty #[.slice base dLen dCap,.slice x n cp]).run P w = .ok (.int .i64 (Nat.min n dLen:Nat)) w':=by
 have hle:Nat.min n dLen*i.size≤n*i.size:=Nat.mul_le_mul_right _ (Nat.min_le_left _ _)
 have hf:(Builtin.firstCells i.size (Nat.min n dLen) (.slice x n cp)).run P w = .ok (news.take (Nat.min n dLen*i.size)).toArray w:=by
  cases x with
  | none=>simp[Builtin.firstCells,hn rfl]
  | some ad=>exact run_firstCells_some w i.size (Nat.min n dLen) ad n cp _ (by rw[List.length_take,hl];omega) (fun j u hu=>by
    simp only[List.getElem?_take] at hu
    split at hu
    ·exact hnews ad rfl j u hu
    ·cases hu)
 cases base with
 | none=>simp[Builtin.copy_,h0,run_underlying ht,sizeOf,typeInfo,hi,Builtin.lenOf,hf,hb rfl,goInt]
 | some ad=>simp[Builtin.copy_,h0,run_underlying ht,sizeOf,typeInfo,hi,Builtin.lenOf,hf,hst ad rfl,goInt]
theorem zWs (R:Rel cx β F fm hm a w) {t t' e e' ty:TypeId} {ts:Array TypeId} (h0:ts[0]?=some t) (h1:ts[1]?=some t') (ht:cx.P.underlying t=some (.slice e)) (_ht':cx.P.underlying t'=some (.slice e'))
  {i:TypeInfo} (hi:cx.P.info? e=some i) {p q:Value} {vp vq:V} (hp:qL β F w vp p) (hq:qL β F w vq q)
  (hs:(qOk i.size [vp,vq]).run hm=some ((v,W),l)):Out cx β F fm hm a w v W (Builtin.copy_ ts ty #[p,q]):=by
 simp only[qOk] at hs
 obtain⟨xs,l1,l2,hx,hs1,_⟩:=qW hs
 obtain⟨hzo,hsb⟩:=qF hs1
 clear hs hs1
 obtain⟨xp,cap,news,hxeq,hxn,hsrc,hw⟩ : ∃ xp cap news,q = .slice xp xs.length cap∧(xp=none→news=[])∧Src β F w xs i.size news∧(∀ ad,xp=some ad → ∀ j u,news[j]?=some u→w.cell? (ad.add j)=some u):=by
  rcases qIt R hx hzo hq with⟨rfl,rfl⟩ | ⟨ad,cap,news,rfl,has,hs,hw⟩
  ·exact⟨none,0,[],rfl,fun _=>rfl,qOp,by simp⟩
  ·exact⟨some ad,cap,news,rfl,by simp,hs,by intro ad' h;cases h;exact hw⟩
 subst hxeq
 split at hsb
 ·rename_i id off len
  obtain⟨o,l',ho,hs2,_⟩:=yF hsb
  cases o with
  | dead=>cases hs2
  | live z' es wr full=>
   cases wr with
   | false=>cases hs2
   | true=>
    obtain⟨⟨hle,rfl⟩,hs3⟩:=qF hs2
    obtain⟨hr1,_⟩:=qB hs3
    cases hr1
    have hxt:(xs.take len).length=Nat.min xs.length len:=by rw[List.length_take];exact Nat.min_comm _ _
    have hmn:Nat.min xs.length len≤len:=Nat.min_le_right _ _
    have hmn2:Nat.min xs.length len≤xs.length:=Nat.min_le_left _ _
    cases hp with
    | slv _ sz room hb=>
     obtain⟨bi',hb',hok⟩:=R.hp id _ ho
     rw[hb] at hb';cases hb'
     simp only[qCq] at hok
     obtain⟨_,_,hnil,_⟩:=hok
     subst hnil
     have hrun:=qKv (w:=w) (ty:=ty) h0 (by rw[h1];rfl) ht hi none 0 0 xp xs.length cap news hxn hsrc.1 hw w (by simp) (fun _=>rfl)
     refine⟨_,w,β,hrun,?_,.t (.int _ _),fun _ _ h=>h⟩
     have he:zT ([]:List V) 0 (xs.take 0)=[]:=by simp[zT]
     rw[he]
     have hsame:upd hm [(id,.live i.size [] true full)]=hm:=by
      funext j
      by_cases hj:j=id
      ·subst hj;simp[upd,ho]
      ·simp[upd,hj]
     rw[hsame];exact R
    | sl _ _ _ scap b sz room bad hb hlc hr had hspot=>
     obtain⟨c,ce,fz,h2,h3,h4,h5,h6,h7,h8,h9⟩:=R.obj ho hb rfl
     simp only at h4 h5 h6 h7 h8 h9
     subst h9
     have hnl:(news.take (Nat.min xs.length len*i.size)).length=Nat.min xs.length len*i.size:=by
      have:Nat.min xs.length len*i.size≤xs.length*i.size:=Nat.mul_le_mul_right _ hmn2
      rw[List.length_take,hsrc.1];omega
     have hcl:off*i.size+Nat.min xs.length len*i.size≤c.size:=by
      rw[h4,←Nat.add_mul];exact Nat.mul_le_mul_right _ (by omega)
     have hst : ∀ ad,some bad=some ad→(storeCells ad (news.take (Nat.min xs.length len*i.size))).run cx.P w = .ok () (w.setCells b (off*i.size) (news.take (Nat.min xs.length len*i.size))):=by
      intro ad hh
      cases hh
      by_cases hlt:0<scap
      ·rw[had hlt]
       exact vO h2 h3 (by rw[hnl];exact hcl) (fun u hu=>hsrc.2.1 u (List.mem_of_mem_take hu))
      ·have hz:Nat.min xs.length len=0:=by omega
       rw[hz];simp[storeCells];rfl
     have hrun:=qKv (w:=w) (ty:=ty) h0 (by rw[h1];rfl) ht hi (some bad) len scap xp xs.length cap news hxn hsrc.1 hw _ hst (by simp)
     refine⟨_,_,β,hrun,xP R ho hb h2 h3 h4 (by rw[qD3 _ _ _ hle,hxt];exact Nat.max_le.2 ⟨h5,by omega⟩) (fun h=>by rw[qD3 _ _ _ hle,hxt];have h10:=h8 h;rw[h10];exact (Nat.max_eq_left (by omega)).symm) ?_,.t (.int _ _),fun _ _ h=>h⟩
     intro k y hy
     rw[qH9 _ _ _ hle] at hy
     split at hy
     ·rename_i hk
      have hy':xs[k-off]?=some y:=by
       simp only[List.getElem?_take] at hy
       split at hy
       ·exact hy
       ·cases hy
      obtain⟨m1,m2⟩:=hsrc.2.2 _ y hy'
      refine⟨m1,fun j r hr'=>?_⟩
      obtain⟨u,hu,hru,hou⟩:=m2 j r hr'
      have hj:j<i.size:=by rw[←m1];exact (List.getElem?_eq_some_iff.1 hr').1
      have hlt:(k-off)*i.size+j<Nat.min xs.length len*i.size:=qKs (by rw[hxt] at hk;omega) hj
      have:=qG3 (news.take (Nat.min xs.length len*i.size)) c (off*i.size) (by rw[hnl];exact hcl) ((k-off)*i.size+j) (by rw[hnl];exact hlt)
      have he:off*i.size+((k-off)*i.size+j)=k*i.size+j:=by
       rw[←Nat.add_assoc,←Nat.add_mul];congr 2;omega
      rw[he] at this
      refine⟨u,?_,hru,hou⟩
      rw[this,List.getElem?_take,if_pos hlt];exact hu
     ·rename_i hk
      obtain⟨m1,m2⟩:=h7 k y hy
      refine⟨m1,fun j r hr'=>?_⟩
      obtain⟨u,hu,hru,hou⟩:=m2 j r hr'
      have hj:j<i.size:=by rw[←m1];exact (List.getElem?_eq_some_iff.1 hr').1
      refine⟨u,?_,hru,hou⟩
      rw[qAo _ _ _ _ ?_];exact hu
      rw[hnl]
      rw[hxt] at hk
      by_cases hko:k<off
      ·left;exact qKs hko hj
      ·right
       have:(off+Nat.min xs.length len)*i.size≤k*i.size:=Nat.mul_le_mul_right _ (by omega)
       rw[Nat.add_mul] at this;omega
 ·cases hsb
theorem qGe {P:Program} {w:World} {op:BinOp} {t:TypeId} {x y:Operand} {b:Option Addr} {n c:Nat} {q:Value}:(eqGuard op t x y (.slice b n c) q).run P w = .ok () w:=by cases op<;>rfl
theorem qD8 {P:Program} (w:World) (d:Nat) (t e:TypeId) (b:Option Addr) (n c:Nat) (h:P.underlying t=some (.slice e)):(Op.equalIn (d+1) t (.slice b n c) (.slice none 0 0)).run P w = .ok b.isNone w:=by
 cases b<;>simp[Op.equalIn,run_underlying h]
theorem zGy {t e:TypeId} (h:cx.P.underlying t=some (.slice e)) (x y:Operand) (b:Option Addr) (n c:Nat):(do eqGuard .eql t x y (.slice b n c) (.slice none 0 0);binOp .eql t (.slice b n c) (.slice none 0 0):Sem Value).run cx.P w = .ok (.bool b.isNone) w:=by
 have h1:(Op.equal t (.slice b n c) (.slice none 0 0)).run cx.P w = .ok b.isNone w:=qD8 w 9999 t e b n c h
 rw[Sem.run_bind,qGe]
 simp only[Result.andThen_ok,binOp]
 simp[h1]
theorem zGz {t e:TypeId} (h:cx.P.underlying t=some (.slice e)) (x y:Operand) (b:Option Addr) (n c:Nat):(do eqGuard .neq t x y (.slice b n c) (.slice none 0 0);binOp .neq t (.slice b n c) (.slice none 0 0):Sem Value).run cx.P w = .ok (.bool (!b.isNone)) w:=by
 have h1:(Op.equal t (.slice b n c) (.slice none 0 0)).run cx.P w = .ok b.isNone w:=qD8 w 9999 t e b n c h
 rw[Sem.run_bind,qGe]
 simp only[Result.andThen_ok,binOp]
 simp[h1]
theorem qN3 {neg:Bool} {vp vq v:V} {W:Wr} {l:List Nat} {p q:Value} (hp:qL β F w vp p) (hq:qL β F w vq q) (hs:(qIp neg [vp,vq]).run hm=some ((v,W),l)) :
  W=[]∧q = .slice none 0 0 ∧ ∃ b n c,p = .slice b n c∧qL β F w v (.bool (if neg then !b.isNone else b.isNone)):=by
 unfold qIp at hs
 split at hs
 ·rename_i es heq
  cases heq
  obtain⟨hr,_⟩:=qB hs
  cases hr
  cases hq
  refine⟨rfl,rfl,?_⟩
  cases hp with
  | t h=>
   cases h with
   | nil=>exact⟨none,0,0,rfl,.bq _⟩
   | sl _ a cap sz news ha hc hn h1 hF hw hz h=>
    refine⟨some a,_,cap,rfl,?_⟩
    cases es with
    | nil=>exact .bq _
    | cons x r=>cases neg<;>exact .t (.bool _)
 ·rename_i id off len heq
  cases heq
  obtain⟨hr,_⟩:=qB hs
  cases hr
  cases hq
  refine⟨rfl,rfl,?_⟩
  cases hp with
  | sl _ _ _ cap b sz room a hb hlc hr ha hsp=>
   refine⟨some a,_,cap,rfl,?_⟩
   split
   ·exact .bq _
   ·cases neg<;>exact .t (.bool _)
  | slv _ sz room hb=>exact⟨none,0,0,rfl,.bq _⟩
 ·rename_i heq
  cases heq
  obtain⟨hr,_⟩:=qB hs
  cases hr
  cases hq
  cases hp
  refine⟨rfl,rfl,none,0,0,rfl,?_⟩
  cases neg<;>exact .t (.bool _)
 ·cases hs
theorem zK9 (R:Rel cx β F fm hm a w) {src e:TypeId} (hd:cx.P.underlying src=some (.slice e)) (he:cx.P.underlying e=some (.int .u8)) {id off len z:Nat} {es:List V} {full:Bool} (ho:hm id=some (.live z es true full)) (hlen:0<len) (hne:0<es.length)
  {x:Value} (hx:qL β F w (.sl id off len) x):Out cx β F fm hm a w (.sl id off len) [(id,.live z es true full)] (convert src src x):=by
 cases hx with
 | slv _ sz room hb=>omega
 | sl _ _ _ cap b sz room ad hb hlc hr ha hs=>
  obtain⟨c,ce,fz,h2,h3,h4,h5,h6,h7,h8,h9⟩:=R.obj ho hb rfl
  have had:=ha (by omega)
  subst had
  have hrun:(convert src src (.slice (some ⟨b,off*sz,none⟩) len cap)).run cx.P w = .ok (.slice (some ⟨b,off*sz,none⟩) len cap) (w.freeze ⟨b,c.size,none⟩ 1):=by
   simp[convert,run_underlying hd,run_underlying he,markStringish,Go.shape,Go.freeze,World.shape?,h2,Sem.run]
  have hthis:(w.freeze ⟨b,c.size,none⟩ 1).heap[b]?=some (.cells c ce (if fz.1==fz.2 then (c.size,c.size+1) else (min fz.1 c.size,max fz.2 (c.size+1)))):=by
   simp[World.freeze,Array.getElem?_modify,h2]
  have hw:=R.write (w':=w.freeze ⟨b,c.size,none⟩ 1) ho hb rfl rfl rfl rfl (by simp[World.freeze]) (fun k hk=>by simp[World.freeze,Array.getElem?_modify,Ne.symm hk]) hthis
   (fun j=>by
    obtain⟨q1,q2⟩:=h3 j
    split
    ·exact⟨fun hj=>by simp only;omega,by simp only;omega⟩
    ·rename_i hne'
     have hlt:fz.1≠fz.2:=by simpa using hne'
     have q3 : ¬ fz.1<c.size:=fun h=>by
      have:=(h3 fz.1).1 h
      omega
     exact⟨fun hj=>by simp only;omega,by simp only;omega⟩) h4 h5 h8 h7
  exact⟨_,_,β,hrun,hw,.sl id off len cap b sz room _ hb hlc hr ha hs,fun _ _ h=>h⟩
theorem Rel.trunc (R:Rel cx β F fm hm a w) {id z:Nat} {es:List V} {full:Bool} (ho:hm id=some (.live z es true full)) (n:Nat):Rel cx β F fm (upd hm [(id,.live z (es.take n) true false)]) a w:=by
 obtain⟨bi,hb,hok⟩:=R.hp id _ ho
 have back : ∀ (k:Nat) (o:Ob),upd hm [(id,.live z (es.take n) true false)] k=some o→o≠ .dead → ∃ o',hm k=some o'∧o'≠ .dead:=by
  intro k o h1 h2
  by_cases h:k=id
  ·subst h;exact⟨_,ho,by simp⟩
  ·rw[qI h] at h1;exact⟨o,h1,h2⟩
 refine R.step (fun _ _ h=>h) rfl rfl rfl (Nat.le_refl _) (fun b _=> .inl rfl) (fun j o' ho'=>?_) (fun j hn=>?_) (fun i j bi bj b oi oj h1 h2 h3 h4 h5 h6 h7 h8=>?_) (fun j z' es' full' bi' b h1 h2 h3=>?_) (fun j bi' b h1 h2=>R.blt j bi' b h1 h2)
 ·by_cases h:j=id
  ·subst h
   rw[zJ] at ho';cases ho'
   refine⟨bi,hb,?_⟩
   unfold qCq at hok ⊢
   obtain⟨g1,_,g3⟩:=hok
   refine⟨g1,⟨(fun h=>by simp at h),?_⟩⟩
   cases hbk:bi.blk with
   | none=>
    simp only[hbk] at g3 ⊢
    exact⟨by rw[g3.1];simp,g3.2⟩
   | some b=>
    simp only[hbk] at g3 ⊢
    obtain⟨c,e,fz,k1,k2,k3,k4,k5,k6,k7⟩:=g3
    refine⟨c,e,fz,k1,k2,k3,by rw[List.length_take];omega,k5,fun i x hx=>?_,k7⟩
    rw[List.getElem?_take] at hx
    split at hx
    ·exact k6 i x hx
    ·cases hx
  ·rw[qI h] at ho';exact R.hp j o' ho'
 ·by_cases h:j=id
  ·subst h;rw[zJ] at hn;cases hn
  ·rw[qI h] at hn;exact R.dom j hn
 ·obtain⟨o1,p1,p2⟩:=back i oi h5 h7
  obtain⟨o2,p3,p4⟩:=back j oj h6 h8
  exact R.inj i j bi bj b o1 o2 h1 h2 h3 h4 p1 p3 p2 p4
 ·by_cases h:j=id
  ·subst h;exact R.old j z es full bi' b ho h2 h3
  ·rw[qI h] at h1
   exact R.old j z' es' full' bi' b h1 h2 h3
theorem qR4 (R:Rel cx β F fm hm a w) {o:Oper} {ao:AO} {xs:List Operand} {vs:List V} (han:zDt cx.P o.op=some (ao,xs))
  (hv:wU (fun x v=>qL β F w v (a.eval x)) xs vs) (hs:(sem ao vs nb).run hm=some ((v,W),l)):zNe cx β F fm hm a w v W (execOp a.eval o):=by
 obtain⟨dst,op,ty,pos,after,guard⟩:=o
 have mov : ∀ {x:Operand},ao = .mov→xs=[x]→zNe cx β F fm hm a w v W (pure (.value (a.eval x))):=by
  intro x h1 h2
  subst h1 h2
  obtain⟨p,rfl,hp⟩:=jF hv
  simp only[sem,zAr] at hs
  obtain⟨hr,_⟩:=qB hs
  cases hr
  exact (zQ1 R hp).o
 cases op<;>simp only[zDt] at han<;>(try (cases han;done))
 case move x=>cases han;exact mov rfl rfl
 case assign x=>cases han;exact mov rfl rfl
 case pick c x y=>
  cases han
  obtain⟨p,q,r,rfl,hp,hq,hr⟩:=qQa hv
  have:=zWw R hs ⟨p,q,r,rfl,hp,hq,hr⟩
  obtain⟨u,w',β',h1,h2,h3,h4⟩:=this
  refine⟨.value u,w',β',u,?_,.inl rfl,h2,h3,h4⟩
  simp only[execOp]
  simp only[Sem.run_bind] at h1 ⊢
  cases hb:(asBool (a.eval c)).run cx.P w with
  | ok b w1=>
   rw[hb] at h1
   simp only[Result.andThen_ok,Sem.run_pure,Result.ok.injEq] at h1 ⊢
   exact⟨by rw[h1.1],h1.2⟩
  | halt h w1=>rw[hb] at h1;cases h1
 case alloc e=>
  have hx0:xs=[]:=by
   unfold qLi at han
   split at han
   ·split at han
    ·split at han
     ·split at han
      ·simp only[Option.bind_eq_some_iff] at han
       obtain⟨cs,_,han⟩:=han
       split at han
       ·cases han;rfl
       ·cases han
      ·simp only[Option.map_eq_some_iff] at han
       obtain⟨zv,_,han⟩:=han
       cases han;rfl
     ·cases han
    ·cases han
   ·cases han
  subst hx0
  cases hv
  exact (zZ3 R han hs).1.o
 case box e x=>
  split at han
  ·cases han
   obtain⟨p,rfl,hp⟩:=jF hv
   exact (zL3 R hp hs).o
  ·cases han
   obtain⟨p,rfl,hp⟩:=jF hv
   exact (zZ1 R hp hs).o
  ·cases han
 case build t ps=>exact (zR1 R han hv hs).o
 case buildSlice t n ps=>exact (zL4 R han hv hs).o
 case load t x=>exact (zWu R han hv hs).o
 case store t x y=>
  simp only[Option.map_eq_some_iff] at han
  obtain⟨i,hi,han⟩:=han
  cases han
  obtain⟨p,q,rfl,hp,hq⟩:=jC hv
  obtain⟨h1,rfl⟩:=zSa R hi hp hq hs
  exact h1.o
 case nilCheck x=>
  cases han
  obtain⟨p,rfl,hp⟩:=jF hv
  obtain⟨h1,rfl,ad,hx⟩:=zL5 hp hs
  refine⟨.value (a.eval x),w,β,a.eval x,?_,.inl rfl,R,h1,fun _ _ h=>h⟩
  simp[execOp,hx]
 case binOp op t x y yt=>
  split at han
  ·rename_i hd
   cases han
   obtain⟨p,q,rfl,hp,hq⟩:=jC hv
   simp only[sem] at hs
   unfold qVd at hs
   split at hs
   ·rename_i b c heq
    cases heq
    obtain⟨hr,_⟩:=qB hs
    cases hr
    refine⟨.value (.bool (b==c)),w,β,.bool (b==c),?_,.inl rfl,R,.t (.bool _),fun _ _ h=>h⟩
    have e1:=hp.bool_inv
    have e2:=hq.bool_inv
    simp only[execOp,e1,e2,Sem.run_bind,qD6,Result.andThen_ok,run_eql_bool w t b c hd,Sem.run_pure]
   ·cases hs
  ·rename_i hd
   cases han
   obtain⟨p,q,rfl,hp,hq⟩:=jC hv
   simp only[sem] at hs
   unfold qVd at hs
   split at hs
   ·rename_i b c heq
    cases heq
    obtain⟨hr,_⟩:=qB hs
    cases hr
    refine⟨.value (.bool (!(b==c))),w,β,.bool (!(b==c)),?_,.inl rfl,R,.t (.bool _),fun _ _ h=>h⟩
    have e1:=hp.bool_inv
    have e2:=hq.bool_inv
    simp only[execOp,e1,e2,Sem.run_bind,qD6,Result.andThen_ok,run_neq_bool w t b c hd,Sem.run_pure]
   ·cases hs
  ·rename_i e hd
   cases han
   obtain⟨p,q,rfl,hp,hq⟩:=jC hv
   simp only[sem] at hs
   obtain⟨rfl,e2,b,n,c,e1,hr⟩:=qN3 hp hq hs
   refine⟨.value (.bool b.isNone),w,β,.bool b.isNone,?_,.inl rfl,R,hr,fun _ _ h=>h⟩
   simp only[execOp,e1,e2]
   rw[Sem.run_bind,zGy hd];rfl
  ·rename_i e hd
   cases han
   obtain⟨p,q,rfl,hp,hq⟩:=jC hv
   simp only[sem] at hs
   obtain⟨rfl,e2,b,n,c,e1,hr⟩:=qN3 hp hq hs
   refine⟨.value (.bool (!b.isNone)),w,β,.bool (!b.isNone),?_,.inl rfl,R,hr,fun _ _ h=>h⟩
   simp only[execOp,e1,e2]
   rw[Sem.run_bind,zGz hd];rfl
  ·rename_i n e hd
   unfold qZa at han
   split at han
   ·rename_i k i hk hi
    split at han
    ·rename_i hc
     cases han
     obtain⟨hz,hg⟩:=hc
     obtain⟨p,q,rfl,hp,hq⟩:=jC hv
     simp only[sem] at hs
     unfold qOj at hs
     split at hs
     ·rename_i xs ys heq
      cases heq
      obtain⟨a',ha,hs⟩:=qC hs
      obtain⟨b',hb,hs⟩:=qC hs
      obtain⟨⟨la,lb⟩,hs⟩:=qF hs
      obtain⟨hr,_⟩:=qB hs
      cases hr
      have e1:=qB6 hp ha
      have e2:=qB6 hq hb
      have hrun:=zGx w false x y t e n k hd hk (fun w=>by rw[jU hi,hz]) hg a' b' la lb
      refine⟨_,w,β,_,?_,.inl rfl,R,.t (.bool _),fun _ _ h=>h⟩
      simp only[execOp,e1,e2]
      simp only[Bool.false_eq_true,if_false] at hrun
      rw[Sem.run_bind,hrun];rfl
     ·cases hs
    ·cases han
   ·cases han
  ·rename_i n e hd
   unfold qZa at han
   split at han
   ·rename_i k i hk hi
    split at han
    ·rename_i hc
     cases han
     obtain⟨hz,hg⟩:=hc
     obtain⟨p,q,rfl,hp,hq⟩:=jC hv
     simp only[sem] at hs
     unfold qOj at hs
     split at hs
     ·rename_i xs ys heq
      cases heq
      obtain⟨a',ha,hs⟩:=qC hs
      obtain⟨b',hb,hs⟩:=qC hs
      obtain⟨⟨la,lb⟩,hs⟩:=qF hs
      obtain⟨hr,_⟩:=qB hs
      cases hr
      have e1:=qB6 hp ha
      have e2:=qB6 hq hb
      have hrun:=zGx w true x y t e n k hd hk (fun w=>by rw[jU hi,hz]) hg a' b' la lb
      refine⟨_,w,β,_,?_,.inl rfl,R,.t (.bool _),fun _ _ h=>h⟩
      simp only[execOp,e1,e2]
      simp only[if_true] at hrun
      rw[Sem.run_bind,hrun];rfl
     ·cases hs
    ·cases han
   ·cases han
  ·rename_i fs hd
   unfold qZb at han
   split at han
   ·split at han
    ·rename_i k hk
     split at han
     ·rename_i hc
      cases han
      obtain⟨hf,hg,hst⟩:=hc
      obtain⟨p,q,rfl,hp,hq⟩:=jC hv
      simp only[sem] at hs
      unfold qOj at hs
      split at hs
      ·rename_i xs ys heq
       cases heq
       obtain⟨a',ha,hs⟩:=qC hs
       obtain⟨b',hb,hs⟩:=qC hs
       obtain⟨⟨la,lb⟩,hs⟩:=qF hs
       obtain⟨hr,_⟩:=qB hs
       cases hr
       have e1:=qB6 hp ha
       have e2:=qB6 hq hb
       have hrun:=zAi w false x y t fs k hd hf hg hst a' b' la lb
       refine⟨_,w,β,_,?_,.inl rfl,R,.t (.bool _),fun _ _ h=>h⟩
       simp only[execOp,e1,e2]
       simp only[Bool.false_eq_true,if_false] at hrun
       rw[Sem.run_bind,hrun];rfl
      ·cases hs
     ·cases han
    ·cases han
   ·cases han
  ·rename_i fs hd
   unfold qZb at han
   split at han
   ·split at han
    ·rename_i k hk
     split at han
     ·rename_i hc
      cases han
      obtain⟨hf,hg,hst⟩:=hc
      obtain⟨p,q,rfl,hp,hq⟩:=jC hv
      simp only[sem] at hs
      unfold qOj at hs
      split at hs
      ·rename_i xs ys heq
       cases heq
       obtain⟨a',ha,hs⟩:=qC hs
       obtain⟨b',hb,hs⟩:=qC hs
       obtain⟨⟨la,lb⟩,hs⟩:=qF hs
       obtain⟨hr,_⟩:=qB hs
       cases hr
       have e1:=qB6 hp ha
       have e2:=qB6 hq hb
       have hrun:=zAi w true x y t fs k hd hf hg hst a' b' la lb
       refine⟨_,w,β,_,?_,.inl rfl,R,.t (.bool _),fun _ _ h=>h⟩
       simp only[execOp,e1,e2]
       simp only[if_true] at hrun
       rw[Sem.run_bind,hrun];rfl
      ·cases hs
     ·cases han
    ·cases han
   ·cases han
  ·cases han
   obtain⟨p,q,rfl,hp,hq⟩:=jC hv
   simp only[sem] at hs
   unfold zAo at hs
   split at hs
   ·rename_i p' q' heq
    cases heq
    obtain⟨r,hbr,hs⟩:=qC hs
    obtain⟨hr,_⟩:=qB hs
    cases hr
    cases hp with
    | t hp=>
     cases hq with
     | t hq=>
      obtain⟨u,h1,h2⟩:=zDy (P:=cx.P) (t:=t) (xo:=x) (yo:=y) hbr hp hq
      refine⟨.value u,w,β,u,?_,.inl rfl,R,.t h2,fun _ _ h=>h⟩
      simp only[execOp]
      rw[Sem.run_bind,h1];rfl
   ·cases hs
 case unOp op t x=>
  cases han
  obtain⟨p,rfl,hp⟩:=jF hv
  simp only[sem] at hs
  unfold zL8 at hs
  split at hs
  ·rename_i p' heq
   cases heq
   obtain⟨r,hbr,hs⟩:=qC hs
   obtain⟨hr,_⟩:=qB hs
   cases hr
   cases hp with
   | t hp=>
    obtain⟨u,h1,h2⟩:=zMv (P:=cx.P) hbr hp
    exact (Out.same R h1 (.t h2)).o
  ·cases hs
 case convert s d x=>
  unfold qQc at han
  split at han
  ·rename_i k0 k hsrc hdst
   cases han
   obtain⟨p,rfl,hp⟩:=jF hv
   simp only[sem] at hs
   unfold qDt at hs
   split at hs
   ·rename_i k1 n heq
    cases heq
    obtain⟨hr,_⟩:=qB hs
    cases hr
    have e1:=hp.int_inv
    have:=Out.same R (x:= .int k (k.wrap n)) (s:=convert s d (a.eval x)) (by rw[e1];simp[convert,run_underlying hsrc,run_underlying hdst,Conv.intToInt]) (.t (.int _ _))
    exact this.o
   ·cases hs
  ·rename_i hsrc hdst
   cases han
   obtain⟨p,rfl,hp⟩:=jF hv
   simp only[sem] at hs
   unfold qSj at hs
   split at hs
   ·rename_i st heq
    cases heq
    obtain⟨hr,_⟩:=qB hs
    cases hr
    have e1:=hp.str_inv
    exact (Out.same R (x:= .string st) (s:=convert s d (a.eval x)) (by rw[e1];simp[convert,run_underlying hsrc,run_underlying hdst]) (.t (.str _))).o
   ·cases hs
  ·rename_i e hsrc hdst
   split at han
   ·rename_i he
    cases han
    obtain⟨p,rfl,hp⟩:=jF hv
    simp only[sem] at hs
    unfold qQz at hs
    split at hs
    ·rename_i st heq
     cases heq
     obtain⟨hsz,hs⟩:=qF hs
     obtain⟨hnb,l',hr,_⟩:=vZ hs
     obtain⟨hr1,_⟩:=qB hr
     cases hr1
     have:=zQ2 R hnb hsrc hdst he hsz
     rw[←hp.str_inv] at this
     exact this.o
    ·cases hs
   ·cases han
  ·rename_i e hsrc hdst
   split at han
   ·rename_i he
    cases han
    obtain⟨p,rfl,hp⟩:=jF hv
    simp only[sem,zAn] at hs
    obtain⟨es,l1,l2,hx,hs,_⟩:=qW hs
    obtain⟨bs,hbs,hs⟩:=qC hs
    obtain⟨hr,_⟩:=qB hs
    cases hr
    exact (zQ0 R hsrc he hdst hx hp hbs).o
   ·cases han
  ·rename_i e hsrc hdst
   split at han
   ·rename_i hsd
    subst hsd
    split at han
    ·rename_i he
     cases han
     obtain⟨p,rfl,hp⟩:=jF hv
     simp only[sem] at hs
     unfold qSg at hs
     split at hs
     ·rename_i id off len heq
      cases heq
      obtain⟨ob,l',ho,hs2,_⟩:=yF hs
      cases ob with
      | dead=>cases hs2
      | live z es wr full=>
       cases wr with
       | false=>cases hs2
       | true=>
        obtain⟨⟨hlen,hne⟩,hs3⟩:=qF hs2
        obtain⟨hr,_⟩:=qB hs3
        cases hr
        exact (zK9 R hdst he ho hlen hne hp).o
     ·cases hs
    ·cases han
   ·cases han
  ·cases han
 case makeFunc fn first caps=>
  unfold zDs at han
  split at han
  ·rename_i f
   split at han
   ·rename_i hf0
    cases han
    simp only[sem,qSi] at hs
    obtain⟨hr,_⟩:=qB hs
    cases hr
    have hfe:first = #[]:=Array.eq_empty_of_size_eq_zero hf0
    subst hfe
    have hl:=hv.length
    have:=Out.same R (x:= .func (.func f) #[] (caps.map a.eval)) (s:=Instr.makeFunc (.func f) (#[].map a.eval) (caps.map a.eval)) (v:= .fn f vs) (by simp[Instr.makeFunc])
     (.fn f vs _ (by simpa using hl) (fun i c u hc hu=>by
      obtain⟨x,hx,hr⟩:=hv.get i c hc
      have:(caps.map a.eval)[i]?=some (a.eval x):=by
       rw[Array.getElem?_map]
       rw[Array.getElem?_toList] at hx
       rw[hx];rfl
      rw[this] at hu;cases hu;exact hr))
    exact this.o
   ·split at han
    ·rename_i hf1
     cases han
     obtain⟨hf1,hc0⟩:=hf1
     have hce:caps = #[]:=Array.eq_empty_of_size_eq_zero hc0
     subst hce
     obtain⟨r0,hr0⟩ : ∃ r0,first = #[r0]:=by
      obtain⟨l⟩:=first
      match l,hf1 with
      | [r0],_=>exact⟨r0,rfl⟩
     subst hr0
     obtain⟨p,rfl,hp⟩:=jF hv
     simp only[sem] at hs
     unfold qSh at hs
     split at hs
     ·rename_i id i fo heq
      cases heq
      obtain⟨hr,_⟩:=qB hs
      cases hr
      generalize h0:a.eval r0=y0 at hp
      cases hp with
      | ref _ _ _ b sz room hb=>
       have:=Out.same R (x:= .func (.func f) #[.pointer (some ⟨b,i*sz+fo,none⟩)] #[]) (s:=Instr.makeFunc (.func f) (#[r0].map a.eval) (#[].map a.eval)) (v:= .bd f id i fo) (by simp[Instr.makeFunc,h0])
        (.bd f id i fo b sz room hb)
       exact this.o
     ·cases hs
    ·cases han
  ·cases han
 case makeSlice t p q=>
  unfold zDr at han
  split at han
  ·rename_i e ht
   split at han
   ·rename_i i d hi hd
    split at han
    ·rename_i z hz
     split at han
     ·rename_i hone
      simp only[Option.bind_eq_some_iff] at han
      obtain⟨zv,hzv,han⟩:=han
      split at han
      ·rename_i hsz
       cases han
       obtain⟨x,y,rfl,hx,hy⟩:=jC hv
       simp only[sem,zL7] at hs
       obtain⟨ln,hln,hs⟩:=qC hs
       obtain⟨cn,hcn,hs⟩:=qC hs
       obtain⟨⟨h0,hlc,hso⟩,hs⟩:=qF hs
       obtain⟨hnb,l',hr,_⟩:=vZ hs
       obtain⟨hr1,_⟩:=qB hr
       cases hr1
       exact (zLa R hnb ht hi hz hzv hone hsz hx hy hln hcn h0 hlc hso).o
      ·cases han
     ·cases han
    ·cases han
   ·cases han
  ·cases han
 case slice t x lo hi mx=>exact (zR9 R han hv hs).o
 case fieldAddr s x f=>exact (zR5 R han hv hs).o
 case field s x f=>exact (zR6 R han hv hs).o
 case indexAddr t x ix=>exact (zR7 R han hv hs).o
 case index t x ix=>exact (zR8 R han hv hs).o
 case extract x i=>
  cases han
  obtain⟨p,rfl,hp⟩:=jF hv
  exact (zG0 R hp hs).o
 case call c=>
  obtain⟨callee,args,ts⟩:=c
  cases callee with
  | value f=>cases han
  | invoke r m=>cases han
  | builtin b=>
   simp only at han
   have red : ∀ {s:Sem Value} (_ : ∀ cs,builtin b ts ty cs (args.map a.eval)=(do pure (.value (←s)))),Out cx β F fm hm a w v W s→zNe cx β F fm hm a w v W (execOp a.eval ⟨dst,.call ⟨.builtin b,args,ts⟩,ty,pos,after,guard⟩):=by
    intro s h1 h2
    have:execOp a.eval ⟨dst,.call ⟨.builtin b,args,ts⟩,ty,pos,after,guard⟩=(do pure (.value (←s))):=by
     rw[←h1]
     simp only[execOp,resolve]
     rfl
    rw[this]
    exact h2.o
   have arg1 : ∀ {x:Operand},args.toList=[x]→args.map a.eval = #[a.eval x]:=fun h=>by apply Array.ext';simp[h]
   have arg2 : ∀ {x y:Operand},args.toList=[x,y]→args.map a.eval = #[a.eval x,a.eval y]:=fun h=>by apply Array.ext';simp[h]
   unfold qQb at han
   split at han
   ·
    rename_i x t r hargs hts
    have ht0:ts[0]?=some t:=by rw[←Array.getElem?_toList,hts];rfl
    split at han
    ·rename_i hd
     cases han
     obtain⟨p,rfl,hp⟩:=jF hv
     exact red (s:=Builtin.len_ ts ty #[a.eval x]) (fun cs=>by simp only[builtin,arg1 hargs]) (zWx R ht0 hd hp hs)
    ·rename_i e hd
     cases han
     obtain⟨p,rfl,hp⟩:=jF hv
     exact red (s:=Builtin.len_ ts ty #[a.eval x]) (fun cs=>by simp only[builtin,arg1 hargs]) (zZ2 R ht0 hd hp hs)
    ·rename_i n e hd
     cases han
     obtain⟨p,rfl,hp⟩:=jF hv
     simp only[sem,qOl] at hs
     obtain⟨hr,_⟩:=qB hs
     cases hr
     exact red (s:=Builtin.len_ ts ty #[a.eval x]) (fun cs=>by simp only[builtin,arg1 hargs]) (Out.same R (x:= .int .i64 n) (by simp[Builtin.len_,ht0,run_underlying hd,goInt]) (.t (.int _ _)))
    ·rename_i e hd
     split at han
     ·rename_i n e2 hd2
      cases han
      obtain⟨p,rfl,hp⟩:=jF hv
      simp only[sem,qOl] at hs
      obtain⟨hr,_⟩:=qB hs
      cases hr
      exact red (s:=Builtin.len_ ts ty #[a.eval x]) (fun cs=>by simp only[builtin,arg1 hargs]) (Out.same R (x:= .int .i64 n) (by simp[Builtin.len_,ht0,run_underlying hd,run_underlying hd2,goInt]) (.t (.int _ _)))
     ·cases han
    ·cases han
   ·
    rename_i x y t t' r hargs hts
    obtain⟨ht0,ht1⟩:=qTi hts
    split at han
    ·rename_i e e' hd hd'
     split at han
     ·rename_i i hi
      split at han
      ·rename_i z hz
       split at han
       ·rename_i hzs
        cases han
        obtain⟨p,q,rfl,hp,hq⟩:=jC hv
        exact red (s:=Builtin.append_ ts ty #[a.eval x,a.eval y]) (fun cs=>by simp only[builtin,arg2 hargs]) (zL1 R ht0 ht1 hd hd' hi hz hzs hp hq hs)
       ·cases han
      ·cases han
     ·cases han
    ·rename_i e hd hd'
     split at han
     ·rename_i i hi
      split at han
      ·rename_i z hz
       split at han
       ·rename_i hzs
        cases han
        obtain⟨p,q,rfl,hp,hq⟩:=jC hv
        exact red (s:=Builtin.append_ ts ty #[a.eval x,a.eval y]) (fun cs=>by simp only[builtin,arg2 hargs]) (zL2 R ht0 ht1 hd hd' hi hz hzs.1 hzs.2.1 hzs.2.2 hp hq hs)
       ·cases han
      ·cases han
     ·cases han
    ·cases han
   ·
    rename_i x y t t' r hargs hts
    obtain⟨ht0,ht1⟩:=qTi hts
    split at han
    ·rename_i e e' hd hd'
     simp only[Option.map_eq_some_iff] at han
     obtain⟨i,hi,han⟩:=han
     cases han
     obtain⟨p,q,rfl,hp,hq⟩:=jC hv
     exact red (s:=Builtin.copy_ ts ty #[a.eval x,a.eval y]) (fun cs=>by simp only[builtin,arg2 hargs]) (zWs R ht0 ht1 hd hd' hi hp hq hs)
    ·cases han
   ·
    rename_i x y hargs
    cases han
    obtain⟨p,q,rfl,hp,hq⟩:=jC hv
    simp only[sem] at hs
    unfold zAq at hs
    split at hs
    ·rename_i k n k' m heq
     cases heq
     obtain⟨hr,_⟩:=qB hs
     cases hr
     have e1:=hp.int_inv
     have e2:=hq.int_inv
     exact red (s:=Builtin.min_ ts ty #[a.eval x,a.eval y]) (fun cs=>by simp only[builtin,arg2 hargs]) (Out.same R (x:= .int k (if m<n then m else n)) (by rw[e1,e2];simp[Builtin.min_,Builtin.min2]) (.t (.int _ _)))
    ·cases hs
   ·
    rename_i x y hargs
    cases han
    obtain⟨p,q,rfl,hp,hq⟩:=jC hv
    simp only[sem] at hs
    unfold zAp at hs
    split at hs
    ·rename_i k n k' m heq
     cases heq
     obtain⟨hr,_⟩:=qB hs
     cases hr
     have e1:=hp.int_inv
     have e2:=hq.int_inv
     exact red (s:=Builtin.max_ ts ty #[a.eval x,a.eval y]) (fun cs=>by simp only[builtin,arg2 hargs]) (Out.same R (x:= .int k (if m>n then m else n)) (by rw[e1,e2];simp[Builtin.max_,Builtin.max2]) (.t (.int _ _)))
    ·cases hs
   ·cases han
theorem AO.cut_or (o:AO):(∃ z b,o = .append z b∧o.cut = .appendt z b)∨o.cut=o:=by
 cases o<;>first | exact .inl ⟨_,_,rfl,rfl⟩ | exact .inr rfl
theorem qUx (R:Rel cx β F fm hm a w) {o:Oper} {z b:Nat} {xs:List Operand} {vs:List V} (han:zDt cx.P o.op=some (.append z b,xs))
  (hv:wU (fun x v=>qL β F w v (a.eval x)) xs vs) (hs:(sem (.appendt z b) vs nb).run hm=some ((v,W),l)):zNe cx β F fm hm a w v W (execOp a.eval o):=by
 simp only[sem] at hs
 unfold qFo at hs
 split at hs
 ·rename_i id len ts
  obtain⟨hz,hs⟩:=qF hs
  obtain⟨ob,l',ho,hs2,_⟩:=yF hs
  cases ob with
  | dead=>cases hs2
  | live z' es wr full=>
   cases wr with
   | false=>cases hs2
   | true=>
    obtain⟨⟨⟨rfl,hle⟩,hsz,h100⟩,hs3⟩:=qF hs2
    obtain⟨hnb,l'',hr,_⟩:=vZ hs3
    obtain⟨hr1,_⟩:=qB hr
    cases hr1
    have hne:id≠nb:=fun h=>by subst h;rw[ho] at hnb;cases hnb
    have hl:(es.take len).length=len:=by rw[List.length_take];omega
    have hnb':upd hm [(id,.live z' (es.take len) true false)] nb=none:=by rw[qI (Ne.symm hne)];exact hnb
    have hs':(sem (.append z' b) [.sl id 0 len,.t (.sl ts)] nb).run (upd hm [(id,.live z' (es.take len) true false)])=some ((.sl nb 0 (len+ts.length),[(id,.dead),(nb,.live z' (es.take len++ts.map .t) true false)]),[id,nb]):=by
     simp only[sem,qC1,qAf,Q.bind,Q.assert,hz,if_true,List.length_map]
     simp only[Q.run,zJ,hl,hsz,h100,and_self,if_true,hnb']
    have h:=qR4 (R.trunc ho len) han hv hs'
    have e:upd (upd hm [(id,.live z' (es.take len) true false)]) [(id,.dead),(nb,.live z' (es.take len++ts.map .t) true false)]=upd hm [(id,.dead),(nb,.live z' (es.take len++ts.map .t) true false)]:=by
     funext j
     simp only[upd]
     split
     ·rfl
     ·split<;>rfl
    unfold zNe at h ⊢
    rw[e] at h
    exact h
 ·cases hs
end Go.Eng
end
section
namespace Go.Eng
mutual
def V.ren (ρ:Nat→Nat):V→V
 | .t x=> .t x
 | .nil=> .nil
 | .ref id i f=> .ref (ρ id) i f
 | .ro cs=> .ro cs
 | .sl id off len=> .sl (ρ id) off len
 | .agg cs=> .agg (qC6 ρ cs)
 | .tup cs=> .tup (qC6 ρ cs)
 | .fn f cs=> .fn f (qC6 ρ cs)
 | .bd g id i f=> .bd g (ρ id) i f
 | .bq=> .bq
def qC6 (ρ:Nat→Nat):List V→List V
 | []=>[]
 | c::r=>c.ren ρ::qC6 ρ r
end
theorem zF (ρ:Nat→Nat) (l:List V):qC6 ρ l=l.map (V.ren ρ):=by
 induction l with
 | nil=>rfl
 | cons c r ih=>simp[qC6,ih]
theorem zOg (ρ:Nat→Nat) (ts:List T):qC6 ρ (ts.map .t)=ts.map .t:=by
 rw[zF,List.map_map]
 apply List.map_congr_left
 intro x _;rfl
def Ob.ren (ρ:Nat→Nat):Ob→Ob
 | .live z es wr full=> .live z (qC6 ρ es) wr full
 | .dead=> .dead
theorem qEs (ρ:Nat→Nat) (v:V):(v.ren ρ).cells=qC6 ρ v.cells:=by
 cases v with
 | t x=>cases x<;>simp[V.ren,V.cells,qC6,zOg]
 | _=>simp[V.ren,V.cells,qC6]
variable {β:Nat→Option BI} {F:Nat→Prop} {w:World}
theorem qL.ren {ρ:Nat→Nat} {v:V} {x:Value} (h:qL (fun k=>β (ρ k)) F w v x):qL β F w (v.ren ρ) x:=by
 induction h with
 | t h=>exact .t h
 | nil=>exact .nil
 | ref id i f b sz room hb=>exact .ref _ i f b sz room hb
 | bd g id i f b sz room hb=>exact .bd g _ i f b sz room hb
 | bq b=>exact .bq b
 | ro cs a news ha hn h1 hF hw h=>exact .ro cs a news ha hn h1 hF hw h
 | sl id off len cap b sz room a hb hlc hr ha hs=>exact .sl _ off len cap b sz room a hb hlc hr ha hs
 | slv id sz room hb=>exact .slv _ sz room hb
 | agg cs vs hl h1 _ ih=>
  simp only[V.ren,zF]
  refine .agg _ vs (by simpa using hl) h1 (fun i c u hc hu=>?_)
  rw[List.getElem?_map,Option.map_eq_some_iff] at hc
  obtain⟨c',hc',rfl⟩:=hc
  exact ih i c' u hc' hu
 | tup cs vs hl _ ih=>
  simp only[V.ren,zF]
  refine .tup _ vs (by simpa using hl) (fun i c u hc hu=>?_)
  rw[List.getElem?_map,Option.map_eq_some_iff] at hc
  obtain⟨c',hc',rfl⟩:=hc
  exact ih i c' u hc' hu
 | fn f cs vs hl _ ih=>
  simp only[V.ren,zF]
  refine .fn f _ vs (by simpa using hl) (fun i c u hc hu=>?_)
  rw[List.getElem?_map,Option.map_eq_some_iff] at hc
  obtain⟨c',hc',rfl⟩:=hc
  exact ih i c' u hc' hu
theorem qL.unren {ρ:Nat→Nat} {u:V} {x:Value} (h:qL β F w u x) : ∀ {v:V},v.ren ρ=u→qL (fun k=>β (ρ k)) F w v x:=by
 induction h with
 | t h=>intro v hv;cases v<;>simp only[V.ren] at hv<;>first | (cases hv;exact .t h) | cases hv
 | nil=>intro v hv;cases v<;>simp only[V.ren] at hv<;>first | (cases hv;exact .nil) | cases hv
 | ref id i f b sz room hb=>intro v hv;cases v<;>simp only[V.ren] at hv<;>first | (cases hv;exact .ref _ i f b sz room hb) | cases hv
 | bd g id i f b sz room hb=>intro v hv;cases v<;>simp only[V.ren] at hv<;>first | (cases hv;exact .bd g _ i f b sz room hb) | cases hv
 | bq b=>intro v hv;cases v<;>simp only[V.ren] at hv<;>first | (cases hv;exact .bq b) | cases hv
 | ro cs a news ha hn h1 hF hw h=>intro v hv;cases v<;>simp only[V.ren] at hv<;>first | (cases hv;exact .ro cs a news ha hn h1 hF hw h) | cases hv
 | sl id off len cap b sz room a hb hlc hr ha hs=>intro v hv;cases v<;>simp only[V.ren] at hv<;>first | (cases hv;exact .sl _ off len cap b sz room a hb hlc hr ha hs) | cases hv
 | slv id sz room hb=>intro v hv;cases v<;>simp only[V.ren] at hv<;>first | (cases hv;exact .slv _ sz room hb) | cases hv
 | agg cs vs hl h1 _ ih=>
  intro v hv
  cases v<;>simp only[V.ren] at hv<;>cases hv
  rw[zF] at hl ih
  refine .agg _ vs (by simpa using hl) h1 (fun i c u hc hu=>ih i (c.ren ρ) u (by rw[List.getElem?_map,hc];rfl) hu rfl)
 | tup cs vs hl _ ih=>
  intro v hv
  cases v<;>simp only[V.ren] at hv<;>cases hv
  rw[zF] at hl ih
  refine .tup _ vs (by simpa using hl) (fun i c u hc hu=>ih i (c.ren ρ) u (by rw[List.getElem?_map,hc];rfl) hu rfl)
 | fn f cs vs hl _ ih=>
  intro v hv
  cases v<;>simp only[V.ren] at hv<;>cases hv
  rw[zF] at hl ih
  refine .fn f _ vs (by simpa using hl) (fun i c u hc hu=>ih i (c.ren ρ) u (by rw[List.getElem?_map,hc];rfl) hu rfl)
theorem jZ.ren {ρ:Nat→Nat} {es:List V} {sz:Nat} {c:Array Value} (h:jZ (fun k=>β (ρ k)) F w es sz c):jZ β F w (qC6 ρ es) sz c:=by
 intro i x hx
 rw[zF,List.getElem?_map,Option.map_eq_some_iff] at hx
 obtain⟨x',hx',rfl⟩:=hx
 obtain⟨h1,h2⟩:=h i x' hx'
 rw[qEs,zF]
 refine⟨by simpa using h1,fun j y hy=>?_⟩
 rw[List.getElem?_map,Option.map_eq_some_iff] at hy
 obtain⟨y',hy',rfl⟩:=hy
 obtain⟨u,hu,hr,ho⟩:=h2 j y' hy'
 exact⟨u,hu,hr.ren,ho⟩
theorem jZ.unren {ρ:Nat→Nat} {es:List V} {sz:Nat} {c:Array Value} (h:jZ β F w (qC6 ρ es) sz c):jZ (fun k=>β (ρ k)) F w es sz c:=by
 intro i x hx
 obtain⟨h1,h2⟩:=h i (x.ren ρ) (by rw[zF,List.getElem?_map,hx];rfl)
 rw[qEs,zF] at h1 h2
 refine⟨by simpa using h1,fun j y hy=>?_⟩
 obtain⟨u,hu,hr,ho⟩:=h2 j (y.ren ρ) (by rw[List.getElem?_map,hy];rfl)
 exact⟨u,hu,hr.unren rfl,ho⟩
theorem qCq.ren {ρ:Nat→Nat} {bi:BI} {o:Ob} (h:qCq (fun k=>β (ρ k)) F w bi o):qCq β F w bi (o.ren ρ):=by
 cases o with
 | dead=>trivial
 | live z es wr full=>
  simp only[Ob.ren]
  unfold qCq at *
  obtain⟨h1,h2,h3⟩:=h
  refine⟨h1,by rw[zF,List.length_map];exact h2,?_⟩
  cases hb:bi.blk with
  | none=>simp only[hb] at h3 ⊢;exact⟨by rw[h3.1];rfl,h3.2⟩
  | some b=>
   simp only[hb] at h3 ⊢
   obtain⟨c,e,fz,g1,g2,g3,g4,g5,g6,g7⟩:=h3
   exact⟨c,e,fz,g1,g2,g3,by rw[zF,List.length_map];exact g4,g5,g6.ren,g7⟩
theorem qCq.unren {ρ:Nat→Nat} {bi:BI} {o:Ob} (h:qCq β F w bi (o.ren ρ)):qCq (fun k=>β (ρ k)) F w bi o:=by
 cases o with
 | dead=>trivial
 | live z es wr full=>
  simp only[Ob.ren] at h
  unfold qCq at *
  obtain⟨h1,h2,h3⟩:=h
  rw[zF,List.length_map] at h2
  refine⟨h1,h2,?_⟩
  cases hb:bi.blk with
  | none=>
   simp only[hb] at h3 ⊢
   refine⟨?_,h3.2⟩
   have:=h3.1
   rw[zF] at this
   simpa using this
  | some b=>
   simp only[hb] at h3 ⊢
   obtain⟨c,e,fz,g1,g2,g3,g4,g5,g6,g7⟩:=h3
   rw[zF,List.length_map] at g4
   exact⟨c,e,fz,g1,g2,g3,g4,g5,g6.unren,g7⟩
structure zIr (β:Nat→Option BI) (F:Nat→Prop) (w:World) (obs:List Ob):Prop where
 ok : ∀ (k:Nat) (o:Ob),obs[k]?=some o → ∃ bi,β k=some bi∧qCq β F w bi o ∧ ∃ z es full,o = .live z es true full
 dom : ∀ k,obs.length≤k→β k=none
 inj : ∀ i j bi bj b,β i=some bi→β j=some bj→bi.blk=some b→bj.blk=some b→i=j
 blt : ∀ k bi b,β k=some bi→bi.blk=some b→b<w.heap.size ∧ ¬ F b
structure zDl (G:Nat→Option (List T)) (F:Nat→Prop) (w:World):Prop where
 Fw : ∀ b,F b→b<w.heap.size
 gl : ∀ g cs,G g=some cs→qL (fun _=>none) F w (.ro cs) (.pointer (some ⟨g,0,none⟩))
 gs : ∀ g cs,G g=some cs→GSz w g cs.length
structure qLh (w:World) (β:Nat→Option BI) (F:Nat→Prop) (ins:List Ob) (r:V) (outs:List Ob) (x:Value) (β':Nat→Option BI) (F':Nat→Prop) (w':World):Prop where
 fits:zIr β' F' w' outs
 res:qL β' F' w' r x
 old : ∀ k,k<ins.length→β' k=β k
 new : ∀ k bi b,ins.length≤k→β' k=some bi→bi.blk=some b→w.heap.size≤b
 F : ∀ b,b<w.heap.size→(F' b↔F b)
 Fw : ∀ b,F' b→b<w'.heap.size
 os:w'.os=w.os
 tape:w'.tape=w.tape
 output:w'.output=w.output
 size:w.heap.size≤w'.heap.size
 frame : ∀ b,b<w.heap.size→(∀ k bi,β k=some bi→bi.blk≠some b)→w'.heap[b]?=w.heap[b]?
def zA4 (P:Program) (G:Nat→Option (List T)) (f:FuncId) (as:List V) (ins:List Ob) (r:V) (outs:List Ob):Prop:=
 ∀ (w:World) (β:Nat→Option BI) (F:Nat→Prop) (vals:Array Value),zDl G F w→zIr β F w ins→wU (qL β F w) as vals.toList→
  Calls P f vals w (fun e w' => ∃ x β' F',e = .returned x∧qLh w β F ins r outs x β' F' w')
variable {cx:Cx} {fm:Nat→Option V} {hm:Nat→Option Ob} {a:Act}
theorem Rel.freeze (R:Rel cx β F fm hm a w) {id z:Nat} {es:List V} {full:Bool} (hid:hm id=some (.live z es true full)) (h100:100≤id) {bi:BI} (hb:β id=some bi) :
  Rel cx β (fun b=>F b∨bi.blk=some b) fm (upd hm [(id,.live z es false full)]) a w:=by
 have hF : ∀ b,F b→F b∨bi.blk=some b:=fun _ h=> .inl h
 have hnew : ∀ b,bi.blk=some b→cx.w0.heap.size≤b:=by
  intro b hbk
  rcases R.old id z es full bi b hid hb hbk with h | h
  ·exact h
  ·omega
 refine⟨R.tsz,R.dfr,fun t v hv=>?_,fun j o ho=>?_,fun j hn=>?_,fun i j bi' bj b oi oj h1 h2 h3 h4 h5 h6 h7 h8=>?_,R.os,R.tape,R.output,R.size,R.ext,fun j z' es' full' bi' b h1 h2 h3=>?_,fun b hib hFb=>?_,R.inw,fun b hb'=>?_,fun b hb'=>?_,R.blt,fun g cs hg=>(R.gl g cs hg).mono (fun _ _ h=>h) hF (fun _ _=>rfl),R.ext0,R.gs⟩
 ·obtain⟨x,h1,h2⟩:=R.fr t v hv
  exact⟨x,h1,h2.mono (fun _ _ h=>h) hF (fun _ _=>rfl)⟩
 ·by_cases hj:j=id
  ·subst hj
   rw[zJ] at ho;cases ho
   obtain⟨bi',h1,h2⟩:=R.hp j _ hid
   rw[hb] at h1;cases h1
   refine⟨bi,hb,?_⟩
   unfold qCq at h2 ⊢
   obtain⟨g1,g2,g3⟩:=h2
   refine⟨g1,g2,?_⟩
   cases hbk:bi.blk with
   | none=>simp only[hbk] at g3 ⊢;exact g3
   | some b=>
    simp only[hbk] at g3 ⊢
    obtain⟨c,e,fz,k1,k2,k3,k4,k5,k6,k7⟩:=g3
    exact⟨c,e,fz,k1,k2,k3,k4,k5,k6.mono (fun _ _ h=>h) (by intro b' h;exact .inl h) (fun _ _=>rfl),by simp⟩
  ·rw[qI hj] at ho
   obtain⟨bi',h1,h2⟩:=R.hp j o ho
   refine⟨bi',h1,?_⟩
   by_cases hd:o = .dead
   ·subst hd;trivial
   refine h2.mono (fun _ _ h=>h) hF (fun _ _=>rfl) (fun b hbk _=>⟨rfl,fun h=>?_⟩)
   rcases h with h | h
   ·exact h
   ·exact absurd (R.inj j id bi' bi b o _ h1 hb hbk h ho hid hd (by simp)) hj
 ·by_cases hj:j=id
  ·subst hj;rw[zJ] at hn;cases hn
  ·rw[qI hj] at hn;exact R.dom j hn
 ·have live : ∀ j o,upd hm [(id,.live z es false full)] j=some o→o≠ .dead → ∃ o',hm j=some o'∧o'≠ .dead:=by
   intro j o hj hd
   by_cases h:j=id
   ·subst h;exact⟨_,hid,by simp⟩
   ·rw[qI h] at hj;exact⟨o,hj,hd⟩
  obtain⟨oi',a1,a2⟩:=live i oi h5 h7
  obtain⟨oj',b1,b2⟩:=live j oj h6 h8
  exact R.inj i j bi' bj b oi' oj' h1 h2 h3 h4 a1 b1 a2 b2
 ·by_cases hj:j=id
  ·subst hj;rw[zJ] at h1;cases h1
  ·rw[qI hj] at h1
   exact R.old j z' es' full' bi' b h1 h2 h3
 ·rcases hFb with h | h
  ·exact R.inF b hib h
  ·
   exact absurd (hnew b h) (by have:=R.inw b hib;omega)
 ·rcases hb' with h | h
  ·exact R.Fw b h
  ·exact R.blt id bi b hb h
 ·constructor
  ·intro h
   rcases h with h | h
   ·exact (R.F0 b hb').1 h
   ·have:=hnew b h;omega
  ·intro h;exact .inl ((R.F0 b hb').2 h)
end Go.Eng
end
