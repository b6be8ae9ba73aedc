/- A part of an abstract machine, its walks, their tie. -/
import Derived.Orders
import Derived.Laws.AppendOwn
import Derived.Laws.MakeOwn
import Derived.Laws.Entries
import Derived.Below
import Derived.DataElems
import Derived.ChangeSlices
import Derived.Laws.IdiomCopy
import Derived.Laws.IdiomStrings
import Derived.Laws.Small
import Derived.Laws.Slices
import Derived.Laws.Strings
import Derived.Laws.BytesString
import Derived.Laws.StructEq
set_option linter.all false
section
namespace Go.Eng
open List
theorem eR {α:Sort _}{a b:α}(h:a=b:=by exact Eq.trans (Eq.refl _) rfl):a=b:=h
theorem oM {p:Prop}(h:p:=by omega):p:=h
theorem sM {p:Prop}(h:p:=by simp):p:=h
theorem soM {p:Prop}(h:p:=by simp;omega):p:=h
inductive T where
 |int (k:IntKind) (n:Int)
 |bool (b:Bool)
 |str (s:ByteArray)
 |fnil
 |pnil
 |agg (cs:List T)
 |tup (cs:List T)
 |sl (es:List T)
 deriving Inhabited
def T.cells:T->List T
 |.agg cs=>cs
 |t=>[t]
inductive Rep (F:Nat->Prop)(w:World):T->Value->Prop
 |int (k:IntKind) (n:Int):Rep F w (.int k n) (.int k n)
 |bool (b:Bool):Rep F w (.bool b) (.bool b)
 |str (s:ByteArray):Rep F w (.str s) (.string s)
 |fnil:Rep F w .fnil .nilFunc
 |pnil:Rep F w .pnil (.pointer none)
 |agg (cs:List T) (vs:Array Value) (hl:vs.size=cs.length) (h1:∀u∈vs,u.oneCell'=true)
   (h:∀(i:Nat)(c:T)(u:Value),cs[i]?=some c->vs[i]?=some u->Rep F w c u):Rep F w (.agg cs) (.agg vs)
 |tup (cs:List T) (vs:Array Value) (hl:vs.size=cs.length)
   (h:∀(i:Nat)(c:T)(u:Value),cs[i]?=some c->vs[i]?=some u->Rep F w c u):Rep F w (.tup cs) (.tuple vs)
 |nil:Rep F w (.sl []) (.slice none 0 0)
 |sl (es:List T) (a:Addr) (cap sz:Nat) (news:List Value) (ha:es≠[]->a.spot=none) (hc:es.length<=cap)
   (hn:news.length=es.length*sz) (h1:∀u∈news,u.oneCell'=true) (hF:es≠[]->F a.block)
   (hw:∀j u,news[j]?=some u->w.cell? (a.add j)=some u) (hz:∀e∈es,e.cells.length=sz)
   (h:∀(i:Nat)(e:T)(j:Nat)(c:T)(u:Value),es[i]?=some e->e.cells[j]?=some c->news[i*sz+j]?=some u->Rep F w c u) :
   Rep F w (.sl es) (.slice (some a) es.length cap)
structure BI where
 blk:Option Nat
 sz:Nat
 room:Nat
inductive V where
 |t (x:T)
 |nil
 |ref (id i f:Nat)
 |ro (cs:List T)
 |sl (id off len:Nat)
 |agg (cs:List V)
 |tup (cs:List V)
 |fn (f:FuncId) (caps:List V)
 |bd (g:FuncId) (id i f:Nat)
 |bq
 deriving Inhabited
def V.cells:V->List V
 |.agg cs=>cs
 |.t (.agg cs)=>cs.map .t
 |v=>[v]
inductive qR (β:Nat->Option BI)(F:Nat->Prop)(w:World):V->Value->Prop
 |t {x:T} {v:Value} (h:Rep F w x v):qR β F w (.t x) v
 |nil:qR β F w .nil (.slice none 0 0)
 |ref (id i f b sz room:Nat) (hb:β id=some ⟨some b,sz,room⟩):qR β F w (.ref id i f) (.pointer (some ⟨b,i*sz+f,none⟩))
 |ro (cs:List T) (a:Addr) (news:List Value) (ha:a.spot=none) (hn:news.length=cs.length) (h1:∀u∈news,u.oneCell'=true)
   (hF:F a.block) (hw:∀j u,news[j]?=some u->w.cell? (a.add j)=some u)
   (h:∀(j:Nat)(c:T)(u:Value),cs[j]?=some c->news[j]?=some u->Rep F w c u):qR β F w (.ro cs) (.pointer (some a))
 |sl (id off len cap b sz room:Nat) (a:Addr) (hb:β id=some ⟨some b,sz,room⟩) (hlc:len<=cap) (hr:off+cap<=room) (ha:0<cap->a=⟨b,off*sz,none⟩) (hs:a.spot=none) :
   qR β F w (.sl id off len) (.slice (some a) len cap)
 |slv (id sz room:Nat) (hb:β id=some ⟨none,sz,room⟩):qR β F w (.sl id 0 0) (.slice none 0 0)
 |agg (cs:List V) (vs:Array Value) (hl:vs.size=cs.length) (h1:∀u∈vs,u.oneCell'=true)
   (h:∀(i:Nat)(c:V)(u:Value),cs[i]?=some c->vs[i]?=some u->qR β F w c u):qR β F w (.agg cs) (.agg vs)
 |tup (cs:List V) (vs:Array Value) (hl:vs.size=cs.length)
   (h:∀(i:Nat)(c:V)(u:Value),cs[i]?=some c->vs[i]?=some u->qR β F w c u):qR β F w (.tup cs) (.tuple vs)
 |fn (f:FuncId) (cs:List V) (vs:Array Value) (hl:vs.size=cs.length)
   (h:∀(i:Nat)(c:V)(u:Value),cs[i]?=some c->vs[i]?=some u->qR β F w c u):qR β F w (.fn f cs) (.func (.func f) #[] vs)
 |bd (g:FuncId) (id i f b sz room:Nat) (hb:β id=some ⟨some b,sz,room⟩):qR β F w (.bd g id i f) (.func (.func g) #[.pointer (some ⟨b,i*sz+f,none⟩)] #[])
 |bq (b:Bool):qR β F w .bq (.bool b)
theorem qCx (a:Addr)(n:Nat):(a.add n).block=a.block:=by unfold Addr.add;split<;>rfl
theorem zQa {w w':World}{a:Addr}(h:w'.heap[a.block]?=w.heap[a.block]?):w'.cell? a=w.cell? a:=World.cell?_of_block h
theorem Rep.mono {F F':Nat->Prop}{w w':World}{x:T}{v:Value}(h:Rep F w x v)(hF:∀b,F b->F' b)
  (hw:∀b,F b->w'.heap[b]?=w.heap[b]?):Rep F' w' x v:=by
 induction h with
 |int k n=>exact .int k n
 |bool b=>exact .bool b
 |str s=>exact .str s
 |fnil=>exact .fnil
 |pnil=>exact .pnil
 |agg cs vs hl h1 _ ih=>exact .agg cs vs hl h1 ih
 |tup cs vs hl _ ih=>exact .tup cs vs hl ih
 |nil=>exact .nil
 |sl es a cap sz news ha hc hn h1 hFa hwc hz _ ih=>
  refine .sl es a cap sz news ha hc hn h1 (λe=>hF _ (hFa e)) (λj u hj=>?_) hz ih;have hne:es≠[]:=by
   intro e;subst e;have:news=[]:=eq_nil_of_length_eq_zero (by simpa using hn);subst this;simp at hj
  rw[zQa (w:=w) (by rw[qCx];exact hw _ (hFa hne))];exact hwc j u hj
theorem qR.mono {β β':Nat->Option BI}{F F':Nat->Prop}{w w':World}{x:V}{v:Value}(h:qR β F w x v)(hβ:∀i bi,β i=some bi->β' i=some bi)
  (hF:∀b,F b->F' b) (hw:∀b,F b->w'.heap[b]?=w.heap[b]?):qR β' F' w' x v:=by
 induction h with
 |t h=>exact .t (h.mono hF hw)
 |nil=>exact .nil
 |ref id i f b sz room hb=>exact .ref id i f b sz room (hβ _ _ hb)
 |ro cs a news ha hn h1 hFa hwc h=>
  refine .ro cs a news ha hn h1 (hF _ hFa) (λj u hj=>?_) (λj c u hc hu=>(h j c u hc hu).mono hF hw);rw[zQa (w:=w) (by rw[qCx];exact hw _ hFa)];exact hwc j u hj
 |sl id off len cap b sz room a hb hlc hr ha hs=>exact .sl id off len cap b sz room a (hβ _ _ hb) hlc hr ha hs
 |slv id sz room hb=>exact .slv id sz room (hβ _ _ hb)
 |agg cs vs hl h1 _ ih=>exact .agg cs vs hl h1 ih
 |tup cs vs hl _ ih=>exact .tup cs vs hl ih
 |fn f cs vs hl _ ih=>exact .fn f cs vs hl ih
 |bd g id i f b sz room hb=>exact .bd g id i f b sz room (hβ _ _ hb)
 |bq b=>exact .bq b
inductive Ob where
 |live (z:Nat) (es:List V) (wr full:Bool)
 |dead
 deriving Inhabited
def vB (β:Nat->Option BI)(F:Nat->Prop)(w:World)(es:List V)(sz:Nat)(c:Array Value):Prop:=
 ∀(i:Nat)(x:V),es[i]?=some x->x.cells.length=sz/\
  ∀(j:Nat)(y:V),x.cells[j]?=some y->∃u,c[i*sz+j]?=some u/\qR β F w y u/\u.oneCell'=true
def qG9 (β:Nat->Option BI)(F:Nat->Prop)(w:World)(bi:BI):Ob->Prop
 |.dead=>True
 |.live z es wr full=>
  bi.sz=z/\(full=true->bi.room=es.length)/\
  match bi.blk with
  |none=>es=[]/\bi.room=0
  |some b=>∃(c:Array Value)(e:TypeId)(fz:Nat×Nat),w.heap[b]?=some (.cells c e fz)/\(∀j,(j<c.size->¬ (fz.1<=j/\j<fz.2))/\fz.1<=fz.2)/\
    c.size=bi.room*bi.sz/\es.length<=bi.room/\bi.room<=maxLen/\vB β F w es bi.sz c/\(if wr then ¬ F b else F b)
theorem vB.mono {β β':Nat->Option BI}{F F':Nat->Prop}{w w':World}{es:List V}{sz:Nat}{c:Array Value}(h:vB β F w es sz c)
  (hβ:∀i bi,β i=some bi->β' i=some bi) (hF:∀b,F b->F' b) (hw:∀b,F b->w'.heap[b]?=w.heap[b]?):vB β' F' w' es sz c:=by
 intro i x hx;obtain⟨h1,h2⟩:=h i x hx;exact⟨h1,λj y hy=>let ⟨u,a,b,d⟩:=h2 j y hy;⟨u,a,b.mono hβ hF hw,d⟩⟩
theorem qG9.mono {β β':Nat->Option BI}{F F':Nat->Prop}{w w':World}{bi:BI}{o:Ob}(h:qG9 β F w bi o)
  (hβ:∀i bi,β i=some bi->β' i=some bi) (hF:∀b,F b->F' b) (hw:∀b,F b->w'.heap[b]?=w.heap[b]?)
  (hb:∀b,bi.blk=some b->o≠ .dead->w'.heap[b]?=w.heap[b]?/\(F' b->F b)):qG9 β' F' w' bi o:=by
 cases o with
 |dead=>trivial
 |live z es wr full=>
  unfold qG9 at *;cases hbk:bi.blk with
  |none=>simp only[hbk]at h⊢;exact h
  |some b=>
   simp only[hbk]at h⊢;obtain⟨hz,h0,c,e,fz,h1,h2,h3,h4,h5,h6,h7⟩:=h;obtain⟨hb1,hb2⟩:=hb b hbk sM;refine⟨hz,h0,c,e,fz,hb1.trans h1,h2,h3,h4,h5,h6.mono hβ hF hw,?_⟩;cases wr
   .simp only[Bool.false_eq_true,if_false]at h7⊢;exact hF _ h7
   .simp only[if_true]at h7⊢;exact λhf=>h7 (hb2 hf)
structure Cx where
 P:Program
 w0:World
 F0:Nat->Prop
 inb:Nat->Prop
 nt:Nat
 gl:Nat->Option (List T)
 β0:Nat->Option BI
 d0:∀k bi,β0 k=some bi->k<100
def GSz (w:World)(g n:Nat):Prop:=∃c e z,w.heap[g]?=some (.cells c e z)/\c.size=n
theorem GSz.mono {w w':World}{g n:Nat}(h:w'.heap[g]?=w.heap[g]?)(k:GSz w g n):GSz w' g n:=by
 obtain⟨c,e,z,h1,h2⟩:=k;exact⟨c,e,z,h.trans h1,h2⟩
structure Rel (cx:Cx)(β:Nat->Option BI)(F:Nat->Prop)(fm:Nat->Option V)(hm:Nat->Option Ob)(a:Act)(w:World):Prop where
 tsz:a.tmps.size=cx.nt
 dfr:a.defers=[]
 fr:∀t v,fm t=some v->∃x,a.tmps[t]?=some x/\qR β F w v x
 hp:∀id o,hm id=some o->∃bi,β id=some bi/\qG9 β F w bi o
 dom:∀id,hm id=none->β id=none
 inj:∀i j bi bj b oi oj,β i=some bi->β j=some bj->bi.blk=some b->bj.blk=some b->hm i=some oi->hm j=some oj->oi≠ .dead->oj≠ .dead->i=j
 os:w.os=cx.w0.os
 tape:w.tape=cx.w0.tape
 output:w.output=cx.w0.output
 size:cx.w0.heap.size<=w.heap.size
 ext:∀b,b<cx.w0.heap.size->¬ cx.inb b->w.heap[b]?=cx.w0.heap[b]?
 old:∀id z es full bi b,hm id=some (.live z es true full)->β id=some bi->bi.blk=some b->cx.w0.heap.size<=b\/id<100/\cx.inb b
 inF:∀b,cx.inb b->¬ F b
 inw:∀b,cx.inb b->b<cx.w0.heap.size
 Fw:∀b,F b->b<w.heap.size
 F0:∀b,b<cx.w0.heap.size->(F b↔cx.F0 b)
 blt:∀id bi b,β id=some bi->bi.blk=some b->b<w.heap.size
 gl:∀g cs,cx.gl g=some cs->qR β F w (.ro cs) (.pointer (some ⟨g,0,none⟩))
 ext0:∀k bi,cx.β0 k=some bi->β k=some bi
 gs:∀g cs,cx.gl g=some cs->GSz w g cs.length
theorem yC9 {β:Nat->Option BI}{F:Nat->Prop}{w:World}{cs:List T}{g:Nat}(h:qR β F w (.ro cs) (.pointer (some ⟨g,0,none⟩))):F g:=by
 cases h with
 |ro _ a news ha hn h1 hF hw h=>exact hF
end Go.Eng
end
section
namespace Go.Eng
open List
inductive Q (α:Type) where
 |ret (a:α)
 |fail
 |get (id:Nat) (k:Ob->Q α)
 |free (id:Nat) (k:Q α)
def Q.bind {α β:Type}:Q α->(α->Q β)->Q β
 |.ret a,f=>f a
 |.fail,_=>.fail
 |.get id k,f=>.get id λo=>(k o).bind f
 |.free id k,f=>.free id (k.bind f)
def Q.run {α:Type}(h:Nat->Option Ob):Q α->Option (α×List Nat)
 |.ret a=>some (a,[])
 |.fail=>none
 |.get id k=>match h id with
  |some o=>match (k o).run h with
   |some (a,l)=>some (a,id::l)
   |none=>none
  |none=>none
 |.free id k=>match h id with
  |none=>match k.run h with
   |some (a,l)=>some (a,id::l)
   |none=>none
  |some _=>none
theorem Q.run_bind {α β:Type}(h:Nat->Option Ob)(f:α->Q β)(q:Q α):(q.bind f).run h=match q.run h with
  |some (a,l)=>match (f a).run h with
   |some (b,l')=>some (b,l++l')
   |none=>none
  |none=>none:=by
 induction q with
 |ret a=>simp only[Q.bind,Q.run];cases(f a).run h<;>simp
 |fail=>rfl
 |get id k ih=>
  simp only[Q.bind,Q.run];cases h id with
  |none=>rfl
  |some o=>
   simp only[ih];cases(k o).run h with
   |none=>rfl
   |some p=>
    obtain⟨a,l⟩:=p;simp only;cases(f a).run h with
    |none=>rfl
    |some p=>rfl
 |free id k ih=>
  simp only[Q.bind,Q.run];cases h id with
  |some o=>rfl
  |none=>
   simp only[ih];cases k.run h with
   |none=>rfl
   |some p=>
    obtain⟨a,l⟩:=p;simp only;cases(f a).run h with
    |none=>rfl
    |some p=>rfl
theorem Q.run_local {α:Type}{h h':Nat->Option Ob}(q:Q α):∀{a:α}{l:List Nat},q.run h=some (a,l)->(∀i∈l,h' i=h i)->q.run h'=some (a,l):=by
 induction q with
 |ret a=>intro a l hr _;exact hr
 |fail=>intro a l hr _;cases hr
 |get id k ih=>
  intro a l hr hl;simp only[Q.run]at hr⊢;cases ho:h id with
  |none=>rw[ho]at hr;cases hr
  |some o=>
   rw[ho]at hr;simp only at hr;cases hk:(k o).run h with
   |none=>rw[hk]at hr;cases hr
   |some p=>
    obtain⟨a1,l1⟩:=p;rw[hk]at hr;simp only[Option.some.injEq,Prod.mk.injEq]at hr;obtain⟨rfl,rfl⟩:=hr;rw[hl id sM,ho];simp only;rw[ih o hk (λi hi=>hl i (by simp[hi]))]
 |free id k ih=>
  intro a l hr hl;simp only[Q.run]at hr⊢;cases ho:h id with
  |some o=>rw[ho]at hr;cases hr
  |none=>
   rw[ho]at hr;simp only at hr;cases hk:k.run h with
   |none=>rw[hk]at hr;cases hr
   |some p=>
    obtain⟨a1,l1⟩:=p;rw[hk]at hr;simp only[Option.some.injEq,Prod.mk.injEq]at hr;obtain⟨rfl,rfl⟩:=hr;rw[hl id sM,ho];simp only;rw[ih hk (λi hi=>hl i (by simp[hi]))]
def Q.of {α:Type}:Option α->Q α
 |some a=>.ret a
 |none=>.fail
def Q.assert (b:Prop)[Decidable b]{α:Type}(q:Q α):Q α:=if b then q else .fail
def qFl:List V->Option (List T)
 |[]=>some []
 |.t x::r=>(qFl r).map (x :: ·)
 |_::_=>none
def V.mk (cs:List V):V:=
 match qFl cs with
 |some ts=>.t (.agg ts)
 |none=>.agg cs
def V.ofConst:Value->Option V
 |.int k n=>some (.t (.int k n))
 |.bool b=>some (.t (.bool b))
 |.string s=>some (.t (.str s))
 |.nilFunc=>some (.t .fnil)
 |.pointer none=>some (.t .pnil)
 |.slice none l c=>if l=0/\c=0 then some .nil else none
 |.tuple vs=>if vs.size=0 then some (.tup []) else none
 |_=>none
def V.plain:V->Bool
 |.tup _|.t (.tup _)=>false
 |_=>true
def V.single:V->Bool
 |.agg _|.t (.agg _)=>false
 |_=>true
def qWx (es:List V):Bool:=es.all V.single
def zY {α:Type}(l:List α)(i:Nat)(xs:List α):List α:=l.take i++xs++l.drop (i+xs.length)
def qLz (op:BinOp)(k:IntKind)(a:Int)(k':IntKind)(b:Int):Option T:=
 match op with
 |.shl=>if b<0 then none else some (.int k (k.wrap (a*2^min b.toNat k.bits)))
 |.shr=>if b<0 then none else some (.int k (a.fdiv (2^min b.toNat k.bits)))
 |.add=>if k=k' then some (.int k (k.wrap (a+b))) else none
 |.sub=>if k=k' then some (.int k (k.wrap (a-b))) else none
 |.mul=>if k=k' then some (.int k (k.wrap (a*b))) else none
 |.quo=>if k=k'/\b≠0 then some (.int k (k.wrap (a.tdiv b))) else none
 |.rem=>if k=k'/\b≠0 then some (.int k (a.tmod b)) else none
 |.and=>if k=k' then some (.int k (k.wrap (BitVec.ofInt k.bits a &&& BitVec.ofInt k.bits b).toNat)) else none
 |.or=>if k=k' then some (.int k (k.wrap (BitVec.ofInt k.bits a ||| BitVec.ofInt k.bits b).toNat)) else none
 |.xor=>if k=k' then some (.int k (k.wrap (BitVec.ofInt k.bits a ^^^ BitVec.ofInt k.bits b).toNat)) else none
 |.andNot=>if k=k' then some (.int k (k.wrap (BitVec.ofInt k.bits a &&& ~~~ BitVec.ofInt k.bits b).toNat)) else none
 |.eql=>if k=k' then some (.bool (a==b)) else none
 |.neq=>if k=k' then some (.bool (a != b)) else none
 |.lss=>if k=k' then some (.bool (decide (a<b))) else none
 |.leq=>if k=k' then some (.bool (decide (a<=b))) else none
 |.gtr=>if k=k' then some (.bool (decide (a>b))) else none
 |.geq=>if k=k' then some (.bool (decide (a ≥ b))) else none
def qJu (op:BinOp):T->T->Option T
 |.int k a,.int k' b=>qLz op k a k' b
 |.str a,.str b=>
  match op with
  |.add=>if a.size+b.size<=maxLen then some (.str (a++b)) else none
  |.eql=>some (.bool (a.toList==b.toList))
  |.neq=>some (.bool !(a.toList==b.toList))
  |_=>none
 |_,_=>none
def unT (op:UnOp):T->Option T
 |.int k n=>
  match op with
  |.neg=>some (.int k (k.wrap (0-n)))
  |.xor=>some (.int k (k.wrap (BitVec.ofInt k.bits (if k.signed then -1 else k.max) ^^^ BitVec.ofInt k.bits n).toNat))
  |_=>none
 |.bool b=>match op with
  |.not=>some (.bool !b)
  |_=>none
 |_=>none
inductive AO where
 |mov
 |smov
 |pick
 |new (z:Nat) (es:List V)
 |box
 |boxArr
 |build (zero:List V) (pl:List (Nat×Nat))
 |bslice (z len:Nat) (zero:V) (ix:List Nat)
 |load (n:Nat) (agg:Bool)
 |store (n:Nat)
 |bin (op:BinOp)
 |beq (neg:Bool)
 |un (op:UnOp)
 |conv (k:IntKind)
 |s2b
 |b2s
 |mkslice (z by_:Nat) (zero:V)
 |sslice (lo hi mx:Bool)
 |slice (z:Nat) (lo hi mx:Bool)
 |aslice (n z:Nat) (lo hi mx:Bool)
 |faddr (off:Nat)
 |field (off n:Nat) (agg:Bool)
 |iaddr (z:Nat)
 |aaddr (n z:Nat)
 |index (n z:Nat) (agg:Bool)
 |sindex
 |extract (i:Nat)
 |len
 |slen
 |lenc (n:Nat)
 |append (z by_:Nat)
 |appstr
 |copy (z:Nat)
 |min
 |max
 |mkfn (f:FuncId)
 |mkbd (f:FuncId)
 |idsl
 |nileq (neg:Bool)
 |appendt (z by_:Nat)
 |aeq (n:Nat) (k:IntKind) (neg:Bool)
 |nilchk
 |clr (z:Nat)
 |bad
 deriving Inhabited
def qA (b:UInt8):T:= .int .u8 b.toNat
def qDm:V->Q (List V)
 |.nil=>.ret []
 |.t (.sl es)=>.ret (es.map .t)
 |.sl id off len=>.get id fun
  |.live _ es _ _=>Q.assert (off+len<=es.length) (.ret ((es.drop off).take len))
  |.dead=>.fail
 |_=>.fail
def qHz:List V->Option (List UInt8)
 |[]=>some []
 |.t (.int .u8 n)::r=>(qHz r).map (UInt8.ofNat n.toNat :: ·)
 |_::_=>none
def vY:V->Option Int
 |.t (.int _ n)=>some n
 |_=>none
def zOk (z:Nat)(es:List V):Bool:=es.all λe=>e.cells.length==z
def qZ3 (z:Nat)(es:List T):Bool:=es.all λe=>e.cells.length==z
def qDs (lo hi mx:Bool)(vs:List V):Option (Int×Option Int×Option Int):=
 match lo,hi,mx,vs with
 |false,false,false,[]=>some (0,none,none)
 |true,false,false,[a]=>(vY a).map λa=>(a,none,none)
 |false,true,false,[b]=>(vY b).map λb=>(0,some b,none)
 |true,true,false,[a,b]=>(vY a).bind λa=>(vY b).map λb=>(a,some b,none)
 |false,true,true,[b,c]=>(vY b).bind λb=>(vY c).map λc=>(0,some b,some c)
 |true,true,true,[a,b,c]=>(vY a).bind λa=>(vY b).bind λb=>(vY c).map λc=>(a,some b,some c)
 |_,_,_,_=>none
def qRt (n:Nat):Int×Option Int×Option Int->Option (Nat×Nat)
 |(l,h,m)=>
  let h:=h.getD n
  if 0<=l/\l<=h/\h<=n/\(∀x,m=some x->h<=x/\x<=n) then some (l.toNat,h.toNat) else none
abbrev Wr:=List (Nat×Ob)
def qYs (z:List V):List (Nat×Nat)->List V->Option (List V)
 |[],[]=>some z
 |(off,n)::pl,v::vs=>if v.cells.length=n/\off+n<=z.length/\v.plain=true then qYs (zY z off v.cells) pl vs else none
 |_,_=>none
def qYr (z:Nat)(es:List V):List Nat->List V->Option (List V)
 |[],[]=>some es
 |i::ix,v::vs=>if v.cells.length=z/\i<es.length/\v.plain=true then qYr z (es.set i v) ix vs else none
 |_,_=>none
def qUb (cs:List V)(off n:Nat)(agg:Bool):Option V:=
 if agg then(if off+n<=cs.length then some (V.mk ((cs.drop off).take n)) else none) else cs[off]?
def qDy (n by_:Nat):Prop:=n<=maxLen/\n*by_<=140737488355328
instance (n by_:Nat):Decidable (qDy n by_):=by unfold qDy;infer_instance
def zMe:List V->Q (V×Wr)
 |[x]=>.ret (x,[])
 |_=>.fail
def zCo:List V->Q (V×Wr)
 |[.t (.str s)]=>.ret (.t (.str s),[])
 |_=>.fail
def qXl:List V->Q (V×Wr)
 |[.t (.bool c),a,b]=>.ret (if c then a else b,[])
 |_=>.fail
def zFx (z:Nat)(es:List V)(nb:Nat):List V->Q (V×Wr)
 |[]=>.free nb (.ret (.ref nb 0 0,[(nb,.live z es true true)]))
 |_=>.fail
def zFu (nb:Nat):List V->Q (V×Wr)
 |[x]=>Q.assert (x.plain=true) <| .free nb (.ret (.ref nb 0 0,[(nb,.live x.cells.length [x] true true)]))
 |_=>.fail
def qLp (nb:Nat):List V->Q (V×Wr)
 |[x]=>Q.assert (x.plain=true/\x.cells.length<=1000000) <| .free nb (.ret (.ref nb 0 0,[(nb,.live 1 x.cells true true)]))
 |_=>.fail
def qQ4 (z:List V)(pl:List (Nat×Nat))(vs:List V):Q (V×Wr):=(Q.of (qYs z pl vs)).bind λcs=>.ret (V.mk cs,[])
def qQ3 (z len:Nat)(zero:V)(ix:List Nat)(nb:Nat)(vs:List V):Q (V×Wr):=
 (Q.of (qYr z (List.replicate len zero) ix vs)).bind λes=>.free nb (.ret (.sl nb 0 len,[(nb,.live z es true true)]))
def qSo (n:Nat)(agg:Bool):List V->Q (V×Wr)
 |[.ref id i f]=>.get id fun
  |.live _ es _ _=>(Q.of es[i]?).bind λx=>
   if f+n<=x.cells.length then(Q.of (qUb x.cells f n agg)).bind λv=>.ret (v,[])
   else Q.assert (f=0/\agg=true/\qWx es=true/\i+n<=es.length) (.ret (V.mk ((es.drop i).take n),[]))
  |.dead=>.fail
 |[.ro cs]=>Q.assert (n<=cs.length) (if agg then .ret (.t (.agg (cs.take n)),[]) else(Q.of cs[0]?).bind λx=>.ret (.t x,[]))
 |_=>.fail
def qQ8 (n:Nat):List V->Q (V×Wr)
 |[.ref id i f,v]=>.get id fun
  |.live z es true full=>(Q.of es[i]?).bind λx=>Q.assert (v.cells.length=n/\v.plain=true)
   (if f=0/\x.cells.length=n then .ret (.tup [],[(id,.live z (es.set i v) true full)])
   else if f+n<=x.cells.length then .ret (.tup [],[(id,.live z (es.set i (V.mk (zY x.cells f v.cells))) true full)])
   else Q.assert (f=0/\qWx es=true/\i+n<=es.length) (.ret (.tup [],[(id,.live z (zY es i v.cells) true full)])))
  |_=>.fail
 |_=>.fail
def zMb (op:BinOp):List V->Q (V×Wr)
 |[.t x,.t y]=>(Q.of (qJu op x y)).bind λr=>.ret (.t r,[])
 |_=>.fail
def zFt (neg:Bool):List V->Q (V×Wr)
 |[.t (.bool x),.t (.bool y)]=>.ret (.t (.bool (if neg then !(x==y) else x==y)),[])
 |_=>.fail
def jAh (op:UnOp):List V->Q (V×Wr)
 |[.t x]=>(Q.of (unT op x)).bind λr=>.ret (.t r,[])
 |_=>.fail
def qIq (k:IntKind):List V->Q (V×Wr)
 |[.t (.int _ n)]=>.ret (.t (.int k (k.wrap n)),[])
 |_=>.fail
def zAt (nb:Nat):List V->Q (V×Wr)
 |[.t (.str s)]=>Q.assert (qDy s.size 1) (.free nb (.ret (.sl nb 0 s.size,[(nb,.live 1 (s.data.toList.map λb=>.t (qA b)) true false)])))
 |_=>.fail
def zMa:List V->Q (V×Wr)
 |[x]=>(qDm x).bind λes=>(Q.of (qHz es)).bind λbs=>.ret (.t (.str ⟨bs.toArray⟩),[])
 |_=>.fail
def jAg (z by_:Nat)(zero:V)(nb:Nat):List V->Q (V×Wr)
 |[l,c]=>(Q.of (vY l)).bind λl=>(Q.of (vY c)).bind λc=>
   Q.assert (0<=l/\l<=c/\qDy c.toNat by_) (.free nb (.ret (.sl nb 0 l.toNat,[(nb,.live z (List.replicate l.toNat zero) true false)])))
 |_=>.fail
def qQ7 (lo hi mx:Bool):List V->Q (V×Wr)
 |.t (.str s)::bs=>(Q.of (qDs lo hi mx bs)).bind λb=>
  (Q.of (qRt s.size b)).bind λp=>Q.assert (b.2.2=none) (.ret (.t (.str (s.extract p.1 p.2)),[]))
 |_=>.fail
def qVk (z:Nat)(lo hi mx:Bool):List V->Q (V×Wr)
 |.t (.sl es)::bs=>(Q.of (qDs lo hi mx bs)).bind λb=>
  (Q.of (qRt es.length b)).bind λp=>Q.assert (qZ3 z es=true) (.ret (.t (.sl ((es.drop p.1).take (p.2-p.1))),[]))
 |.sl id off len::bs=>(Q.of (qDs lo hi mx bs)).bind λb=>
  (Q.of (qRt len b)).bind λp=>.get id fun
   |.live z' _ _ _=>Q.assert (z'=z) (.ret (.sl id (off+p.1) (p.2-p.1),[]))
   |.dead=>.fail
 |.nil::bs=>(Q.of (qDs lo hi mx bs)).bind λb=>(Q.of (qRt 0 b)).bind λ_=>.ret (.nil,[])
 |_=>.fail
def jJ7:List T->Bool
 |[]=>true
 |.int _ _::r=>jJ7 r
 |_=>false
def qQ2 (n z:Nat)(lo hi mx:Bool):List V->Q (V×Wr)
 |.ref id 0 0::bs=>(Q.of (qDs lo hi mx bs)).bind λb=>
  (Q.of (qRt n b)).bind λp=>.get id fun
   |.live z' es _ true=>Q.assert (z'=z/\es.length=n/\b.2.2=none) (.ret (.sl id p.1 (p.2-p.1),[]))
   |_=>.fail
 |.ro cs::bs=>(Q.of (qDs lo hi mx bs)).bind λb=>
  (Q.of (qRt n b)).bind λp=>Q.assert (z=1/\jJ7 cs=true/\cs.length=n/\b.2.2=none) (.ret (.t (.sl ((cs.drop p.1).take (p.2-p.1))),[]))
 |_=>.fail
def qVh (off:Nat):List V->Q (V×Wr)
 |[.ref id i f]=>.ret (.ref id i (f+off),[])
 |[.ro cs]=>Q.assert (off<=cs.length) (.ret (.ro (cs.drop off),[]))
 |_=>.fail
def qVi (off n:Nat)(agg:Bool):List V->Q (V×Wr)
 |[.agg cs]=>(Q.of (qUb cs off n agg)).bind λv=>.ret (v,[])
 |[.t (.agg cs)]=>(Q.of (qUb (cs.map .t) off n agg)).bind λv=>.ret (v,[])
 |_=>.fail
def qQ5 (z:Nat):List V->Q (V×Wr)
 |[.sl id off len,ix]=>(Q.of (vY ix)).bind λj=>Q.assert (0<=j/\j<len) (.get id fun
  |.live z' _ _ _=>Q.assert (z'=z) (.ret (.ref id (off+j.toNat) 0,[]))
  |.dead=>.fail)
 |[.t (.sl es),ix]=>(Q.of (vY ix)).bind λj=>Q.assert (0<=j) ((Q.of es[j.toNat]?).bind λe=>Q.assert (e.cells.length=z) (.ret (.ro e.cells,[])))
 |_=>.fail
def qQ1 (n z:Nat):List V->Q (V×Wr)
 |[.ref id i f,ix]=>(Q.of (vY ix)).bind λj=>Q.assert (0<=j/\j<n) (.get id fun
  |.live z' _ _ _=>if f=0/\z'=z then .ret (.ref id (i+j.toNat) 0,[]) else if f=0/\z'=1 then .ret (.ref id (i+j.toNat*z) 0,[]) else .ret (.ref id i (f+j.toNat*z),[])
  |.dead=>.fail)
 |[.ro cs,ix]=>(Q.of (vY ix)).bind λj=>Q.assert (0<=j/\j<n/\j.toNat*z<=cs.length) (.ret (.ro (cs.drop (j.toNat*z)),[]))
 |_=>.fail
def qVj (n z:Nat)(agg:Bool):List V->Q (V×Wr)
 |[.agg cs,ix]=>(Q.of (vY ix)).bind λj=>Q.assert (0<=j/\j<n) ((Q.of (qUb cs (j.toNat*z) z agg)).bind λv=>.ret (v,[]))
 |[.t (.agg cs),ix]=>(Q.of (vY ix)).bind λj=>Q.assert (0<=j/\j<n) ((Q.of (qUb (cs.map .t) (j.toNat*z) z agg)).bind λv=>.ret (v,[]))
 |_=>.fail
def qFg:List V->Q (V×Wr)
 |[.t (.str s),ix]=>(Q.of (vY ix)).bind λj=>Q.assert (0<=j) ((Q.of s.data.toList[j.toNat]?).bind λb=>.ret (.t (qA b),[]))
 |_=>.fail
def qHi (i:Nat):List V->Q (V×Wr)
 |[.tup vs]=>(Q.of vs[i]?).bind λv=>.ret (v,[])
 |[.t (.tup vs)]=>(Q.of vs[i]?).bind λv=>.ret (.t v,[])
 |_=>.fail
def qSp:List V->Q (V×Wr)
 |[.t (.str s)]=>.ret (.t (.int .i64 s.size),[])
 |_=>.fail
def zFw:List V->Q (V×Wr)
 |[.t (.sl es)]=>.ret (.t (.int .i64 es.length),[])
 |[.sl _ _ len]=>.ret (.t (.int .i64 len),[])
 |[.nil]=>.ret (.t (.int .i64 0),[])
 |_=>.fail
def qXk (n:Nat):List V->Q (V×Wr)
 |[_]=>.ret (.t (.int .i64 n),[])
 |_=>.fail
def qHh (z by_ nb:Nat):List V->Q (V×Wr)
 |[s,x]=>(qDm x).bind λxs=>Q.assert (zOk z xs=true)
  (match s with
  |.nil=>Q.assert (qDy xs.length by_) (.free nb (.ret (.sl nb 0 xs.length,[(nb,.live z xs true false)])))
  |.sl id 0 len=>.get id fun
   |.live z' es true _=>Q.assert (z'=z/\es.length=len/\qDy (len+xs.length) by_/\100<=id) (.free nb (.ret (.sl nb 0 (len+xs.length),[(id,.dead),(nb,.live z (es++xs) true false)])))
   |_=>.fail
  |_=>.fail)
 |_=>.fail
def qL6 (z by_ nb:Nat):List V->Q (V×Wr)
 |[.sl id 0 len,.t (.sl ts)]=>Q.assert (zOk z (ts.map .t)=true) (.get id fun
   |.live z' es true _=>Q.assert ((z'=z/\len<=es.length)/\qDy (len+ts.length) by_/\100<=id) (.free nb (.ret (.sl nb 0 (len+ts.length),[(id,.dead),(nb,.live z (es.take len++ts.map .t) true false)])))
   |_=>.fail)
 |_=>.fail
def AO.cut:AO->AO
 |.append z b=>.appendt z b
 |o=>o
def qC1 (nb:Nat):List V->Q (V×Wr)
 |[.sl id 0 len,.t (.str st)]=>.get id fun
   |.live z' es true _=>Q.assert (z'=1/\es.length=len/\qDy (len+st.size) 1/\100<=id) (.free nb (.ret (.sl nb 0 (len+st.size),[(id,.dead),(nb,.live 1 (es++st.data.toList.map λb=>.t (qA b)) true false)])))
   |_=>.fail
 |_=>.fail
def qXj (z:Nat):List V->Q (V×Wr)
 |[d,x]=>(qDm x).bind λxs=>Q.assert (zOk z xs=true)
  (match d with
  |.sl id off len=>.get id fun
   |.live z' es true full=>Q.assert (off<=es.length/\z'=z) (.ret (.t (.int .i64 (Nat.min xs.length len:Nat)),[(id,.live z (zY es off (xs.take len)) true full)]))
   |_=>.fail
  |_=>.fail)
 |_=>.fail
def zMd:List V->Q (V×Wr)
 |[.t (.int k a),.t (.int _ b)]=>.ret (.t (.int k (if b<a then b else a)),[])
 |_=>.fail
def zMc:List V->Q (V×Wr)
 |[.t (.int k a),.t (.int _ b)]=>.ret (.t (.int k (if b>a then b else a)),[])
 |_=>.fail
def qWs (k:IntKind):List T->Option (List Int)
 |[]=>some []
 |.int k' n::r=>if k'=k then(qWs k r).map (n :: ·) else none
 |_::_=>none
def qXi (n:Nat)(k:IntKind)(neg:Bool):List V->Q (V×Wr)
 |[.t (.agg xs),.t (.agg ys)]=>(Q.of (qWs k xs)).bind λa=>(Q.of (qWs k ys)).bind λb=>Q.assert (a.length=n/\b.length=n) (.ret (.t (.bool (if neg then !(a==b) else a==b)),[]))
 |_=>.fail
def zCn (f:FuncId)(vs:List V):Q (V×Wr):= .ret (.fn f vs,[])
def qQ6 (neg:Bool):List V->Q (V×Wr)
 |[.t (.sl es),.nil]=>.ret (if es.isEmpty then .bq else .t (.bool neg),[])
 |[.sl _ _ len,.nil]=>.ret (if len=0 then .bq else .t (.bool neg),[])
 |[.nil,.nil]=>.ret (.t (.bool (!neg)),[])
 |_=>.fail
def zCm (g:FuncId):List V->Q (V×Wr)
 |[.ref id i f]=>.ret (.bd g id i f,[])
 |_=>.fail
def zCl:List V->Q (V×Wr)
 |[.sl id off len]=>.get id fun
  |.live z es true full=>Q.assert (0<len/\0<es.length) (.ret (.sl id off len,[(id,.live z es true full)]))
  |_=>.fail
 |_=>.fail
def qLq:List V->Q (V×Wr)
 |[.ref id i f]=>.ret (.ref id i f,[])
 |[.ro cs]=>.ret (.ro cs,[])
 |_=>.fail
def zFv (z:Nat):List V->Q (V×Wr)
 |[.sl id off len]=>.get id fun
  |.live z' es true _=>Q.assert (z'=z/\0<len) (.ret (.tup [],[(id,.live z (es.take off) true false)]))
  |_=>.fail
 |_=>.fail
def sem (o:AO)(vs:List V)(nb:Nat):Q (V×Wr):=
 match o with
 |.mov=>zMe vs
 |.smov=>zCo vs
 |.pick=>qXl vs
 |.new z es=>zFx z es nb vs
 |.box=>zFu nb vs
 |.boxArr=>qLp nb vs
 |.build z pl=>qQ4 z pl vs
 |.bslice z len zero ix=>qQ3 z len zero ix nb vs
 |.load n agg=>qSo n agg vs
 |.store n=>qQ8 n vs
 |.bin op=>zMb op vs
 |.beq neg=>zFt neg vs
 |.un op=>jAh op vs
 |.conv k=>qIq k vs
 |.s2b=>zAt nb vs
 |.b2s=>zMa vs
 |.mkslice z by_ zero=>jAg z by_ zero nb vs
 |.sslice lo hi mx=>qQ7 lo hi mx vs
 |.slice z lo hi mx=>qVk z lo hi mx vs
 |.aslice n z lo hi mx=>qQ2 n z lo hi mx vs
 |.faddr off=>qVh off vs
 |.field off n agg=>qVi off n agg vs
 |.iaddr z=>qQ5 z vs
 |.aaddr n z=>qQ1 n z vs
 |.index n z agg=>qVj n z agg vs
 |.sindex=>qFg vs
 |.extract i=>qHi i vs
 |.len=>zFw vs
 |.slen=>qSp vs
 |.lenc n=>qXk n vs
 |.append z by_=>qHh z by_ nb vs
 |.appstr=>qC1 nb vs
 |.copy z=>qXj z vs
 |.min=>zMd vs
 |.max=>zMc vs
 |.mkfn f=>zCn f vs
 |.mkbd f=>zCm f vs
 |.idsl=>zCl vs
 |.nileq neg=>qQ6 neg vs
 |.appendt z by_=>qL6 z by_ nb vs
 |.aeq n k neg=>qXi n k neg vs
 |.nilchk=>qLq vs
 |.clr z=>zFv z vs
 |.bad=>.fail
end Go.Eng
end
section
namespace Go.Eng
open List
def upd (hm:Nat->Option Ob):Wr->(Nat->Option Ob)
 |[]=>hm
 |(i,o)::r=>upd (λj=>if j=i then some o else hm j) r
def qYp (β:Nat->Option BI)(i:Nat)(bi:BI):Nat->Option BI:=λj=>if j=i then some bi else β j
theorem zCp {β:Nat->Option BI}{i:Nat}{bi:BI}(h:β i=none):∀j b,β j=some b->qYp β i bi j=some b:=by
 intro j b hj;unfold qYp;split
 .subst_vars;rw[h]at hj;cases hj
 .exact hj
theorem zG {β:Nat->Option BI}{i:Nat}{bi:BI}:qYp β i bi i=some bi:=by simp[qYp]
theorem yA {β:Nat->Option BI}{i j:Nat}{bi:BI}(h:j≠i):qYp β i bi j=β j:=by simp[qYp,h]
variable {cx:Cx}{β β':Nat->Option BI}{F:Nat->Prop}{fm:Nat->Option V}{hm hm':Nat->Option Ob}{a:Act}{w w':World}
theorem Rel.step (R:Rel cx β F fm hm a w)(hβ:∀i bi,β i=some bi->β' i=some bi)
  (hos:w'.os=w.os) (htp:w'.tape=w.tape) (hout:w'.output=w.output) (hsz:w.heap.size<=w'.heap.size)
  (hblk:∀b,b<w.heap.size->w'.heap[b]?=w.heap[b]?\/∃id z es full bi,hm id=some (.live z es true full)/\β id=some bi/\bi.blk=some b)
  (hhp:∀id o,hm' id=some o->∃bi,β' id=some bi/\qG9 β' F w' bi o)
  (hdom:∀id,hm' id=none->β' id=none)
  (hinj:∀i j bi bj b oi oj,β' i=some bi->β' j=some bj->bi.blk=some b->bj.blk=some b->hm' i=some oi->hm' j=some oj->oi≠ .dead->oj≠ .dead->i=j)
  (hold:∀id z es full bi b,hm' id=some (.live z es true full)->β' id=some bi->bi.blk=some b->cx.w0.heap.size<=b\/id<100/\cx.inb b)
  (hblt:∀id bi b,β' id=some bi->bi.blk=some b->b<w'.heap.size):Rel cx β' F fm hm' a w':=by
 have notF:∀id z es full bi b,hm id=some (.live z es true full)->β id=some bi->bi.blk=some b->¬ F b:=by
  intro id z es full bi b h1 h2 h3;obtain⟨bi',hb',hok⟩:=R.hp id _ h1;rw[h2]at hb';cases hb';unfold qG9 at hok;simp only[h3]at hok;obtain⟨_,_,c,e,fz,_,_,_,_,_,_,h7⟩:=hok;simpa using h7
 have hF:∀b,F b->w'.heap[b]?=w.heap[b]?:=by
  intro b hb;rcases hblk b (R.Fw b hb)with h|⟨id,z,es,full,bi,h1,h2,h3⟩
  .exact h
  .exact absurd hb (notF id z es full bi b h1 h2 h3)
 refine⟨R.tsz,R.dfr,λt v hv=>?_,hhp,hdom,hinj,hos.trans R.os,htp.trans R.tape,hout.trans R.output,Nat.le_trans R.size hsz,λb hb hib=>?_,hold,R.inF,R.inw,
  λb hb=>Nat.lt_of_lt_of_le (R.Fw b hb) hsz,R.F0,hblt,λg cs hg=>(R.gl g cs hg).mono hβ (λ_ h=>h) hF,λk bi h=>hβ _ _ (R.ext0 k bi h),λg cs hg=>(R.gs g cs hg).mono (hF g (yC9 (R.gl g cs hg)))⟩
 .obtain⟨x,hx,hr⟩:=R.fr t v hv;exact⟨x,hx,hr.mono hβ (λ_ h=>h) hF⟩
 .rcases hblk b (Nat.lt_of_lt_of_le hb R.size)with h|⟨id,z,es,full,bi,h1,h2,h3⟩
  .exact h.trans (R.ext b hb hib)
  .rcases R.old id z es full bi b h1 h2 h3 with h|h
   .omega
   .exact absurd h.2 hib
theorem Rel.notF (R:Rel cx β F fm hm a w){id z:Nat}{es:List V}{full:Bool}{bi:BI}{b:Nat}(h1:hm id=some (.live z es true full))(h2:β id=some bi)(h3:bi.blk=some b):¬ F b:=by
 obtain⟨bi',hb',hok⟩:=R.hp id _ h1;rw[h2]at hb';cases hb';unfold qG9 at hok;simp only[h3]at hok;obtain⟨_,_,c,e,fz,_,_,_,_,_,_,h7⟩:=hok;simpa using h7
theorem Rel.drew (R:Rel cx β F fm hm a w):Rel cx β F fm hm a w.drew:=by
 refine R.step (w':=w.drew) (λ_ _ h=>h) rfl rfl rfl (Nat.le_refl _) (λb _=>.inl rfl) (λid o h=>?_) R.dom R.inj R.old R.blt;obtain⟨bi,h1,h2⟩:=R.hp id o h;exact⟨bi,h1,h2.mono (λ_ _ h=>h) (λ_ h=>h) (λ_ _=>rfl) (λb _ _=>⟨rfl,λh=>h⟩)⟩
theorem qR.drew {v:V}{x:Value}(h:qR β F w v x):qR β F w.drew v x:=h.mono (λ_ _ h=>h) (λ_ h=>h) (λ_ _=>rfl)
theorem zO {i:Nat}{o:Ob}:upd hm [(i,o)] i=some o:=by simp[upd]
theorem qQ {i j:Nat}{o:Ob}(h:j≠i):upd hm [(i,o)] j=hm j:=by simp[upd,h]
theorem Rel.alloc (R:Rel cx β F fm hm a w){nb:Nat}(hnb:hm nb=none){c:Array Value}{e:TypeId}{es:List V}{wr full:Bool}{sz room:Nat}{fz:Nat×Nat}
  (hwr:wr=true) (hw':w'.heap=w.heap.push (.cells c e fz)) (hos:w'.os=w.os) (htp:w'.tape=w.tape) (hout:w'.output=w.output)
  (hfz:∀j,(j<c.size->¬ (fz.1<=j/\j<fz.2))/\fz.1<=fz.2) (hc:c.size=room*sz) (hl:es.length<=room) (hm0:room<=maxLen) (hfull:full=true->room=es.length) (hH:vB β F w es sz c) :
  Rel cx (qYp β nb ⟨some w.heap.size,sz,room⟩) F fm (upd hm [(nb,.live sz es wr full)]) a w'/\∀i bi,β i=some bi->qYp β nb ⟨some w.heap.size,sz,room⟩ i=some bi:=by
 subst hwr;have hβ:∀i bi,β i=some bi->qYp β nb ⟨some w.heap.size,sz,room⟩ i=some bi:=zCp (R.dom nb hnb);have hbl:∀b,b<w.heap.size->w'.heap[b]?=w.heap[b]?:=λb hb=>by
  rw[hw',Array.getElem?_push,if_neg oM]
 have hnew:w'.heap[w.heap.size]?=some (.cells c e fz):=by rw[hw',Array.getElem?_push,if_pos rfl]
 have hsize:w'.heap.size=w.heap.size+1:=by rw[hw'];simp
 refine⟨R.step hβ hos htp hout oM (λb hb=>.inl (hbl b hb)) (λid o ho=>?_) (λid hn=>?_) (λi j bi bj b oi oj h1 h2 h3 h4 h5 h6 h7 h8=>?_) (λid z' es' full' bi b h1 h2 h3=>?_) (λid bi b h1 h2=>?_),hβ⟩
 .by_cases hid:id=nb
  .subst hid;rw[zO]at ho;cases ho;refine⟨_,zG,rfl,hfull,c,e,fz,hnew,hfz,hc,hl,hm0,hH.mono hβ (λ_ h=>h) (λb hb=>hbl b (R.Fw b hb)),?_⟩;simp only[if_true];exact λhF=>absurd (R.Fw _ hF) (Nat.lt_irrefl _)
  .rw[qQ hid]at ho;obtain⟨bi,h1,h2⟩:=R.hp id o ho;exact⟨bi,hβ _ _ h1,h2.mono hβ (λ_ h=>h) (λb hb=>hbl b (R.Fw b hb)) (λb hb _=>⟨hbl b (R.blt id bi b h1 hb),λh=>h⟩)⟩
 .by_cases hid:id=nb
  .subst hid;rw[zO]at hn;cases hn
  .rw[qQ hid]at hn;rw[yA hid];exact R.dom id hn
 .by_cases hi:i=nb<;>by_cases hj:j=nb
  .rw[hi,hj]
  .subst hi;rw[zG]at h1;cases h1;rw[yA hj]at h2;simp only[Option.some.injEq]at h3;have:=R.blt j bj b h2 h4;omega
  .subst hj;rw[zG]at h2;cases h2;rw[yA hi]at h1;simp only[Option.some.injEq]at h4;have:=R.blt i bi b h1 h3;omega
  .rw[yA hi]at h1;rw[yA hj]at h2;rw[qQ hi]at h5;rw[qQ hj]at h6;exact R.inj i j bi bj b oi oj h1 h2 h3 h4 h5 h6 h7 h8
 .by_cases hi:id=nb
  .subst hi;rw[zG]at h2;cases h2;simp only[Option.some.injEq]at h3;exact .inl (by have:=R.size;omega)
  .rw[yA hi]at h2;rw[qQ hi]at h1;exact R.old id z' es' full' bi b h1 h2 h3
 .by_cases hi:id=nb
  .subst hi;rw[zG]at h1;cases h1;simp only[Option.some.injEq]at h2;omega
  .rw[yA hi]at h1;have:=R.blt id bi b h1 h2;omega
theorem Rel.virt (R:Rel cx β F fm hm a w){nb:Nat}(hnb:hm nb=none){full:Bool}(sz:Nat) :
  Rel cx (qYp β nb ⟨none,sz,0⟩) F fm (upd hm [(nb,.live sz [] true full)]) a w/\∀i bi,β i=some bi->qYp β nb ⟨none,sz,0⟩ i=some bi:=by
 have hβ:∀i bi,β i=some bi->qYp β nb ⟨none,sz,0⟩ i=some bi:=zCp (R.dom nb hnb);refine⟨R.step hβ rfl rfl rfl (Nat.le_refl _) (λb _=>.inl rfl) (λid o ho=>?_) (λid hn=>?_) (λi j bi bj b oi oj h1 h2 h3 h4 h5 h6 h7 h8=>?_) (λid z' es' full' bi b h1 h2 h3=>?_) (λid bi b h1 h2=>?_),hβ⟩
 .by_cases hid:id=nb
  .subst hid;rw[zO]at ho;cases ho;exact⟨_,zG,rfl,λ_=>rfl,rfl,rfl⟩
  .rw[qQ hid]at ho;obtain⟨bi,h1,h2⟩:=R.hp id o ho;exact⟨bi,hβ _ _ h1,h2.mono hβ (λ_ h=>h) (λb _=>rfl) (λb _ _=>⟨rfl,λh=>h⟩)⟩
 .by_cases hid:id=nb
  .subst hid;rw[zO]at hn;cases hn
  .rw[qQ hid]at hn;rw[yA hid];exact R.dom id hn
 .by_cases hi:i=nb
  .subst hi;rw[zG]at h1;cases h1;cases h3
  .by_cases hj:j=nb
   .subst hj;rw[zG]at h2;cases h2;cases h4
   .rw[yA hi]at h1;rw[yA hj]at h2;rw[qQ hi]at h5;rw[qQ hj]at h6;exact R.inj i j bi bj b oi oj h1 h2 h3 h4 h5 h6 h7 h8
 .by_cases hi:id=nb
  .subst hi;rw[zG]at h2;cases h2;cases h3
  .rw[yA hi]at h2;rw[qQ hi]at h1;exact R.old id z' es' full' bi b h1 h2 h3
 .by_cases hi:id=nb
  .subst hi;rw[zG]at h1;cases h1;cases h2
  .rw[yA hi]at h1;exact R.blt id bi b h1 h2
theorem Rel.write (R:Rel cx β F fm hm a w){id b z:Nat}{es es':List V}{full full':Bool}{bi:BI}(hid:hm id=some (.live z es true full))(hb:β id=some bi)(hbk:bi.blk=some b)
  {c':Array Value} {e:TypeId} {fz:Nat×Nat}
  (hos:w'.os=w.os) (htp:w'.tape=w.tape) (hout:w'.output=w.output) (hsz:w'.heap.size=w.heap.size)
  (hother:∀k,k≠b->w'.heap[k]?=w.heap[k]?) (hthis:w'.heap[b]?=some (.cells c' e fz))
  (hfz:∀j,(j<c'.size->¬ (fz.1<=j/\j<fz.2))/\fz.1<=fz.2) (hc:c'.size=bi.room*bi.sz) (hl:es'.length<=bi.room) (hfull:full'=true->bi.room=es'.length) (hH:vB β F w es' bi.sz c') :
  Rel cx β F fm (upd hm [(id,.live z es' true full')]) a w':=by
 have hnF:¬ F b:=R.notF hid hb hbk;have hF:∀k,F k->w'.heap[k]?=w.heap[k]?:=λk hk=>hother k (λh=>hnF (h▸hk))
 refine R.step (λ_ _ h=>h) hos htp hout oM (λk hk=>?_) (λj o ho=>?_) (λj hn=>?_) (λi j bi' bj k oi oj h1 h2 h3 h4 h5 h6 h7 h8=>?_) (λj z'' es'' full'' bi' k h1 h2 h3=>?_) (λj bi' k h1 h2=>by rw[hsz];exact R.blt j bi' k h1 h2)
 .by_cases h:k=b
  .subst h;exact .inr ⟨id,z,es,full,bi,hid,hb,hbk⟩
  .exact .inl (hother k h)
 .by_cases h:j=id
  .subst h;rw[zO]at ho;cases ho;obtain⟨bi0,hb0,hok0⟩:=R.hp j _ hid;rw[hb]at hb0;cases hb0;obtain⟨hz0,_,hok0⟩:=hok0;refine⟨bi,hb,hz0,hfull,?_⟩;simp only[hbk]at hok0⊢;obtain⟨_,_,_,_,_,_,_,hmx,_,_⟩:=hok0;refine⟨c',e,fz,hthis,hfz,hc,hl,hmx,hH.mono (λ_ _ h=>h) (λ_ h=>h) hF,?_⟩;simpa using hnF
  .rw[qQ h]at ho;obtain⟨bi',h1,h2⟩:=R.hp j o ho;refine⟨bi',h1,h2.mono (λ_ _ h=>h) (λ_ h=>h) hF (λk hk hd=>⟨hother k (λhkb=>?_),λh=>h⟩)⟩;subst hkb;exact h (R.inj j id bi' bi k o _ h1 hb hk hbk ho hid hd sM)
 .by_cases h:j=id
  .subst h;rw[zO]at hn;cases hn
  .rw[qQ h]at hn;exact R.dom j hn
 .have live:∀j o,upd hm [(id,.live z es' true full')] j=some o->o≠ .dead->∃o',hm j=some o'/\o'≠ .dead:=by
   intro j o hj hd;by_cases h:j=id
   .subst h;exact⟨_,hid,sM⟩
   .rw[qQ h]at hj;exact⟨o,hj,hd⟩
  obtain⟨oi',a1,a2⟩:=live i oi h5 h7;obtain⟨oj',b1,b2⟩:=live j oj h6 h8;exact R.inj i j bi' bj k oi' oj' h1 h2 h3 h4 a1 b1 a2 b2
 .by_cases h:j=id
  .subst h;exact R.old j z es full bi' k hid h2 h3
  .rw[qQ h]at h1;exact R.old j z'' es'' full'' bi' k h1 h2 h3
theorem Rel.rename (R:Rel cx β F fm hm a w){id nb z:Nat}{es:List V}{full:Bool}{bi:BI}(hid:hm id=some (.live z es true full))(hb:β id=some bi)(hnb:hm nb=none)(h100:100<=id) :
  Rel cx (qYp β nb bi) F fm (upd hm [(id,.dead),(nb,.live z es true full)]) a w/\∀i bj,β i=some bj->qYp β nb bi i=some bj:=by
 have hβ:∀i bj,β i=some bj->qYp β nb bi i=some bj:=zCp (R.dom nb hnb);have hne:id≠nb:=λh=>by subst h;rw[hid]at hnb;cases hnb
 have u1:upd hm [(id,.dead),(nb,.live z es true full)] nb=some (.live z es true full):=by simp[upd]
 have u2:upd hm [(id,.dead),(nb,.live z es true full)] id=some .dead:=by simp[upd,hne]
 have u3:∀j,j≠id->j≠nb->upd hm [(id,.dead),(nb,.live z es true full)] j=hm j:=λj h1 h2=>by simp[upd,h1,h2]
 refine⟨R.step hβ rfl rfl rfl (Nat.le_refl _) (λb _=>.inl rfl) (λj o ho=>?_) (λj hn=>?_) (λi j bi' bj k oi oj h1 h2 h3 h4 h5 h6 h7 h8=>?_) (λj z'' es'' full'' bi' k h1 h2 h3=>?_) (λj bi' k h1 h2=>?_),hβ⟩
 .by_cases h1:j=nb
  .subst h1;rw[u1]at ho;cases ho;obtain⟨bi',h2,h3⟩:=R.hp id _ hid;rw[hb]at h2;cases h2;exact⟨bi,zG,h3.mono hβ (λ_ h=>h) (λ_ _=>rfl) (λ_ _ _=>⟨rfl,λh=>h⟩)⟩
  .by_cases h2:j=id
   .subst h2;rw[u2]at ho;cases ho;exact⟨bi,hβ _ _ hb,trivial⟩
   .rw[u3 j h2 h1]at ho;obtain⟨bi',h3,h4⟩:=R.hp j o ho;exact⟨bi',hβ _ _ h3,h4.mono hβ (λ_ h=>h) (λ_ _=>rfl) (λ_ _ _=>⟨rfl,λh=>h⟩)⟩
 .by_cases h1:j=nb
  .subst h1;rw[u1]at hn;cases hn
  .by_cases h2:j=id
   .subst h2;rw[u2]at hn;cases hn
   .rw[u3 j h2 h1]at hn;rw[yA h1];exact R.dom j hn
 ·
  have back:∀j bj o,qYp β nb bi j=some bj->upd hm [(id,.dead),(nb,.live z es true full)] j=some o->o≠ .dead->∃j' o',β j'=some bj/\hm j'=some o'/\o'≠ .dead/\(j=nb/\j'=id\/j≠nb/\j≠id/\j'=j):=by
   intro j bj o hj ho hd;by_cases h1:j=nb
   .subst h1;rw[zG]at hj;cases hj;exact⟨id,_,hb,hid,sM,.inl ⟨rfl,rfl⟩⟩
   .by_cases h2:j=id
    .subst h2;rw[u2]at ho;cases ho;exact absurd rfl hd
    .rw[u3 j h2 h1]at ho;rw[yA h1]at hj;exact⟨j,o,hj,ho,hd,.inr ⟨h1,h2,rfl⟩⟩
  obtain⟨i',oi',a1,a2,a3,a4⟩:=back i bi' oi h1 h5 h7;obtain⟨j',oj',b1,b2,b3,b4⟩:=back j bj oj h2 h6 h8;have:=R.inj i' j' bi' bj k oi' oj' a1 b1 h3 h4 a2 b2 a3 b3;rcases a4 with⟨x1,x2⟩|⟨x1,x2,x3⟩<;>rcases b4 with⟨y1,y2⟩|⟨y1,y2,y3⟩<;>subst_vars<;>first|rfl|exact absurd rfl x2|exact absurd rfl y2|skip
  all_goals first|(exact absurd this x2)|(exact absurd this.symm y2)|exact this
 .by_cases h4:j=nb
  .subst h4;rw[zG]at h2;cases h2;rcases R.old id z es full bi k hid hb h3 with h|h
   .exact .inl h
   .omega
  .by_cases h5:j=id
   .subst h5;rw[u2]at h1;cases h1
   .rw[u3 j h5 h4]at h1;rw[yA h4]at h2;exact R.old j z'' es'' full'' bi' k h1 h2 h3
 .by_cases h4:j=nb
  .subst h4;rw[zG]at h1;cases h1;exact R.blt id bi k hb h2
  .rw[yA h4]at h1;exact R.blt j bi' k h1 h2
theorem Rel.kill (R:Rel cx β F fm hm a w){id:Nat}{o:Ob}(hid:hm id=some o):Rel cx β F fm (upd hm [(id,.dead)]) a w:=by
 refine R.step (λ_ _ h=>h) rfl rfl rfl (Nat.le_refl _) (λb _=>.inl rfl) (λj o' ho=>?_) (λj hn=>?_) (λi j bi bj b oi oj h1 h2 h3 h4 h5 h6 h7 h8=>?_) (λj z' es' full' bi b h1 h2 h3=>?_) R.blt
 .by_cases h:j=id
  .subst h;obtain⟨bi,h1,_⟩:=R.hp j o hid;rw[zO]at ho;cases ho;exact⟨bi,h1,trivial⟩
  .rw[qQ h]at ho;exact R.hp j o' ho
 .by_cases h:j=id
  .subst h;rw[zO]at hn;cases hn
  .rw[qQ h]at hn;exact R.dom j hn
 .have a1:i≠id:=λh=>by subst h;rw[zO]at h5;cases h5;exact h7 rfl
  have a2:j≠id:=λh=>by subst h;rw[zO]at h6;cases h6;exact h8 rfl
  rw[qQ a1]at h5;rw[qQ a2]at h6;exact R.inj i j bi bj b oi oj h1 h2 h3 h4 h5 h6 h7 h8
 .have a1:j≠id:=λh=>by subst h;rw[zO]at h1;cases h1
  rw[qQ a1]at h1;exact R.old j z' es' full' bi b h1 h2 h3
end Go.Eng
end
section
namespace Go.Eng
open List
inductive xU {α β:Type}(R:α->β->Prop):List α->List β->Prop
 |nil:xU R [] []
 |cons {x:α} {y:β} {xs:List α} {ys:List β} (h:R x y) (t:xU R xs ys):xU R (x::xs) (y::ys)
theorem xU.length {α β:Type}{R:α->β->Prop}{xs:List α}{ys:List β}(h:xU R xs ys):xs.length=ys.length:=by
 induction h with
 |nil=>rfl
 |cons _ _ ih=>simp[ih]
theorem xU.get {α β:Type}{R:α->β->Prop}{xs:List α}{ys:List β}(h:xU R xs ys):∀(i:Nat)(y:β),ys[i]?=some y->∃x,xs[i]?=some x/\R x y:=by
 induction h with
 |nil=>intro i y hy;simp at hy
 |cons hr _ ih=>
  intro i y hy;cases i with
  |zero=>simp at hy;subst hy;exact⟨_,rfl,hr⟩
  |succ i=>simp at hy;obtain⟨x,h1,h2⟩:=ih i y hy;exact⟨x,by simpa using h1,h2⟩
theorem xU.get' {α β:Type}{R:α->β->Prop}{xs:List α}{ys:List β}(h:xU R xs ys):∀(i:Nat)(x:α),xs[i]?=some x->∃y,ys[i]?=some y/\R x y:=by
 induction h with
 |nil=>intro i y hy;simp at hy
 |cons hr _ ih=>
  intro i y hy;cases i with
  |zero=>simp at hy;subst hy;exact⟨_,rfl,hr⟩
  |succ i=>simp at hy;obtain⟨x,h1,h2⟩:=ih i y hy;exact⟨x,by simpa using h1,h2⟩
def Out (cx:Cx)(β:Nat->Option BI)(F:Nat->Prop)(fm:Nat->Option V)(hm:Nat->Option Ob)(a:Act)(w:World)(v:V)(W:Wr)(s:Sem Value):Prop:=
 ∃x w' β',s.run cx.P w=.ok x w'/\Rel cx β' F fm (upd hm W) a w'/\qR β' F w' v x/\∀i bi,β i=some bi->β' i=some bi
variable {cx:Cx}{β:Nat->Option BI}{F:Nat->Prop}{fm:Nat->Option V}{hm:Nat->Option Ob}{a:Act}{w:World}
theorem Out.same (R:Rel cx β F fm hm a w){v:V}{x:Value}{s:Sem Value}(hr:s.run cx.P w=.ok x w)(h:qR β F w v x):Out cx β F fm hm a w v [] s:=
 ⟨x,w,β,hr,R,h,λ_ _ h=>h⟩
theorem qR.int_inv {k:IntKind}{n:Int}{x:Value}(h:qR β F w (.t (.int k n)) x):x=.int k n:=by cases h with|t h=>cases h;rfl
theorem qR.bool_inv {b:Bool}{x:Value}(h:qR β F w (.t (.bool b)) x):x=.bool b:=by cases h with|t h=>cases h;rfl
theorem qR.str_inv {s:ByteArray}{x:Value}(h:qR β F w (.t (.str s)) x):x=.string s:=by cases h with|t h=>cases h;rfl
theorem qR.intArg_inv {v:V}{n:Int}{x:Value}(h:qR β F w v x)(hv:vY v=some n):∃k,x=.int k n:=by
 unfold vY at hv;split at hv
 .cases hv;exact⟨_,h.int_inv⟩
 .cases hv
theorem qXe {P:Program}{w:World}{op:BinOp}{t:TypeId}{x y:Operand}{k:IntKind}{n:Int}{q:Value}:(eqGuard op t x y (.int k n) q).run P w=.ok () w:=by cases op<;>rfl
theorem qXf {P:Program}{w:World}{op:BinOp}{t:TypeId}{x y:Operand}{s:ByteArray}{q:Value}:(eqGuard op t x y (.string s) q).run P w=.ok () w:=by cases op<;>rfl
theorem qI5 {P:Program}{w:World}{op:BinOp}{t:TypeId}{x y:Operand}{b:Bool}{q:Value}:(eqGuard op t x y (.bool b) q).run P w=.ok () w:=by cases op<;>rfl
theorem jFc {P:Program}{w:World}{op:BinOp}{t:TypeId}{k k':IntKind}{p q:Int}{r:T}(h:qLz op k p k' q=some r) :
  ∃x,(binOp op t (.int k p) (.int k' q)).run P w=.ok x w/\Rep F w r x:=by
 cases op<;>simp only[qLz]at h<;>split at h<;>(try cases h)
 case shl hn=>exact⟨_,by simp[binOp,Op.shift,hn];rfl,by constructor⟩
 case shr hn=>exact⟨_,by simp[binOp,Op.shift,hn];rfl,by constructor⟩
 case quo hn=>obtain⟨rfl,hq⟩:=hn;exact⟨_,by simp[binOp,Op.intDiv,hq];rfl,by constructor⟩
 case rem hn=>obtain⟨rfl,hq⟩:=hn;exact⟨_,by simp[binOp,Op.intDiv,hq];rfl,by constructor⟩
 case andNot=>subst_vars;exact⟨_,by simp only[binOp,ne_eq,not_true_eq_false,if_false,Op.intBits,Sem.run_pure];rfl,by constructor⟩
 all_goals(subst_vars;exact⟨_,by simp[binOp,Op.intArith,Op.intCmp,Op.intBits];rfl,by constructor⟩)
theorem jFd {P:Program}{w:World}{op:BinOp}{t:TypeId}{p q:ByteArray}{r:T}(h:qJu op (.str p) (.str q)=some r) :
  ∃x,(binOp op t (.string p) (.string q)).run P w=.ok x w/\Rep F w r x:=by
 cases op<;>simp only[qJu]at h<;>(try cases h)
 .split at h
  .cases h;rename_i hm;refine⟨.string (p++q),?_,.str _⟩;have:¬ (((p.size+q.size:Nat):Int)>IntKind.i64.max):=by
    have:IntKind.i64.max=9223372036854775807:=by decide
    rw[this];unfold maxLen at hm;omega
   simp only[binOp,Op.stringOp,this,if_false,Sem.run_pure]
  .cases h
 .exact⟨_,by simp[binOp,Op.stringOp];rfl,by constructor⟩
 .exact⟨_,by simp[binOp,Op.stringOp];rfl,by constructor⟩
theorem zP5 {P:Program}{w:World}{op:BinOp}{t:TypeId}{xo yo:Operand}{x y r:T}{p q:Value}(h:qJu op x y=some r)(hx:Rep F w x p)(hy:Rep F w y q) :
  ∃u,(do eqGuard op t xo yo p q;binOp op t p q:Sem Value).run P w=.ok u w/\Rep F w r u:=by
 unfold qJu at h;split at h
 .cases hx;cases hy;obtain⟨u,h1,h2⟩:=jFc (F:=F) (P:=P) (w:=w) (t:=t) h;refine⟨u,?_,h2⟩;rw[Sem.run_bind,qXe];exact h1
 .cases hx;cases hy;have h':qJu op (.str _) (.str _)=some r:=h;obtain⟨u,h1,h2⟩:=jFd (F:=F) (P:=P) (w:=w) (t:=t) h';refine⟨u,?_,h2⟩;rw[Sem.run_bind,qXf];exact h1
 .cases h
theorem jA9 {P:Program}{w:World}{op:UnOp}{x r:T}{p:Value}(h:unT op x=some r)(hx:Rep F w x p) :
  ∃u,(Op.unary op p).run P w=.ok u w/\Rep F w r u:=by
 unfold unT at h;split at h
 .cases hx;split at h<;>(try cases h)
  .exact⟨_,by simp[Op.unary,Op.intArith],.int _ _⟩
  .exact⟨_,by simp[Op.unary,Op.intBits],.int _ _⟩
 .cases hx;split at h<;>(try cases h);exact⟨_,by simp[Op.unary],.bool _⟩
 .cases h
theorem zEy {k:IntKind}:∀{xs:List T}{a:List Int},qWs k xs=some a->xs=a.map (T.int k)
 |[],a,h=>by simp[qWs]at h;subst h;rfl
 |x::r,a,h=>by
  cases x<;>simp only[qWs]at h<;>try cases h
  split at h
  .simp only[Option.map_eq_some_iff]at h;obtain⟨b,h1,rfl⟩:=h;subst_vars;rw[zEy h1];rfl
  .cases h
theorem qF4 {k:IntKind}{xs:List T}{a:List Int}{p:Value}(h:qR β F w (.t (.agg xs)) p)(ha:qWs k xs=some a):p=.agg (a.map (Value.int k)).toArray:=by
 have hx:=zEy ha;subst hx;cases h with
 |t h=>
  cases h with
  |agg _ vs hl h1 h2=>
   congr 1;refine Array.ext (by simp[hl]) (λi h3 h4=>?_);have hi:i<a.length:=by simpa [hl]using h3
   have:=h2 i (T.int k a[i]) vs[i] (by simp[hi]) (by simp[h3]);have hv:vs[i]=Value.int k a[i]:=by generalize vs[i]=u at this;cases this;rfl
   rw[hv];simp
theorem qMq:∀(xs ys:List Int),xs.length=ys.length->((List.range xs.length).all λi=>xs.getD i 0==ys.getD i 0)=(xs==ys)
 |[],[],_=>rfl
 |x::xs,y::ys,h=>by
  have ih:=qMq xs ys (by simpa using h);rw[length_cons,range_succ_eq_map,all_cons,all_map];simp only[getD_cons_zero,Function.comp_def,getD_cons_succ,ih];simp[cons_beq_cons]
 |[],_::_,h=>by simp at h
 |_::_,[],h=>by simp at h
theorem qI6 {P:Program}(w:World)(d:Nat)(t e:TypeId)(n:Nat)(k:IntKind)(ht:P.underlying t=some (.array n e))(he:P.underlying e=some (.int k))(hsz:∀w,(sizeOf e).run P w=.ok 1 w)
  (xs ys:List Int) (hx:xs.length=n) (hy:ys.length=n) :
  (Op.equalIn (d+2) t (.agg (xs.map (Value.int k)).toArray) (.agg (ys.map (Value.int k)).toArray)).run P w=.ok (xs==ys) w:=by
 rw[<-qMq xs ys (hx.trans hy.symm),hx,range_eq_range',Op.equalIn];simp only[Sem.run_bind,run_underlying ht,Result.andThen_ok,hsz,Std.Legacy.Range.forIn_eq_forIn_range',Std.Legacy.Range.size,Nat.sub_zero,Nat.add_sub_cancel,Nat.div_one];have hl:∀i∈List.range' 0 n 1,i<n:=λi hi=>by simpa using(mem_range'_1.1 hi).2
 generalize List.range' 0 n 1=l at hl⊢
 induction l with
 |nil=>simp
 |cons i l ih=>
  have hi:i<n:=hl i sM;have px:(part e (xs.map (Value.int k)).toArray (i*1)).run P w=.ok (.int k (xs.getD i 0)) w:=by
   simp[part,isAgg,run_underlying he,List.getD,getElem?_eq_getElem (show i<xs.length by omega)]
  have py:(part e (ys.map (Value.int k)).toArray (i*1)).run P w=.ok (.int k (ys.getD i 0)) w:=by
   simp[part,isAgg,run_underlying he,List.getD,getElem?_eq_getElem (show i<ys.length by omega)]
  have pe:(Op.equalIn (d+1) e (.int k (xs.getD i 0)) (.int k (ys.getD i 0))).run P w=.ok (xs.getD i 0==ys.getD i 0) w:=run_equalIn_int w d e k k _ _ he;simp only[forIn_cons,Sem.run_bind,px,py,pe,Result.andThen_ok,all_cons];cases hb:(xs.getD i 0==ys.getD i 0)
  .simp
  .simp only[Bool.not_true,Bool.false_eq_true,if_false,Sem.run_pure,Result.andThen_ok,Bool.true_and];exact ih λj hj=>hl j (by simp[hj])
theorem zTv {P:Program}(w:World)(neg:Bool)(xo yo:Operand)(t e:TypeId)(n:Nat)(k:IntKind)(ht:P.underlying t=some (.array n e))(he:P.underlying e=some (.int k))(hsz:∀w,(sizeOf e).run P w=.ok 1 w)(hg:P.eqGuardType P.depth t=false)
  (xs ys:List Int) (hx:xs.length=n) (hy:ys.length=n):(do eqGuard (if neg then .neq else .eql) t xo yo (.agg (xs.map (Value.int k)).toArray) (.agg (ys.map (Value.int k)).toArray);binOp (if neg then .neq else .eql) t (.agg (xs.map (Value.int k)).toArray) (.agg (ys.map (Value.int k)).toArray):Sem Value).run P w=.ok (.bool (if neg then !(xs==ys) else xs==ys)) w:=by
 rw[Sem.run_bind,run_eqGuard_agg w _ t xo yo _ _ hg];simp only[Result.andThen_ok];cases neg
 .simp only[Bool.false_eq_true,if_false];rw[run_eql_struct,qI6 w 9998 t e n k ht he hsz xs ys hx hy];rfl
 .simp only[if_true];rw[run_neq_struct,qI6 w 9998 t e n k ht he hsz xs ys hx hy];rfl
def zEq (P:Program)(k:IntKind):List Field->Nat->Bool
 |[],_=>true
 |f::fs,i=>decide (f.name ≠ "_")&&(f.offset==i)&&(match P.underlying f.type with|some (.int k')=>decide (k'=k)|_=>false)&&zEq P k fs (i+1)
theorem qHg {P:Program}(w:World)(d:Nat)(k:IntKind):∀(fs:List Field)(i:Nat)(xs ys:List Int),zEq P k fs i=true->xs.length=i+fs.length->ys.length=i+fs.length->
  (Op.eqFields (d+1) (xs.map (Value.int k)).toArray (ys.map (Value.int k)).toArray fs).run P w=.ok (xs.drop i==ys.drop i) w
 |[],i,xs,ys,_,hx,hy=>by
  rw[drop_eq_nil_of_le (by simp at hx;omega),drop_eq_nil_of_le (by simp at hy;omega)];simp[Op.eqFields]
 |f::fs,i,xs,ys,h,hx,hy=>by
  simp only[length_cons]at hx hy;simp only[zEq,Bool.and_eq_true,decide_eq_true_eq,beq_iff_eq]at h;obtain⟨⟨⟨h1,h2⟩,h3⟩,h4⟩:=h;have he:P.underlying f.type=some (.int k):=by
   split at h3
   .rename_i k' hk';simp only[decide_eq_true_eq]at h3;rw[hk',h3]
   .simp at h3
  have px:(part f.type (xs.map (Value.int k)).toArray f.offset).run P w=.ok (.int k (xs.getD i 0)) w:=by
   rw[h2];simp[part,isAgg,run_underlying he,List.getD,getElem?_eq_getElem (show i<xs.length by omega)]
  have py:(part f.type (ys.map (Value.int k)).toArray f.offset).run P w=.ok (.int k (ys.getD i 0)) w:=by
   rw[h2];simp[part,isAgg,run_underlying he,List.getD,getElem?_eq_getElem (show i<ys.length by omega)]
  have pe:(Op.equalIn (d+1) f.type (.int k (xs.getD i 0)) (.int k (ys.getD i 0))).run P w=.ok (xs.getD i 0==ys.getD i 0) w:=run_equalIn_int w d f.type k k _ _ he;have ih:=qHg w d k fs (i+1) xs ys h4 oM oM;have dx:xs.drop i=xs.getD i 0::xs.drop (i+1):=by
   rw[drop_eq_getElem_cons (show i<xs.length by omega)];simp[List.getD,getElem?_eq_getElem (show i<xs.length by omega)]
  have dy:ys.drop i=ys.getD i 0::ys.drop (i+1):=by
   rw[drop_eq_getElem_cons (show i<ys.length by omega)];simp[List.getD,getElem?_eq_getElem (show i<ys.length by omega)]
  rw[Op.eqFields,if_pos h1];simp only[Sem.run_bind,px,py,pe,Result.andThen_ok];rw[dx,dy,cons_beq_cons];cases hb:(xs.getD i 0==ys.getD i 0)
  .simp
  .simp only[Bool.not_true,Bool.false_eq_true,if_false,Bool.true_and];exact ih
theorem zL6 {P:Program}(w:World)(neg:Bool)(xo yo:Operand)(t:TypeId)(fs:Array Field)(k:IntKind)(ht:P.underlying t=some (.struct fs))(hf:zEq P k fs.toList 0=true)(hg:P.eqGuardType P.depth t=false)(hst:P.stoodInHeld t=false)
  (xs ys:List Int) (hx:xs.length=fs.size) (hy:ys.length=fs.size):(do eqGuard (if neg then .neq else .eql) t xo yo (.agg (xs.map (Value.int k)).toArray) (.agg (ys.map (Value.int k)).toArray);binOp (if neg then .neq else .eql) t (.agg (xs.map (Value.int k)).toArray) (.agg (ys.map (Value.int k)).toArray):Sem Value).run P w=.ok (.bool (if neg then !(xs==ys) else xs==ys)) w:=by
 have hfs:P.fieldsOf t=fs:=by unfold Program.fieldsOf;rw[ht]
 have hr:=qHg (P:=P) w 9998 k fs.toList 0 xs ys hf (by simp[hx]) (by simp[hy]);simp only[drop_zero]at hr;have he:=run_equalIn_agg (P:=P) w 9999 t (xs.map (Value.int k)).toArray (ys.map (Value.int k)).toArray (by rw[hfs];exact ht) hst;rw[hfs]at he;rw[Sem.run_bind,run_eqGuard_agg w _ t xo yo _ _ hg];simp only[Result.andThen_ok];cases neg
 .simp only[Bool.false_eq_true,if_false];rw[run_eql_struct,he,hr];rfl
 .simp only[if_true];rw[run_neq_struct,he,hr];rfl
theorem qR.cells {v:V}{x:Value}(h:qR β F w v x):x.cells.size=v.cells.length/\(∀(i:Nat)(c:V)(u:Value),v.cells[i]?=some c->x.cells[i]?=some u->qR β F w c u):=by
 have one:∀{v:V}{x:Value},v.cells=[v]->x.cells = #[x]->qR β F w v x->x.cells.size=v.cells.length/\(∀(i:Nat)(c:V)(u:Value),v.cells[i]?=some c->x.cells[i]?=some u->qR β F w c u):=by
  intro v x h1 h2 h3;rw[h1,h2];refine⟨rfl,λi c u hc hu=>?_⟩;cases i with
  |zero=>simp at hc hu;subst hc hu;exact h3
  |succ i=>simp at hc
 cases h with
 |t h=>
  cases h with
  |agg cs vs hl h1 h=>
   refine⟨by simp[V.cells,Value.cells,hl],λi c u hc hu=>?_⟩;simp only[V.cells,getElem?_map,Option.map_eq_some_iff]at hc;obtain⟨c',hc',rfl⟩:=hc;exact .t (h i c' u hc' hu)
  |int k n=>exact one rfl rfl (.t (.int k n))
  |bool b=>exact one rfl rfl (.t (.bool b))
  |str s=>exact one rfl rfl (.t (.str s))
  |fnil=>exact one rfl rfl (.t .fnil)
  |pnil=>exact one rfl rfl (.t .pnil)
  |tup cs vs hl h=>exact one rfl rfl (.t (.tup cs vs hl h))
  |nil=>exact one rfl rfl (.t .nil)
  |sl es a cap sz news ha hc hn h1 hF hw hz h=>exact one rfl rfl (.t (.sl es a cap sz news ha hc hn h1 hF hw hz h))
 |nil=>exact one rfl rfl .nil
 |ref id i f b sz room hb=>exact one rfl rfl (.ref id i f b sz room hb)
 |ro cs a news ha hn h1 hF hw h=>exact one rfl rfl (.ro cs a news ha hn h1 hF hw h)
 |sl id off len cap b sz room a hb hlc hr ha hs=>exact one rfl rfl (.sl id off len cap b sz room a hb hlc hr ha hs)
 |slv id sz room hb=>exact one rfl rfl (.slv id sz room hb)
 |agg cs vs hl h1 h=>exact⟨by simp[V.cells,Value.cells,hl],λi c u hc hu=>h i c u hc hu⟩
 |tup cs vs hl h=>exact one rfl rfl (.tup cs vs hl h)
 |fn f cs vs hl h=>exact one rfl rfl (.fn f cs vs hl h)
 |bd g id i f b sz room hb=>exact one rfl rfl (.bd g id i f b sz room hb)
 |bq b=>exact one rfl rfl (.bq b)
theorem qE2 {cs:List V}{ts:List T}(h:qFl cs=some ts):cs=ts.map .t:=by
 induction cs generalizing ts with
 |nil=>simp[qFl]at h;subst h;rfl
 |cons c r ih=>
  cases c<;>simp only[qFl]at h<;>try cases h
  simp only[Option.map_eq_some_iff]at h;obtain⟨ts',h1,rfl⟩:=h;rw[ih h1];rfl
theorem qR.mk {cs:List V}{vs:Array Value}(hl:vs.size=cs.length)(h1:∀u∈vs,u.oneCell'=true)(h:∀(i:Nat)(c:V)(u:Value),cs[i]?=some c->vs[i]?=some u->qR β F w c u) :
  qR β F w (V.mk cs) (.agg vs):=by
 unfold V.mk;split
 .rename_i ts hts;have:=qE2 hts;subst this;refine .t (.agg ts vs (by simpa using hl) h1 (λi c u hc hu=>?_));have:=h i (.t c) u (by simp[hc]) hu;cases this with|t h=>exact h
 .exact .agg cs vs hl h1 h
theorem V.cells_mk (cs:List V):(V.mk cs).cells=cs:=by
 unfold V.mk;split
 .rename_i ts hts;rw[qE2 hts];rfl
 .rfl
theorem yG {P:Program}{w:World}{t:TypeId}{i:TypeInfo}(h:P.info? t=some i):(sizeOf t).run P w=.ok i.size w:=by
 simp[sizeOf,typeInfo,h]
def vV:TypeDesc->Bool
 |.struct _|.array _ _=>true
 |_=>false
theorem zFo {P:Program}{w:World}{t:TypeId}{d:TypeDesc}(h:P.underlying t=some d):(isAgg t).run P w=.ok (vV d) w:=by
 unfold isAgg;rw[Sem.run_bind,run_underlying h];cases d<;>rfl
theorem qXg {P:Program}{w:World}{t:TypeId}{i:TypeInfo}{d:TypeDesc}(hi:P.info? t=some i)(hd:P.underlying t=some d)(ad:Addr)(cs:List Value)
  (hl:cs.length=i.size) (hc:∀j v,cs[j]?=some v->w.cell? (ad.add j)=some v) (h1:vV d=false->i.size=1) :
  (loadVar t ad).run P w=.ok (if vV d then .agg cs.toArray else cs.headD undef) w:=by
 unfold loadVar;rw[Sem.run_bind,zFo hd];simp only[Result.andThen_ok];cases hg:vV d
 .simp only[Bool.false_eq_true,if_false];have:=h1 hg
  match cs,hl with
  |[],hl=>simp at hl;omega
  |c::r,hl=>
   have h0:=hc 0 c sM;simp only[Addr.add,if_true]at h0;simp[h0]
 .simp only[if_true];rw[Sem.run_bind,yG hi];simp only[Result.andThen_ok,Sem.run_bind,<-hl,run_loadCells_list w ad cs hc,Sem.run_pure]
theorem qUa {x:Value}:x.oneCell'=true->x.cells = #[x]:=by cases x<;>simp[Value.oneCell',Value.cells]
end Go.Eng
end
