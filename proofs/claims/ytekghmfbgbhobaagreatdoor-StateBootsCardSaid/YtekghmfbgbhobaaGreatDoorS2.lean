/- A part of an abstract machine, its walks, their tie. -/
import Derived.Test.YtekghmfbgbhobaaGreatDoorS1
import Derived.Laws.IdiomCopy
import Derived.Laws.IdiomStrings
import Derived.Laws.Small
import Derived.Laws.Slices
import Derived.Laws.Strings
import Derived.Laws.BytesString
import Derived.Laws.StructEq
set_option linter.all false
section
namespace Go.Eng
inductive qAh {α β:Type} (R:α→β→Prop):List α→List β→Prop
 | nil:qAh R [] []
 | cons {x:α} {y:β} {xs:List α} {ys:List β} (h:R x y) (t:qAh R xs ys):qAh R (x::xs) (y::ys)
theorem qAh.length {α β:Type}{R:α→β→Prop}{xs:List α}{ys:List β}(h:qAh R xs ys):xs.length=ys.length:=by
 induction h with
 | nil=>rfl
 | cons _ _ ih=>simp[ih]
theorem qAh.get {α β:Type}{R:α→β→Prop}{xs:List α}{ys:List β}(h:qAh R xs ys) : ∀ (i:Nat) (y:β),ys[i]?=some y → ∃ x,xs[i]?=some x∧R x y:=by
 induction h with
 | nil=>intro i y hy;simp at hy
 | cons hr _ ih=>
  intro i y hy;cases i with
  | zero=>simp at hy;subst hy;exact⟨_,rfl,hr⟩
  | succ i=>simp at hy;obtain⟨x,h1,h2⟩:=ih i y hy;exact⟨x,by simpa using h1,h2⟩
theorem qAh.get' {α β:Type}{R:α→β→Prop}{xs:List α}{ys:List β}(h:qAh R xs ys) : ∀ (i:Nat) (x:α),xs[i]?=some x → ∃ y,ys[i]?=some y∧R x y:=by
 induction h with
 | nil=>intro i y hy;simp at hy
 | cons hr _ ih=>
  intro i y hy;cases i with
  | zero=>simp at hy;subst hy;exact⟨_,rfl,hr⟩
  | succ i=>simp at hy;obtain⟨x,h1,h2⟩:=ih i y hy;exact⟨x,by simpa using h1,h2⟩
def Out (cx:Cx)(β:Nat→Option BI)(F:Nat→Prop)(fm:Nat→Option V)(hm:Nat→Option Ob)(a:Act)(w:World)(v:V)(W:Wr)(s:Sem Value):Prop:=
 ∃ x w' β',s.run cx.P w = .ok x w'∧Rel cx β' F fm (upd hm W) a w'∧qV β' F w' v x ∧ ∀ i bi,β i=some bi→β' i=some bi
variable {cx:Cx} {β:Nat→Option BI} {F:Nat→Prop} {fm:Nat→Option V} {hm:Nat→Option Ob} {a:Act} {w:World}
theorem Out.same (R:Rel cx β F fm hm a w){v:V}{x:Value}{s:Sem Value}(hr:s.run cx.P w = .ok x w)(h:qV β F w v x):Out cx β F fm hm a w v [] s:=
 ⟨x,w,β,hr,R,h,fun _ _ h=>h⟩
theorem qV.int_inv {k:IntKind}{n:Int}{x:Value}(h:qV β F w (.t (.int k n)) x):x = .int k n:=by cases h with | t h=>cases h;rfl
theorem qV.bool_inv {b:Bool}{x:Value}(h:qV β F w (.t (.bool b)) x):x = .bool b:=by cases h with | t h=>cases h;rfl
theorem qV.str_inv {s:ByteArray}{x:Value}(h:qV β F w (.t (.str s)) x):x = .string s:=by cases h with | t h=>cases h;rfl
theorem qV.intArg_inv {v:V}{n:Int}{x:Value}(h:qV β F w v x)(hv:vO v=some n) : ∃ k,x = .int k n:=by
 unfold vO at hv;split at hv
 ·cases hv;exact⟨_,h.int_inv⟩
 ·cases hv
theorem qTv {P:Program}{w:World}{op:BinOp}{t:TypeId}{x y:Operand}{k:IntKind}{n:Int}{q:Value}:(eqGuard op t x y (.int k n) q).run P w = .ok () w:=by cases op<;>rfl
theorem qTw {P:Program}{w:World}{op:BinOp}{t:TypeId}{x y:Operand}{s:ByteArray}{q:Value}:(eqGuard op t x y (.string s) q).run P w = .ok () w:=by cases op<;>rfl
theorem qH1 {P:Program}{w:World}{op:BinOp}{t:TypeId}{x y:Operand}{b:Bool}{q:Value}:(eqGuard op t x y (.bool b) q).run P w = .ok () w:=by cases op<;>rfl
theorem zWl {P:Program}{w:World}{op:BinOp}{t:TypeId}{k k':IntKind}{p q:Int}{r:T}(h:qXp op k p k' q=some r) :
  ∃ x,(binOp op t (.int k p) (.int k' q)).run P w = .ok x w∧Rep F w r x:=by
 cases op<;>simp only[qXp] at h<;>split at h<;>(try cases h)
 case shl hn=>exact⟨_,by simp[binOp,Op.shift,hn];rfl,by constructor⟩
 case shr hn=>exact⟨_,by simp[binOp,Op.shift,hn];rfl,by constructor⟩
 case quo hn=>obtain⟨rfl,hq⟩:=hn;exact⟨_,by simp[binOp,Op.intDiv,hq];rfl,by constructor⟩
 case rem hn=>obtain⟨rfl,hq⟩:=hn;exact⟨_,by simp[binOp,Op.intDiv,hq];rfl,by constructor⟩
 case andNot=>subst_vars;exact⟨_,by simp only[binOp,ne_eq,not_true_eq_false,if_false,Op.intBits,Sem.run_pure];rfl,by constructor⟩
 all_goals (subst_vars;exact⟨_,by simp[binOp,Op.intArith,Op.intCmp,Op.intBits];rfl,by constructor⟩)
theorem zWm {P:Program}{w:World}{op:BinOp}{t:TypeId}{p q:ByteArray}{r:T}(h:qCv op (.str p) (.str q)=some r) :
  ∃ x,(binOp op t (.string p) (.string q)).run P w = .ok x w∧Rep F w r x:=by
 cases op<;>simp only[qCv] at h<;>(try cases h)
 ·split at h
  ·cases h;rename_i hm;refine⟨.string (p++q),?_,.str _⟩;have : ¬ (((p.size+q.size:Nat):Int)>IntKind.i64.max):=by
    have:IntKind.i64.max=9223372036854775807:=by decide
    rw[this];unfold maxLen at hm;omega
   simp only[binOp,Op.stringOp,this,if_false,Sem.run_pure]
  ·cases h
 ·exact⟨_,by simp[binOp,Op.stringOp];rfl,by constructor⟩
 ·exact⟨_,by simp[binOp,Op.stringOp];rfl,by constructor⟩
theorem zKk {P:Program}{w:World}{op:BinOp}{t:TypeId}{xo yo:Operand}{x y r:T}{p q:Value}(h:qCv op x y=some r)(hx:Rep F w x p)(hy:Rep F w y q) :
  ∃ u,(do eqGuard op t xo yo p q;binOp op t p q:Sem Value).run P w = .ok u w∧Rep F w r u:=by
 unfold qCv at h;split at h
 ·cases hx;cases hy;obtain⟨u,h1,h2⟩:=zWl (F:=F) (P:=P) (w:=w) (t:=t) h;refine⟨u,?_,h2⟩;rw[Sem.run_bind,qTv];exact h1
 ·cases hx;cases hy;have h':qCv op (.str _) (.str _)=some r:=h;obtain⟨u,h1,h2⟩:=zWm (F:=F) (P:=P) (w:=w) (t:=t) h';refine⟨u,?_,h2⟩;rw[Sem.run_bind,qTw];exact h1
 ·cases h
theorem zTk {P:Program}{w:World}{op:UnOp}{x r:T}{p:Value}(h:unT op x=some r)(hx:Rep F w x p) :
  ∃ u,(Op.unary op p).run P w = .ok u w∧Rep F w r u:=by
 unfold unT at h;split at h
 ·cases hx;split at h<;>(try cases h)
  ·exact⟨_,by simp[Op.unary,Op.intArith],.int _ _⟩
  ·exact⟨_,by simp[Op.unary,Op.intBits],.int _ _⟩
 ·cases hx;split at h<;>(try cases h);exact⟨_,by simp[Op.unary],.bool _⟩
 ·cases h
theorem zAz {k:IntKind} : ∀ {xs:List T} {a:List Int},qQ1 k xs=some a→xs=a.map (T.int k)
 | [],a,h=>by simp[qQ1] at h;subst h;rfl
 | x::r,a,h=>by
  cases x<;>simp only[qQ1] at h<;>try cases h
  split at h
  ·simp only[Option.map_eq_some_iff] at h;obtain⟨b,h1,rfl⟩:=h;subst_vars;rw[zAz h1];rfl
  ·cases h
theorem qEg {k:IntKind}{xs:List T}{a:List Int}{p:Value}(h:qV β F w (.t (.agg xs)) p)(ha:qQ1 k xs=some a):p = .agg (a.map (Value.int k)).toArray:=by
 have hx:=zAz ha;subst hx;cases h with
 | t h=>
  cases h with
  | agg _ vs hl h1 h2=>
   congr 1;refine Array.ext (by simp[hl]) (fun i h3 h4=>?_);have hi:i<a.length:=by simpa [hl] using h3
   have:=h2 i (T.int k a[i]) vs[i] (by simp[hi]) (by simp[h3]);have hv:vs[i]=Value.int k a[i]:=by generalize vs[i]=u at this;cases this;rfl
   rw[hv];simp
theorem qKw : ∀ (xs ys:List Int),xs.length=ys.length→((List.range xs.length).all fun i=>xs.getD i 0==ys.getD i 0)=(xs==ys)
 | [],[],_=>rfl
 | x::xs,y::ys,h=>by
  have ih:=qKw xs ys (by simpa using h);rw[List.length_cons,List.range_succ_eq_map,List.all_cons,List.all_map];simp only[List.getD_cons_zero,Function.comp_def,List.getD_cons_succ,ih];simp[List.cons_beq_cons]
 | [],_::_,h=>by simp at h
 | _::_,[],h=>by simp at h
theorem qH2 {P:Program}(w:World)(d:Nat)(t e:TypeId)(n:Nat)(k:IntKind)(ht:P.underlying t=some (.array n e))(he:P.underlying e=some (.int k))(hsz : ∀ w,(sizeOf e).run P w = .ok 1 w)
  (xs ys:List Int) (hx:xs.length=n) (hy:ys.length=n) :
  (Op.equalIn (d+2) t (.agg (xs.map (Value.int k)).toArray) (.agg (ys.map (Value.int k)).toArray)).run P w = .ok (xs==ys) w:=by
 rw[←qKw xs ys (hx.trans hy.symm),hx,List.range_eq_range',Op.equalIn];simp only[Sem.run_bind,run_underlying ht,Result.andThen_ok,hsz,Std.Legacy.Range.forIn_eq_forIn_range',Std.Legacy.Range.size,Nat.sub_zero,Nat.add_sub_cancel,Nat.div_one];have hl : ∀ i∈List.range' 0 n 1,i<n:=fun i hi=>by simpa using (List.mem_range'_1.1 hi).2
 generalize List.range' 0 n 1=l at hl ⊢
 induction l with
 | nil=>simp
 | cons i l ih=>
  have hi:i<n:=hl i sM;have px:(part e (xs.map (Value.int k)).toArray (i*1)).run P w = .ok (.int k (xs.getD i 0)) w:=by
   simp[part,isAgg,run_underlying he,List.getD,List.getElem?_eq_getElem (show i<xs.length by omega)]
  have py:(part e (ys.map (Value.int k)).toArray (i*1)).run P w = .ok (.int k (ys.getD i 0)) w:=by
   simp[part,isAgg,run_underlying he,List.getD,List.getElem?_eq_getElem (show i<ys.length by omega)]
  have pe:(Op.equalIn (d+1) e (.int k (xs.getD i 0)) (.int k (ys.getD i 0))).run P w = .ok (xs.getD i 0==ys.getD i 0) w:=run_equalIn_int w d e k k _ _ he;simp only[List.forIn_cons,Sem.run_bind,px,py,pe,Result.andThen_ok,List.all_cons];cases hb:(xs.getD i 0==ys.getD i 0)
  ·simp
  ·simp only[Bool.not_true,Bool.false_eq_true,if_false,Sem.run_pure,Result.andThen_ok,Bool.true_and];exact ih fun j hj=>hl j (by simp[hj])
theorem zNm {P:Program}(w:World)(neg:Bool)(xo yo:Operand)(t e:TypeId)(n:Nat)(k:IntKind)(ht:P.underlying t=some (.array n e))(he:P.underlying e=some (.int k))(hsz : ∀ w,(sizeOf e).run P w = .ok 1 w)(hg:P.eqGuardType P.depth t=false)
  (xs ys:List Int) (hx:xs.length=n) (hy:ys.length=n):(do eqGuard (if neg then .neq else .eql) t xo yo (.agg (xs.map (Value.int k)).toArray) (.agg (ys.map (Value.int k)).toArray);binOp (if neg then .neq else .eql) t (.agg (xs.map (Value.int k)).toArray) (.agg (ys.map (Value.int k)).toArray):Sem Value).run P w = .ok (.bool (if neg then !(xs==ys) else xs==ys)) w:=by
 rw[Sem.run_bind,run_eqGuard_agg w _ t xo yo _ _ hg];simp only[Result.andThen_ok];cases neg
 ·simp only[Bool.false_eq_true,if_false];rw[run_eql_struct,qH2 w 9998 t e n k ht he hsz xs ys hx hy];rfl
 ·simp only[if_true];rw[run_neq_struct,qH2 w 9998 t e n k ht he hsz xs ys hx hy];rfl
def zAq (P:Program)(k:IntKind):List Field→Nat→Bool
 | [],_=>true
 | f::fs,i=>decide (f.name ≠ "_")&&(f.offset==i)&&(match P.underlying f.type with | some (.int k')=>decide (k'=k) | _=>false)&&zAq P k fs (i+1)
theorem qFu {P:Program}(w:World)(d:Nat)(k:IntKind) : ∀ (fs:List Field) (i:Nat) (xs ys:List Int),zAq P k fs i=true→xs.length=i+fs.length→ys.length=i+fs.length→
  (Op.eqFields (d+1) (xs.map (Value.int k)).toArray (ys.map (Value.int k)).toArray fs).run P w = .ok (xs.drop i==ys.drop i) w
 | [],i,xs,ys,_,hx,hy=>by
  rw[List.drop_eq_nil_of_le (by simp at hx;omega),List.drop_eq_nil_of_le (by simp at hy;omega)];simp[Op.eqFields]
 | f::fs,i,xs,ys,h,hx,hy=>by
  simp only[List.length_cons] at hx hy;simp only[zAq,Bool.and_eq_true,decide_eq_true_eq,beq_iff_eq] at h;obtain⟨⟨⟨h1,h2⟩,h3⟩,h4⟩:=h;have he:P.underlying f.type=some (.int k):=by
   split at h3
   ·rename_i k' hk';simp only[decide_eq_true_eq] at h3;rw[hk',h3]
   ·simp at h3
  have px:(part f.type (xs.map (Value.int k)).toArray f.offset).run P w = .ok (.int k (xs.getD i 0)) w:=by
   rw[h2];simp[part,isAgg,run_underlying he,List.getD,List.getElem?_eq_getElem (show i<xs.length by omega)]
  have py:(part f.type (ys.map (Value.int k)).toArray f.offset).run P w = .ok (.int k (ys.getD i 0)) w:=by
   rw[h2];simp[part,isAgg,run_underlying he,List.getD,List.getElem?_eq_getElem (show i<ys.length by omega)]
  have pe:(Op.equalIn (d+1) f.type (.int k (xs.getD i 0)) (.int k (ys.getD i 0))).run P w = .ok (xs.getD i 0==ys.getD i 0) w:=run_equalIn_int w d f.type k k _ _ he;have ih:=qFu w d k fs (i+1) xs ys h4 oM oM;have dx:xs.drop i=xs.getD i 0::xs.drop (i+1):=by
   rw[List.drop_eq_getElem_cons (show i<xs.length by omega)];simp[List.getD,List.getElem?_eq_getElem (show i<xs.length by omega)]
  have dy:ys.drop i=ys.getD i 0::ys.drop (i+1):=by
   rw[List.drop_eq_getElem_cons (show i<ys.length by omega)];simp[List.getD,List.getElem?_eq_getElem (show i<ys.length by omega)]
  rw[Op.eqFields,if_pos h1];simp only[Sem.run_bind,px,py,pe,Result.andThen_ok];rw[dx,dy,List.cons_beq_cons];cases hb:(xs.getD i 0==ys.getD i 0)
  ·simp
  ·simp only[Bool.not_true,Bool.false_eq_true,if_false,Bool.true_and];exact ih
theorem zHg {P:Program}(w:World)(neg:Bool)(xo yo:Operand)(t:TypeId)(fs:Array Field)(k:IntKind)(ht:P.underlying t=some (.struct fs))(hf:zAq P k fs.toList 0=true)(hg:P.eqGuardType P.depth t=false)(hst:P.stoodInHeld t=false)
  (xs ys:List Int) (hx:xs.length=fs.size) (hy:ys.length=fs.size):(do eqGuard (if neg then .neq else .eql) t xo yo (.agg (xs.map (Value.int k)).toArray) (.agg (ys.map (Value.int k)).toArray);binOp (if neg then .neq else .eql) t (.agg (xs.map (Value.int k)).toArray) (.agg (ys.map (Value.int k)).toArray):Sem Value).run P w = .ok (.bool (if neg then !(xs==ys) else xs==ys)) w:=by
 have hfs:P.fieldsOf t=fs:=by unfold Program.fieldsOf;rw[ht]
 have hr:=qFu (P:=P) w 9998 k fs.toList 0 xs ys hf (by simp[hx]) (by simp[hy]);simp only[List.drop_zero] at hr;have he:=run_equalIn_agg (P:=P) w 9999 t (xs.map (Value.int k)).toArray (ys.map (Value.int k)).toArray (by rw[hfs];exact ht) hst;rw[hfs] at he;rw[Sem.run_bind,run_eqGuard_agg w _ t xo yo _ _ hg];simp only[Result.andThen_ok];cases neg
 ·simp only[Bool.false_eq_true,if_false];rw[run_eql_struct,he,hr];rfl
 ·simp only[if_true];rw[run_neq_struct,he,hr];rfl
theorem qV.cells {v:V}{x:Value}(h:qV β F w v x):x.cells.size=v.cells.length∧(∀ (i:Nat) (c:V) (u:Value),v.cells[i]?=some c→x.cells[i]?=some u→qV β F w c u):=by
 have one : ∀ {v:V} {x:Value},v.cells=[v]→x.cells = #[x]→qV β F w v x→x.cells.size=v.cells.length∧(∀ (i:Nat) (c:V) (u:Value),v.cells[i]?=some c→x.cells[i]?=some u→qV β F w c u):=by
  intro v x h1 h2 h3;rw[h1,h2];refine⟨rfl,fun i c u hc hu=>?_⟩;cases i with
  | zero=>simp at hc hu;subst hc hu;exact h3
  | succ i=>simp at hc
 cases h with
 | t h=>
  cases h with
  | agg cs vs hl h1 h=>
   refine⟨by simp[V.cells,Value.cells,hl],fun i c u hc hu=>?_⟩;simp only[V.cells,List.getElem?_map,Option.map_eq_some_iff] at hc;obtain⟨c',hc',rfl⟩:=hc;exact .t (h i c' u hc' hu)
  | int k n=>exact one rfl rfl (.t (.int k n))
  | bool b=>exact one rfl rfl (.t (.bool b))
  | str s=>exact one rfl rfl (.t (.str s))
  | fnil=>exact one rfl rfl (.t .fnil)
  | pnil=>exact one rfl rfl (.t .pnil)
  | tup cs vs hl h=>exact one rfl rfl (.t (.tup cs vs hl h))
  | nil=>exact one rfl rfl (.t .nil)
  | sl es a cap sz news ha hc hn h1 hF hw hz h=>exact one rfl rfl (.t (.sl es a cap sz news ha hc hn h1 hF hw hz h))
 | nil=>exact one rfl rfl .nil
 | ref id i f b sz room hb=>exact one rfl rfl (.ref id i f b sz room hb)
 | ro cs a news ha hn h1 hF hw h=>exact one rfl rfl (.ro cs a news ha hn h1 hF hw h)
 | sl id off len cap b sz room a hb hlc hr ha hs=>exact one rfl rfl (.sl id off len cap b sz room a hb hlc hr ha hs)
 | slv id sz room hb=>exact one rfl rfl (.slv id sz room hb)
 | agg cs vs hl h1 h=>exact⟨by simp[V.cells,Value.cells,hl],fun i c u hc hu=>h i c u hc hu⟩
 | tup cs vs hl h=>exact one rfl rfl (.tup cs vs hl h)
 | fn f cs vs hl h=>exact one rfl rfl (.fn f cs vs hl h)
 | bd g id i f b sz room hb=>exact one rfl rfl (.bd g id i f b sz room hb)
 | bq b=>exact one rfl rfl (.bq b)
theorem qDj {cs:List V}{ts:List T}(h:qFg cs=some ts):cs=ts.map .t:=by
 induction cs generalizing ts with
 | nil=>simp[qFg] at h;subst h;rfl
 | cons c r ih=>
  cases c<;>simp only[qFg] at h<;>try cases h
  simp only[Option.map_eq_some_iff] at h;obtain⟨ts',h1,rfl⟩:=h;rw[ih h1];rfl
theorem qV.mk {cs:List V}{vs:Array Value}(hl:vs.size=cs.length)(h1 : ∀ u∈vs,u.oneCell'=true)(h : ∀ (i:Nat) (c:V) (u:Value),cs[i]?=some c→vs[i]?=some u→qV β F w c u) :
  qV β F w (V.mk cs) (.agg vs):=by
 unfold V.mk;split
 ·rename_i ts hts;have:=qDj hts;subst this;refine .t (.agg ts vs (by simpa using hl) h1 (fun i c u hc hu=>?_));have:=h i (.t c) u (by simp[hc]) hu;cases this with | t h=>exact h
 ·exact .agg cs vs hl h1 h
theorem V.cells_mk (cs:List V):(V.mk cs).cells=cs:=by
 unfold V.mk;split
 ·rename_i ts hts;rw[qDj hts];rfl
 ·rfl
theorem yH {P:Program}{w:World}{t:TypeId}{i:TypeInfo}(h:P.info? t=some i):(sizeOf t).run P w = .ok i.size w:=by
 simp[sizeOf,typeInfo,h]
def vL:TypeDesc→Bool
 | .struct _ | .array _ _=>true
 | _=>false
theorem zBn {P:Program}{w:World}{t:TypeId}{d:TypeDesc}(h:P.underlying t=some d):(isAgg t).run P w = .ok (vL d) w:=by
 unfold isAgg;rw[Sem.run_bind,run_underlying h];cases d<;>rfl
theorem qTx {P:Program}{w:World}{t:TypeId}{i:TypeInfo}{d:TypeDesc}(hi:P.info? t=some i)(hd:P.underlying t=some d)(ad:Addr)(cs:List Value)
  (hl:cs.length=i.size) (hc : ∀ j v,cs[j]?=some v→w.cell? (ad.add j)=some v) (h1:vL d=false→i.size=1) :
  (loadVar t ad).run P w = .ok (if vL d then .agg cs.toArray else cs.headD undef) w:=by
 unfold loadVar;rw[Sem.run_bind,zBn hd];simp only[Result.andThen_ok];cases hg:vL d
 ·simp only[Bool.false_eq_true,if_false];have:=h1 hg
  match cs,hl with
  | [],hl=>simp at hl;omega
  | c::r,hl=>
   have h0:=hc 0 c sM;simp only[Addr.add,if_true] at h0;simp[h0]
 ·simp only[if_true];rw[Sem.run_bind,yH hi];simp only[Result.andThen_ok,Sem.run_bind,←hl,run_loadCells_list w ad cs hc,Sem.run_pure]
theorem qRd {x:Value}:x.oneCell'=true→x.cells = #[x]:=by cases x<;>simp[Value.oneCell',Value.cells]
end Go.Eng
end
section
namespace Go.Eng
variable {cx:Cx} {β:Nat→Option BI} {F:Nat→Prop} {fm:Nat→Option V} {hm:Nat→Option Ob} {a:Act} {w:World}
theorem qV.plain_one {v:V}{x:Value}(h:qV β F w v x)(hp:v.plain=true) : ∀ u∈x.cells,u.oneCell'=true:=by
 have one : ∀ {x:Value},x.oneCell'=true → ∀ u∈x.cells,u.oneCell'=true:=by
  intro x hx u hu;rw[qRd hx] at hu;simp at hu;subst hu;exact hx
 cases h with
 | t h=>cases h with
  | agg cs vs hl h1 h=>exact h1
  | tup cs vs hl h=>simp[V.plain] at hp
  | _=>exact one rfl
 | agg cs vs hl h1 h=>exact h1
 | tup cs vs hl h=>simp[V.plain] at hp
 | _=>exact one rfl
theorem qV.one_cells {v:V}{x:Value}(h:qV β F w v x)(hx:x.oneCell'=true):v.cells=[v]:=by
 cases h with
 | t h=>cases h with
  | agg cs vs hl h1 h=>simp[Value.oneCell'] at hx
  | _=>rfl
 | agg cs vs hl h1 h=>simp[Value.oneCell'] at hx
 | _=>rfl
theorem qV.one_plain {v:V}{x:Value}(h:qV β F w v x)(hx:x.oneCell'=true):v.plain=true:=by
 cases h with
 | t h=>cases h with
  | tup cs vs hl h=>simp[Value.oneCell'] at hx
  | _=>rfl
 | tup cs vs hl h=>simp[Value.oneCell'] at hx
 | _=>rfl
theorem qAz {x:Value}{v:V}(h:V.ofConst x=some v):qV β F w v x:=by
 unfold V.ofConst at h;split at h
 ·cases h;exact .t (.int _ _)
 ·cases h;exact .t (.bool _)
 ·cases h;exact .t (.str _)
 ·cases h;exact .t .fnil
 ·cases h;exact .t .pnil
 ·split at h
  ·rename_i hlc;obtain⟨rfl,rfl⟩:=hlc;cases h;exact .nil
  ·cases h
 ·split at h
  ·rename_i vs hv;cases h;exact .tup [] vs hv (by intro i c u hc;simp at hc)
  ·cases h
 ·cases h
theorem qOx {α β:Type}{f:α→Option β} : ∀ {l:List α} {r:List β},l.mapM f=some r→r.length=l.length ∧ ∀ (i:Nat) (x:α) (y:β),l[i]?=some x→r[i]?=some y→f x=some y
 | [],r,h=>by simp at h;subst h;exact⟨rfl,by intro i x y hx;simp at hx⟩
 | a::l,r,h=>by
  simp only[List.mapM_cons,Option.pure_def,Option.bind_eq_bind,Option.bind_eq_some_iff] at h;obtain⟨b,hb,r',hr,h⟩:=h;cases h;obtain⟨h1,h2⟩:=qOx hr;refine⟨by simp[h1],fun i x y hx hy=>?_⟩;cases i with
  | zero=>simp at hx hy;subst hx hy;exact hb
  | succ i=>simp at hx hy;exact h2 i x y hx hy
theorem qQ0 {i n z j:Nat}(hi:i<n)(hj:j<z):i*z+j<n*z:=by
 have:(i+1)*z≤n*z:=Nat.mul_le_mul_right z hi;have h2:(i+1)*z=i*z+z:=by rw[Nat.add_mul,Nat.one_mul]
 omega
theorem yS.one {v:V}{x:Value}(h:qV β F w v x)(hp:v.plain=true):yS β F w [v] v.cells.length x.cells:=by
 obtain⟨h1,h2⟩:=h.cells;intro i y hy;cases i with
 | succ i=>simp at hy
 | zero=>
  simp at hy;subst hy;refine⟨rfl,fun j c hc=>?_⟩;have hj:j<x.cells.size:=by rw[h1];exact (List.getElem?_eq_some_iff.1 hc).1
  refine⟨x.cells[j],by simp[hj],h2 j c _ hc (by simp[hj]),h.plain_one hp _ sM⟩
theorem yS.cells {v:V}{x:Value}(h:qV β F w v x)(hp:v.plain=true):yS β F w v.cells 1 x.cells:=by
 obtain⟨h1,h2⟩:=h.cells;intro i y hy;have hi:i<x.cells.size:=by rw[h1];exact (List.getElem?_eq_some_iff.1 hy).1
 have hone:x.cells[i].oneCell'=true:=h.plain_one hp _ sM;have hr:qV β F w y x.cells[i]:=h2 i y _ hy (by simp[hi]);have hc:=hr.one_cells hone;rw[hc];refine⟨rfl,fun j c hj=>?_⟩;cases j with
 | succ j=>simp at hj
 | zero=>simp at hj;subst hj;exact⟨x.cells[i],by simp[hi],hr,hone⟩
theorem zYl (R:Rel cx β F fm hm a w){v:V}{x:Value}(h:qV β F w v x):Out cx β F fm hm a w v [] (pure x):=Out.same R rfl h
theorem qTm {cs:List V}{us:List Value}{off n:Nat}{agg:Bool}{v:V}(h:qRe cs off n agg=some v)
  (hl:us.length=cs.length) (h1 : ∀ u∈us,u.oneCell'=true) (hr : ∀ (i:Nat) (c:V) (u:Value),cs[i]?=some c→us[i]?=some u→qV β F w c u) :
  if agg then off+n≤us.length∧qV β F w v (.agg ((us.drop off).take n).toArray) else ∃ u,us[off]?=some u∧qV β F w v u:=by
 unfold qRe at h;cases agg
 ·simp only[Bool.false_eq_true,if_false] at h ⊢;have hlt:off<us.length:=by rw[hl];exact (List.getElem?_eq_some_iff.1 h).1
  exact⟨us[off],by simp[hlt],hr off v _ h (by simp[hlt])⟩
 ·simp only[if_true] at h ⊢;split at h
  ·rename_i hle;cases h;refine⟨oM,qV.mk (by simp[hl]) (fun u hu=>h1 u (List.mem_of_mem_drop (List.mem_of_mem_take (by simpa using hu)))) (fun i c u hc hu=>?_)⟩;simp only[List.getElem?_take,List.getElem?_drop] at hc;simp only[List.getElem?_toArray,List.getElem?_take,List.getElem?_drop] at hu;split at hc
   ·rename_i hlt;rw[if_pos hlt] at hu;exact hr _ c u hc hu
   ·cases hc
  ·cases h
theorem Rel.obj (R:Rel cx β F fm hm a w){id b z:Nat}{es:List V}{wr full:Bool}{bi:BI}(h:hm id=some (.live z es wr full))(hb:β id=some bi)(hbk:bi.blk=some b) :
  ∃ (c:Array Value) (e:TypeId) (fz:Nat×Nat),w.heap[b]?=some (.cells c e fz)∧(∀ j,(j<c.size → ¬ (fz.1≤j∧j<fz.2))∧fz.1≤fz.2)∧
   c.size=bi.room*bi.sz∧es.length≤bi.room∧bi.room≤maxLen∧yS β F w es bi.sz c∧(full=true→bi.room=es.length)∧bi.sz=z:=by
 obtain⟨bi',hb',hok⟩:=R.hp id _ h;rw[hb] at hb';cases hb';unfold qFj at hok;simp only[hbk] at hok;obtain⟨hz,h0,c,e,fz,h1,h2,h3,h4,h5,h6,_⟩:=hok;exact⟨c,e,fz,h1,h2,h3,h4,h5,h6,h0,hz⟩
theorem yS.elem {es:List V}{sz:Nat}{c:Array Value}{room:Nat}(h:yS β F w es sz c)(hc:c.size=room*sz)(hl:es.length≤room){i:Nat}{x:V}(hx:es[i]?=some x) :
  x.cells.length=sz∧((c.toList.drop (i*sz)).take sz).length=sz∧(∀ u∈(c.toList.drop (i*sz)).take sz,u.oneCell'=true)∧
   (∀ (j:Nat) (y:V) (u:Value),x.cells[j]?=some y→((c.toList.drop (i*sz)).take sz)[j]?=some u→qV β F w y u):=by
 obtain⟨h1,h2⟩:=h i x hx;have hi:i<room:=Nat.lt_of_lt_of_le (List.getElem?_eq_some_iff.1 hx).1 hl;have hle:(i+1)*sz≤room*sz:=Nat.mul_le_mul_right sz hi;have e2:(i+1)*sz=i*sz+sz:=by rw[Nat.add_mul,Nat.one_mul]
 have hlen:((c.toList.drop (i*sz)).take sz).length=sz:=soM;have get : ∀ j u,((c.toList.drop (i*sz)).take sz)[j]?=some u→j<sz∧c[i*sz+j]?=some u:=by
  intro j u hu;simp only[List.getElem?_take,List.getElem?_drop] at hu;split at hu
  ·rename_i hlt;exact⟨hlt,by simpa using hu⟩
  ·cases hu
 refine⟨h1,hlen,fun u hu=>?_,fun j y u hy hu=>?_⟩
 ·obtain⟨j,hj⟩:=List.getElem?_of_mem hu;obtain⟨hlt,hcu⟩:=get j u hj;have hjx:j<x.cells.length:=oM;obtain⟨u',hu',_,hone⟩:=h2 j x.cells[j] (by simp[hjx]);rw[hcu] at hu';cases hu';exact hone
 ·obtain⟨hlt,hcu⟩:=get j u hu;obtain⟨u',hu',hr,_⟩:=h2 j y hy;rw[hcu] at hu';cases hu';exact hr
theorem qK2 {P:Program}{t:TypeId}{i:TypeInfo}{d:TypeDesc}(hi:P.info? t=some i)(hd:P.underlying t=some d)(h1:vL d=false→i.size=1)
  {b:Nat} {c:Array Value} {e:TypeId} {fz:Nat×Nat} (hb:w.heap[b]?=some (.cells c e fz)) {o:Nat} (hle:o+i.size≤c.size) :
  (Instr.loadAt t (.pointer (some ⟨b,o,none⟩))).run P w = .ok (if vL d then .agg ((c.toList.drop o).take i.size).toArray else ((c.toList.drop o).take i.size).headD undef) w:=by
 unfold Instr.loadAt;simp only[Instr.sureAddr,Sem.run_bind,Sem.run_pure,Result.andThen_ok];refine qTx hi hd _ _ soM (fun j v hv=>?_) h1;simp only[List.getElem?_take,List.getElem?_drop] at hv;split at hv
 ·rw[Addr.add_lit,cell_of_row w b _ c e fz hb];simpa using hv
 ·cases hv
theorem qVc {α:Type}(l:List α)(p q m n:Nat)(h:q+n≤m):((((l.drop p).take m).drop q).take n)=(l.drop (p+q)).take n:=by
 apply List.ext_getElem?;intro j;simp only[List.getElem?_take,List.getElem?_drop];by_cases hj:j<n
 ·rw[if_pos hj,if_pos hj,if_pos oM];congr 1;omega
 ·rw[if_neg hj,if_neg hj]
def zJ7 (P:Program)(β:Nat→Option BI)(F:Nat→Prop)(w:World)(v:V)(s:Sem Value):Prop := ∃ x,s.run P w = .ok x w∧qV β F w v x
theorem zJ7.of {P:Program}{v:V}{x:Value}{s:Sem Value}(h:s.run P w = .ok x w)(hr:qV β F w v x):zJ7 P β F w v s:=⟨x,h,hr⟩
theorem zJ7.out {v:V}{s:Sem Value}(h:zJ7 cx.P β F w v s)(R:Rel cx β F fm hm a w):Out cx β F fm hm a w v [] s:=let ⟨_,h1,h2⟩:=h;Out.same R h1 h2
theorem zBe (R:Rel cx β F fm hm a w){t:TypeId}{ti:TypeInfo}{d:TypeDesc}(hi:cx.P.info? t=some ti)(hd:cx.P.underlying t=some d)(h1:vL d=false→ti.size=1)
  {id i f:Nat} {p:Value} (hp:qV β F w (.ref id i f) p) {z:Nat} {es:List V} {wr full:Bool} (ho:hm id=some (.live z es wr full)) {x v:V} (hx:es[i]?=some x)
  (hle:f+ti.size≤x.cells.length) (hv:qRe x.cells f ti.size (vL d)=some v):zJ7 cx.P β F w v (Instr.loadAt t p):=by
 cases hp with
 | ref _ _ _ b sz room hb=>
  obtain⟨c,e,fz,h2,h3,h4,h5,h6,h7,h8,_⟩:=R.obj ho hb rfl;simp only at h4 h5 h7;obtain⟨e1,e2,e3,e4⟩:=h7.elem h4 h5 hx;have hir:i<room:=Nat.lt_of_lt_of_le (List.getElem?_eq_some_iff.1 hx).1 h5;have hle2:(i+1)*sz≤room*sz:=Nat.mul_le_mul_right sz hir;have e5:(i+1)*sz=i*sz+sz:=by rw[Nat.add_mul,Nat.one_mul]
  have hrun:=qK2 (P:=cx.P) (w:=w) hi hd h1 h2 (o:=i*sz+f) oM;have hpart:=qTm hv (by rw[e2,e1]) e3 e4;have hdt:((c.toList.drop (i*sz)).take sz |>.drop f |>.take ti.size)=(c.toList.drop (i*sz+f)).take ti.size:=qVc _ _ _ _ _ oM;cases hg:vL d
  ·rw[hg] at hrun hpart;simp only[Bool.false_eq_true,if_false] at hrun hpart;obtain⟨u,hu,hr⟩:=hpart;have hs1:=h1 hg;refine zJ7.of hrun ?_;have:((c.toList.drop (i*sz+f)).take ti.size).headD undef=u:=by
    have:((c.toList.drop (i*sz+f)).take ti.size)[0]?=some u:=by
     simp only[List.getElem?_take,List.getElem?_drop] at hu ⊢;rw[if_pos oM];split at hu
     ·simpa using hu
     ·cases hu
    cases hq:(c.toList.drop (i*sz+f)).take ti.size with
    | nil=>rw[hq] at this;simp at this
    | cons z r=>rw[hq] at this;simp at this;simp[this]
   rw[this];exact hr
  ·rw[hg] at hrun hpart;simp only[if_true] at hrun hpart;rw[hdt] at hpart;exact zJ7.of hrun hpart.2
theorem zBv {y:V}(h:y.single=true):y.cells=[y]:=by
 unfold V.single at h;split at h
 ·cases h
 ·cases h
 ·rename_i h1 h2;cases y with
  | agg cs=>exact absurd rfl (h1 cs)
  | t x=>cases x with
   | agg cs=>exact absurd rfl (h2 cs)
   | _=>rfl
  | _=>rfl
theorem zRm {es:List V}(h:qTh es=true){i:Nat}{y:V}(hy:es[i]?=some y):y.cells=[y]:=by
 unfold qTh at h;rw[List.all_eq_true] at h;exact zBv (h y (List.mem_of_getElem? hy))
theorem yS.ones {es:List V}{sz:Nat}{c:Array Value}(h:yS β F w es sz c)(h1:Eng.qTh es=true){i:Nat}{y:V}(hy:es[i]?=some y) :
  sz=1 ∧ ∃ u,c[i]?=some u∧qV β F w y u∧u.oneCell'=true:=by
 obtain⟨k1,k2⟩:=h i y hy;rw[zRm h1 hy] at k1 k2;have hs:sz=1:=by simpa using k1.symm
 subst hs;obtain⟨u,hu,hr,ho⟩:=k2 0 y sM;exact⟨rfl,u,by simpa using hu,hr,ho⟩
theorem zBd (R:Rel cx β F fm hm a w){t:TypeId}{ti:TypeInfo}{d:TypeDesc}(hi:cx.P.info? t=some ti)(hd:cx.P.underlying t=some d)(hg:vL d=true)
  {id i:Nat} {p:Value} (hp:qV β F w (.ref id i 0) p) {z:Nat} {es:List V} {wr full:Bool} (ho:hm id=some (.live z es wr full)) {x:V} (hx:es[i]?=some x)
  (h1:qTh es=true) (hle:i+ti.size≤es.length):zJ7 cx.P β F w (V.mk ((es.drop i).take ti.size)) (Instr.loadAt t p):=by
 cases hp with
 | ref _ _ _ b sz room hb=>
  obtain⟨c,e,fz,h2,h3,h4,h5,h6,h7,h8,_⟩:=R.obj ho hb rfl;simp only at h4 h5 h7;obtain⟨hsz,_⟩:=h7.ones h1 hx;subst hsz;have hrun:=qK2 (P:=cx.P) (w:=w) hi hd (by simp[hg]) h2 (o:=i*1+0) oM;rw[hg] at hrun;simp only[if_true] at hrun;have get : ∀ (j:Nat) (u:Value),((c.toList.drop (i*1+0)).take ti.size)[j]?=some u→j<ti.size∧c[i+j]?=some u:=by
   intro j u hu;simp only[List.getElem?_take,List.getElem?_drop,Nat.mul_one,Nat.add_zero] at hu;split at hu
   ·rename_i hlt;exact⟨hlt,by simpa using hu⟩
   ·cases hu
  refine zJ7.of hrun (qV.mk soM (fun u hu=>?_) (fun j y u hy hu=>?_))
  ·obtain⟨j,hj⟩:=List.getElem?_of_mem (by simpa using hu);obtain⟨hlt,hc⟩:=get j u (by simpa using hj);have hjl:i+j<es.length:=oM;obtain⟨_,u',hu',_,hone⟩:=h7.ones h1 (i:=i+j) (y:=es[i+j]) (by simp[hjl]);rw[hc] at hu';cases hu';exact hone
  ·obtain⟨hlt,hc⟩:=get j u (by simpa using hu);have hy':es[i+j]?=some y:=by
    simp only[List.getElem?_take,List.getElem?_drop] at hy;rwa [if_pos hlt] at hy
   obtain⟨_,u',hu',hr,_⟩:=h7.ones h1 hy';rw[hc] at hu';cases hu';exact hr
theorem qTl (R:Rel cx β F fm hm a w){t:TypeId}{ti:TypeInfo}{d:TypeDesc}(hi:cx.P.info? t=some ti)(hd:cx.P.underlying t=some d)(h1:vL d=false→ti.size=1)
  {cs:List T} {p:Value} (hp:qV β F w (.ro cs) p) (hle:ti.size≤cs.length) {v:V} (hv:if vL d then v = .t (.agg (cs.take ti.size)) else ∃ x,cs[0]?=some x∧v = .t x) :
  zJ7 cx.P β F w v (Instr.loadAt t p):=by
 cases hp with
 | ro _ ad news ha hn ho hF hw h=>
  have hrun:(Instr.loadAt t (.pointer (some ad))).run cx.P w = .ok (if vL d then .agg (news.take ti.size).toArray else (news.take ti.size).headD undef) w:=by
   unfold Instr.loadAt;simp only[Instr.sureAddr,Sem.run_bind,Sem.run_pure,Result.andThen_ok];refine qTx hi hd _ _ soM (fun j u hu=>?_) h1;simp only[List.getElem?_take] at hu;split at hu
   ·exact hw j u hu
   ·cases hu
  refine zJ7.of hrun ?_;cases hg:vL d
  ·rw[hg] at hv;simp only[Bool.false_eq_true,if_false] at hv ⊢;obtain⟨x,hx,rfl⟩:=hv;have hs:=h1 hg;have hpos:0<news.length:=oM;obtain⟨u,hu⟩ : ∃ u,news[0]?=some u:=⟨news[0],by simp[hpos]⟩;have h0:(news.take ti.size).headD undef=u:=by
    rw[hs];cases news with
    | nil=>simp at hpos
    | cons z r=>simpa using hu
   rw[h0];exact .t (h 0 x _ hx hu)
  ·rw[hg] at hv;simp only[if_true] at hv ⊢;subst hv;refine .t (.agg _ _ soM (fun u hu=>ho u (List.mem_of_mem_take (by simpa using hu))) (fun j c u hc hu=>?_));simp only[List.getElem?_take] at hc;simp only[List.getElem?_toArray,List.getElem?_take] at hu;split at hc
   ·rename_i hlt;rw[if_pos hlt] at hu;exact h j c u hc hu
   ·cases hc
end Go.Eng
end
section
namespace Go.Eng
variable {cx:Cx} {β:Nat→Option BI} {F:Nat→Prop} {fm:Nat→Option V} {hm:Nat→Option Ob} {a:Act} {w:World}
def zHq (c:Array Value)(o:Nat):List Value→Array Value
 | []=>c
 | v::r=>zHq (c.setIfInBounds o v) (o+1) r
theorem qPf (vs:List Value) : ∀ (c:Array Value) (o:Nat),(zHq c o vs).size=c.size:=by
 induction vs with
 | nil=>intro c o;rfl
 | cons v r ih=>intro c o;rw[zHq,ih];simp
theorem qCu (vs:List Value) : ∀ (c:Array Value) (o k:Nat),(k<o∨o+vs.length≤k)→(zHq c o vs)[k]?=c[k]?:=by
 induction vs with
 | nil=>intro c o k _;rfl
 | cons v r ih=>
  intro c o k h;simp only[List.length_cons] at h;rw[zHq,ih _ _ _ oM,Array.getElem?_setIfInBounds_ne oM]
theorem qN4 (vs:List Value) : ∀ (c:Array Value) (o:Nat),o+vs.length≤c.size → ∀ j,j<vs.length→(zHq c o vs)[o+j]?=vs[j]?:=by
 induction vs with
 | nil=>intro c o _ j hj;simp at hj
 | cons v r ih=>
  intro c o h j hj;simp only[List.length_cons] at h hj;rw[zHq];cases j with
  | zero=>
   rw[qCu _ _ _ _ oM];simp only[Nat.add_zero,List.getElem?_cons_zero];rw[Array.getElem?_setIfInBounds_self];rw[if_pos oM]
  | succ j=>
   have:=ih (c.setIfInBounds o v) (o+1) soM j oM;rw[show o+(j+1)=o+1+j by omega,this];simp
theorem qYi (b:Nat)(vs:List Value) : ∀ (o:Nat) (w:World) (c:Array Value) (e:TypeId) (fz:Nat×Nat),w.heap[b]?=some (.cells c e fz)→
  (w.setCells b o vs).heap[b]?=some (.cells (zHq c o vs) e fz)∧(∀ k,k≠b→(w.setCells b o vs).heap[k]?=w.heap[k]?)∧(w.setCells b o vs).heap.size=w.heap.size∧
   (w.setCells b o vs).os=w.os∧(w.setCells b o vs).tape=w.tape∧(w.setCells b o vs).output=w.output:=by
 induction vs with
 | nil=>intro o w c e fz h;exact⟨h,fun _ _=>rfl,rfl,rfl,rfl,rfl⟩
 | cons v r ih=>
  intro o w c e fz h;have h1:(w.setCell ⟨b,o,none⟩ v).heap[b]?=some (.cells (c.setIfInBounds o v) e fz):=by
   simp[World.setCell,Array.getElem?_modify,h]
  obtain⟨i1,i2,i3,i4,i5,i6⟩:=ih (o+1) (w.setCell ⟨b,o,none⟩ v) _ e fz h1;refine⟨i1,fun k hk=>?_,?_,i4,i5,i6⟩
  ·rw[World.setCells,i2 k hk];exact heap_setCell_other w _ k v hk
  ·rw[World.setCells,i3];simp
theorem zLy {c:Array Value}{e:TypeId}{fz:Nat×Nat}{b j:Nat}(hb:w.heap[b]?=some (.cells c e fz))(hf : ∀ j,(j<c.size → ¬ (fz.1≤j∧j<fz.2))∧fz.1≤fz.2)(hj:j<c.size) :
  w.frozen? ⟨b,j,none⟩=false:=by
 simp only[World.frozen?,hb];have:=(hf j).1 hj;simp only[Bool.and_eq_false_iff,decide_eq_false_iff_not];omega
theorem wT {P:Program}{b o:Nat}{c:Array Value}{e:TypeId}{fz:Nat×Nat}{vs:List Value}(hb:w.heap[b]?=some (.cells c e fz))(hf : ∀ j,(j<c.size → ¬ (fz.1≤j∧j<fz.2))∧fz.1≤fz.2)
  (hle:o+vs.length≤c.size) (h1 : ∀ v∈vs,v.oneCell'=true):(storeCells ⟨b,o,none⟩ vs).run P w = .ok () (w.setCells b o vs):=by
 refine run_storeCells_cells b o vs 0 w (fun j hj=>?_) (fun j hj=>?_) h1
 ·rw[cell_of_row w b _ c e fz hb];simp;omega
 ·exact zLy hb hf oM
theorem qTz {P:Program}{t:TypeId}{ti:TypeInfo}(hi:P.info? t=some ti){x:Value}(hx:x.cells.size=ti.size){b o:Nat}{c:Array Value}{e:TypeId}{fz:Nat×Nat}
  (hb:w.heap[b]?=some (.cells c e fz)) (hf : ∀ j,(j<c.size → ¬ (fz.1≤j∧j<fz.2))∧fz.1≤fz.2) (hle:o+ti.size≤c.size) (h1 : ∀ v∈x.cells,v.oneCell'=true) :
  (Instr.storeAt t (.pointer (some ⟨b,o,none⟩)) x).run P w = .ok () (w.setCells b o x.cells.toList):=by
 unfold Instr.storeAt;simp only[Instr.sureAddr,Sem.run_bind,Sem.run_pure,Result.andThen_ok,storeVar,yH hi,hx,ne_eq,not_true_eq_false,if_false];exact wT hb hf (by simpa [hx] using hle) (by simpa using h1)
def jBe (cx:Cx)(β:Nat→Option BI)(F:Nat→Prop)(fm:Nat→Option V)(hm:Nat→Option Ob)(a:Act)(w:World)(W:Wr)(s:Sem Unit):Prop:=
 ∃ w',s.run cx.P w = .ok () w'∧Rel cx β F fm (upd hm W) a w'
theorem qBu (R:Rel cx β F fm hm a w){id z:Nat}{es es':List V}{full full':Bool}(hid:hm id=some (.live z es true full)){b sz room:Nat}(hb:β id=some ⟨some b,sz,room⟩)
  {c:Array Value} {e:TypeId} {fz:Nat×Nat} (hblk:w.heap[b]?=some (.cells c e fz)) (hfz : ∀ j,(j<c.size → ¬ (fz.1≤j∧j<fz.2))∧fz.1≤fz.2) (hc:c.size=room*sz)
  {o:Nat} {vs:List Value} (hl:es'.length≤room) (hfull:full'=true→room=es'.length) (hH:yS β F w es' sz (zHq c o vs)) :
  Rel cx β F fm (upd hm [(id,.live z es' true full')]) a (w.setCells b o vs):=by
 obtain⟨i1,i2,i3,i4,i5,i6⟩:=qYi b vs o w c e fz hblk;exact R.write hid hb rfl i4 i5 i6 i3 i2 i1 (by rw[qPf];exact hfz) (by rw[qPf];exact hc) hl hfull hH
theorem qBg {α:Type}(l:List α)(i:Nat)(xs:List α)(h:i+xs.length≤l.length)(j:Nat) :
  (zT l i xs)[j]?=if i≤j∧j<i+xs.length then xs[j-i]? else l[j]?:=by
 have h1:(l.take i).length=i:=soM;unfold zT;by_cases hj:j<i
 ·rw[if_neg oM,List.append_assoc,List.getElem?_append_left oM,List.getElem?_take,if_pos hj]
 ·by_cases hj2:j<i+xs.length
  ·rw[if_pos ⟨oM,hj2⟩,List.append_assoc,List.getElem?_append_right oM,h1,List.getElem?_append_left oM]
  ·rw[if_neg oM,List.append_assoc,List.getElem?_append_right oM,h1,List.getElem?_append_right oM,List.getElem?_drop];congr 1;omega
theorem qOr {α:Type}(l:List α)(i:Nat)(xs:List α)(h:i≤l.length)(j:Nat) :
  (zT l i xs)[j]?=if i≤j∧j<i+xs.length then xs[j-i]? else l[j]?:=by
 have h1:(l.take i).length=i:=soM;unfold zT;by_cases hj:j<i
 ·rw[if_neg oM,List.append_assoc,List.getElem?_append_left oM,List.getElem?_take,if_pos hj]
 ·by_cases hj2:j<i+xs.length
  ·rw[if_pos ⟨oM,hj2⟩,List.append_assoc,List.getElem?_append_right oM,h1,List.getElem?_append_left oM]
  ·rw[if_neg oM,List.append_assoc,List.getElem?_append_right oM,h1,List.getElem?_append_right oM,List.getElem?_drop];congr 1;omega
theorem qHy {α:Type}(l:List α)(i:Nat)(xs:List α)(h:i≤l.length):(zT l i xs).length=Nat.max l.length (i+xs.length):=by
 unfold zT;simp only[List.length_append,List.length_take,List.length_drop];have:Nat.max l.length (i+xs.length)=max l.length (i+xs.length):=rfl;rw[this];omega
theorem qAx {α:Type}(l:List α)(i:Nat)(xs:List α)(h:i+xs.length≤l.length):(zT l i xs).length=l.length:=by
 unfold zT;simp;omega
theorem qK0 (R:Rel cx β F fm hm a w){t:TypeId}{ti:TypeInfo}(hi:cx.P.info? t=some ti){id i f:Nat}{p x:Value}(hp:qV β F w (.ref id i f) p)
  {z:Nat} {es:List V} {full:Bool} (ho:hm id=some (.live z es true full)) {y v y':V} (hy:es[i]?=some y) (hv:qV β F w v x) (hpl:v.plain=true) (hn:v.cells.length=ti.size)
  (hle:f+ti.size≤y.cells.length) (hy':y'.cells=zT y.cells f v.cells):jBe cx β F fm hm a w [(id,.live z (es.set i y') true full)] (Instr.storeAt t p x):=by
 cases hp with
 | ref _ _ _ b sz room hb=>
  obtain⟨c,e,fz,h2,h3,h4,h5,h6,h7,h8,_⟩:=R.obj ho hb rfl;simp only at h4 h5 h7 h8;obtain⟨hxs,hxr⟩:=hv.cells;have hone:=hv.plain_one hpl;obtain⟨e1,e2,e3,e4⟩:=h7.elem h4 h5 hy;have hir:i<room:=Nat.lt_of_lt_of_le (List.getElem?_eq_some_iff.1 hy).1 h5;have hil:i<es.length:=(List.getElem?_eq_some_iff.1 hy).1;have hle2:(i+1)*sz≤room*sz:=Nat.mul_le_mul_right sz hir;have e5:(i+1)*sz=i*sz+sz:=by rw[Nat.add_mul,Nat.one_mul]
  have hlen:x.cells.toList.length=ti.size:=by simp[hxs,hn]
  refine⟨_,qTz hi (by rw[hxs,hn]) h2 h3 oM hone,qBu R ho hb h2 h3 h4 (by simpa using h5) (fun h=>by simpa using h8 h) ?_⟩;intro k zz hz;by_cases hki:k=i
  ·subst hki;rw[List.getElem?_set_self hil] at hz;cases hz;rw[hy'];have hlr:f+v.cells.length≤y.cells.length:=oM;refine⟨by rw[qAx _ _ _ hlr];exact e1,fun j q hq=>?_⟩;rw[qBg _ _ _ hlr] at hq;split at hq
   ·rename_i hj;have hjx:j-f<x.cells.toList.length:=oM;have:=qN4 x.cells.toList c (k*sz+f) oM (j-f) hjx;rw[show k*sz+f+(j-f)=k*sz+j by omega] at this;refine⟨x.cells.toList[j-f],by rw[this];simp,hxr (j-f) q _ hq sM,hone _ sM⟩
   ·rename_i hj;have hjl:j<sz:=by rw[←e1];exact (List.getElem?_eq_some_iff.1 hq).1
    obtain⟨_,h9⟩:=h7 k y hy;obtain⟨u,hu,hr,ho1⟩:=h9 j q hq;exact⟨u,by rw[qCu _ _ _ _ oM];exact hu,hr,ho1⟩
  ·rw[List.getElem?_set_ne (Ne.symm hki)] at hz;obtain⟨k1,k2⟩:=h7 k zz hz;refine⟨k1,fun j q hq=>?_⟩;obtain⟨u,hu,hr,ho1⟩:=k2 j q hq;refine⟨u,?_,hr,ho1⟩;have hjl:j<sz:=by rw[←k1];exact (List.getElem?_eq_some_iff.1 hq).1
   rw[qCu _ _ _ _ ?_];exact hu;rcases Nat.lt_or_gt_of_ne hki with h | h
   ·have h':(k+1)*sz≤i*sz:=Nat.mul_le_mul_right sz h;have:(k+1)*sz=k*sz+sz:=by rw[Nat.add_mul,Nat.one_mul]
    omega
   ·have h':(i+1)*sz≤k*sz:=Nat.mul_le_mul_right sz h;omega
theorem qX8 (R:Rel cx β F fm hm a w){t:TypeId}{ti:TypeInfo}(hi:cx.P.info? t=some ti){id i:Nat}{p x:Value}(hp:qV β F w (.ref id i 0) p)
  {z:Nat} {es:List V} {full:Bool} (ho:hm id=some (.live z es true full)) {y v:V} (hy:es[i]?=some y) (hv:qV β F w v x) (hpl:v.plain=true) (hn:v.cells.length=ti.size)
  (h1:qTh es=true) (hle:i+ti.size≤es.length):jBe cx β F fm hm a w [(id,.live z (zT es i v.cells) true full)] (Instr.storeAt t p x):=by
 cases hp with
 | ref _ _ _ b sz room hb=>
  obtain⟨c,e,fz,h2,h3,h4,h5,h6,h7,h8,_⟩:=R.obj ho hb rfl;simp only at h4 h5 h7 h8;obtain⟨hxs,hxr⟩:=hv.cells;have hone:=hv.plain_one hpl;obtain⟨hsz,_⟩:=h7.ones h1 hy;subst hsz;have hlr:i+v.cells.length≤es.length:=oM;have hlen:x.cells.toList.length=ti.size:=by simp[hxs,hn]
  refine⟨_,qTz hi (by rw[hxs,hn]) h2 h3 oM hone,qBu R ho hb h2 h3 h4 (by rw[qAx _ _ _ hlr];exact h5) (fun h=>by rw[qAx _ _ _ hlr];exact h8 h) ?_⟩;intro k zz hz;rw[qBg _ _ _ hlr] at hz;split at hz
  ·rename_i hk;have hjx:k-i<x.cells.toList.length:=oM;have hset:=qN4 x.cells.toList c (i*1+0) oM (k-i) hjx;have hu1:x.cells.toList[k-i].oneCell'=true:=hone _ sM;have hr1:qV β F w zz x.cells.toList[k-i]:=hxr (k-i) zz _ hz sM;have hzc:zz.cells=[zz]:=hr1.one_cells hu1;rw[hzc];refine⟨rfl,fun j q hq=>?_⟩;cases j with
   | succ j=>simp at hq
   | zero=>
    simp at hq;subst hq;refine⟨x.cells.toList[k-i],?_,hr1,hu1⟩;rw[show k*1+0=i*1+0+(k-i) by omega,hset];simp
  ·rename_i hk;obtain⟨k1,k2⟩:=h7 k zz hz;refine⟨k1,fun j q hq=>?_⟩;obtain⟨u,hu,hr,ho1⟩:=k2 j q hq;have hjl:j<1:=by rw[←k1];exact (List.getElem?_eq_some_iff.1 hq).1
   exact⟨u,by rw[qCu _ _ _ _ oM];exact hu,hr,ho1⟩
end Go.Eng
end
