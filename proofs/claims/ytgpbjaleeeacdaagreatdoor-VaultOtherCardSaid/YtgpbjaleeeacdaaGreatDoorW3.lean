/- My own text: an abstract machine, its walks over the functions reached, and their tie to the program. -/
import Derived.Test.YtgpbjaleeeacdaaGreatDoorW2
set_option linter.unusedSimpArgs false
set_option linter.unusedVariables false
section
namespace Go.Eng
variable {tab:Tab} {gl:Gl} {fs:Fs} {hs:Hs} {Qx:qBs}
theorem zRg {g:V→Q V}:rdL g [] = .ret []:=Eq.trans (Eq.refl _) rfl
theorem qSc {g:V→Q V} {c:V} {r:List V}:rdL g (c::r)=(g c).bind fun x=>(rdL g r).bind fun y=> .ret (x::y):=Eq.trans (Eq.refl _) rfl
theorem zRl {n:Nat} {x:T}:rdV n (.t x) = .ret (.t x):=by cases n<;>rfl
theorem zRj {n:Nat}:rdV n .nil = .ret .nil:=by cases n<;>rfl
theorem zWh {n:Nat} {cs:List T}:rdV n (.ro cs) = .ret (.ro cs):=by cases n<;>rfl
theorem zRk {n id i f:Nat}:rdV n (.ref id i f) = .ret (.ref id i f):=by cases n<;>rfl
theorem zWe {n g id i f:Nat}:rdV n (.bd g id i f) = .ret (.bd g id i f):=by cases n<;>rfl
theorem zWf {n:Nat}:rdV n .bq = .ret .bq:=by cases n<;>rfl
attribute [go_sem] zWf
attribute [go_sem] zWe
theorem zRm {n:Nat} {cs:List V}:rdV n (.tup cs) = .ret (.tup cs):=by cases n<;>rfl
theorem zRi {n:Nat} {cs:List V}:rdV (n+1) (.agg cs)=(rdL (rdV n) cs).bind fun p=> .ret (V.mk p):=Eq.trans (Eq.refl _) rfl
theorem zWg {n:Nat} {f:FuncId} {cs:List V}:rdV (n+1) (.fn f cs)=(rdL (rdV n) cs).bind fun p=> .ret (.fn f p):=Eq.trans (Eq.refl _) rfl
theorem zWi {n id off len:Nat}:rdV (n+1) (.sl id off len) = .get id fun
  | .live _ _ false _=>(zE (n+1) (.sl id off len)).bind fun p=>Q.assert (p.2=[]) (.ret p.1)
  | _=> .ret (.sl id off len):=Eq.trans (Eq.refl _) rfl
theorem zLg {es:List V}:zIp es=match qCo es with | some _=> .ret es | none=>rdL (rdV 4) es:=Eq.trans (Eq.refl _) rfl
theorem zBy {α:Type} {q:Q α}:(q.bind fun x=>Q.ret x)=q:=by
 induction q with
 | ret a=>rfl
 | fail=>rfl
 | get id k ih=>simp only[Q.bind,ih]
 | free id k ih=>simp only[Q.bind,ih]
theorem zWd {n:Nat} {ts:List T}:rdL (rdV n) (ts.map .t) = .ret (ts.map .t):=by
 induction ts with
 | nil=>rfl
 | cons x r ih=>simp[rdL,zRl,ih,Q.bind]
theorem zRf {g:V→Q V} {a b:List V}:rdL g (a++b)=(rdL g a).bind fun x=>(rdL g b).bind fun y=> .ret (x++y):=by
 induction a with
 | nil=>simp[rdL,Q.bind,zBy]
 | cons c r ih=>simp only[List.cons_append,rdL,ih,qB5,Q.bind]
section
variable {ρ:Nat→Nat} {vt ko:List Nat}
theorem zXp:vEq ρ vt ko .nil .nil=True:=by simp[vEq]
theorem zXr {x:T}:vEq ρ vt ko .nil (.t x)=(x = .sl []):=by simp[vEq]
theorem zXq {id off len:Nat}:vEq ρ vt ko .nil (.sl id off len)=((vt.contains id=true∧off=0)∧len=0):=by simp only[vEq]
theorem zXl {cs cs':List V}:vEq ρ vt ko (.agg cs) (.agg cs')=qSp ρ vt ko cs cs':=by simp only[vEq]
theorem zXm {cs:List V} {ts:List T}:vEq ρ vt ko (.agg cs) (.t (.agg ts))=qSp ρ vt ko cs (ts.map .t):=by simp only[vEq]
theorem zXo {f f':FuncId} {cs cs':List V}:vEq ρ vt ko (.fn f cs) (.fn f' cs')=(f=f'∧qSp ρ vt ko cs cs'):=by simp only[vEq]
theorem zXw {x y:T}:vEq ρ vt ko (.t x) (.t y)=(x=y):=by
 have:vEq ρ vt ko (.t x) (.t y)=(V.t x=(V.t y).ren ρ∧((V.t y).ids.all fun i=>ko.contains i)=true):=by cases y<;>simp only[vEq]
 rw[this];simp[V.ren,V.ids]
theorem zXu {i j k i' j' k':Nat}:vEq ρ vt ko (.ref i j k) (.ref i' j' k')=((i=ρ i'∧j=j'∧k=k')∧ko.contains i'=true):=by
 simp[vEq,V.ren,V.ids]
theorem zXt:vEq ρ vt ko .bq .bq=True:=by
 simp[vEq,V.ren,V.ids]
attribute [go_sem] zXt
theorem zXn {g i j k g' i' j' k':Nat}:vEq ρ vt ko (.bd g i j k) (.bd g' i' j' k')=((g=g'∧i=ρ i'∧j=j'∧k=k')∧ko.contains i'=true):=by
 simp[vEq,V.ren,V.ids]
attribute [go_sem] zXn
theorem zXv {i j k i' j' k':Nat}:vEq ρ vt ko (.sl i j k) (.sl i' j' k')=((i=ρ i'∧j=j'∧k=k')∧ko.contains i'=true):=by
 simp[vEq,V.ren,V.ids]
theorem zXs {cs cs':List T}:vEq ρ vt ko (.ro cs) (.ro cs')=(cs=cs'):=by
 simp[vEq,V.ren,V.ids]
theorem zM0:qSp ρ vt ko [] []=True:=by simp only[qSp]
theorem zHx {c c':V} {r r':List V}:qSp ρ vt ko (c::r) (c'::r')=(vEq ρ vt ko c c'∧qSp ρ vt ko r r'):=by simp only[qSp]
theorem zJs {u es':List V}:zPp ρ vt ko u es'=match qCo u with
 | some _=>u=qC6 ρ es'∧((qIa es').all fun i=>ko.contains i)=true
 | none=>qSp ρ vt ko u es':=Eq.trans (Eq.refl _) rfl
theorem zCj {v v':V}:zCh hs ρ vt ko (some v) v'=(rdV 4 v).wp hs (fun u _=>vEq ρ vt ko u v'):=Eq.trans (Eq.refl _) rfl
theorem zCi {v':V}:zCh hs ρ vt ko none v'=False:=Eq.trans (Eq.refl _) rfl
theorem zA2:qFs fs hs ρ vt ko []=True:=Eq.trans (Eq.refl _) rfl
theorem qWg {t:Nat} {v':V} {r:Fs}:qFs fs hs ρ vt ko ((t,v')::r)=(zCh hs ρ vt ko (jA fs t) v'∧qFs fs hs ρ vt ko r):=Eq.trans (Eq.refl _) rfl
theorem zIt:zIi hs ρ vt ko []=True:=Eq.trans (Eq.refl _) rfl
theorem zDm {i:Nat} {o':Ob} {r:Hs}:zIi hs ρ vt ko ((i,o')::r)=(obC hs ρ vt ko (jA hs (ρ i)) o'∧zIi hs ρ vt ko r):=Eq.trans (Eq.refl _) rfl
theorem zK1 {z z':Nat} {es es':List V} {wr wr' full full':Bool}:obC hs ρ vt ko (some (.live z es wr full)) (.live z' es' wr' full') =
  (z=z'∧wr=wr'∧(full'=true→full=true)∧(zIp es).wp hs (fun u _=>zPp ρ vt ko u es')):=Eq.trans (Eq.refl _) rfl
theorem zK0 {o:Ob}:obC hs ρ vt ko (some o) .dead=True:=by cases o<;>rfl
end
theorem zJ9 {es:List V}:zP1 es=match qCo es with | some _=>[] | none=>qIa es:=Eq.trans (Eq.refl _) rfl
theorem zFj {n:Nat} {ids:List Nat} {obs:List Ob}:qH8 n [] ids obs = .ret (ids,obs):=by cases n<;>rfl
theorem zBm {n id:Nat} {todo ids:List Nat} {obs:List Ob}:qH8 (n+1) (id::todo) ids obs=if ids.contains id then qH8 n todo ids obs else
  .get id fun
   | .live z es true full=>(zIp es).bind fun es'=>qH8 n (todo++zP1 es') (ids++[id]) (obs++[.live z es' true full])
   | _=> .fail:=Eq.trans (Eq.refl _) rfl
theorem zLx {n:Nat} {vs:List V}:zTu n vs=(rdL (rdV 4) vs).bind fun us=>(qH8 (40+n) (List.range n++qIa us) [] []).bind fun q=>
  Q.assert ((qIa us).all (fun i=>q.1.contains i)=true) (.ret (zOi (qC6 (fun r=>q.1.idxOf r) us),q.2.map (Ob.ren fun r=>q.1.idxOf r))):=Eq.trans (Eq.refl _) rfl
theorem qXs {fz:List Nat} {rs:List (Nat×Option (Nat×Bool))} {n:Nat} {R:V→List Ob→Prop}:qAg fz rs n R .normal fs hs=(qRt fz).wp hs (fun fw _=>((rsQ fs rs).bind fun vs=>zTu n vs).wp (qTe hs fw) (fun p _=>R p.1 p.2)):=Eq.trans (Eq.refl _) rfl
theorem zLt {fz:List Nat} {rs:List (Nat×Option (Nat×Bool))} {n:Nat} {R:V→List Ob→Prop}:qAg fz rs n R .ret fs hs=(qRt fz).wp hs (fun fw _=>((rsQ fs rs).bind fun vs=>zTu n vs).wp (qTe hs fw) (fun p _=>R p.1 p.2)):=Eq.trans (Eq.refl _) rfl
def unK (tab:Tab) (gl:Gl) (a:AC) (n:Nat) (Qx:qBs):qBs:=fun e fs' hs'=>match e with | .normal=>qUt tab gl a n fs' hs' Qx | e=>Qx e fs' hs'
theorem qG {a:AC} {n:Nat}:qUt tab gl a (n+1) fs hs Qx=a.wp tab gl fs hs (unK tab gl a n Qx):=Eq.trans (Eq.refl _) rfl
theorem zCo {a:AC} {n:Nat}:unK tab gl a n Qx .normal fs hs=qUt tab gl a n fs hs Qx:=Eq.trans (Eq.refl _) rfl
theorem zMu {a:AC} {n id:Nat}:unK tab gl a n Qx (.exit id) fs hs=Qx (.exit id) fs hs:=Eq.trans (Eq.refl _) rfl
theorem zSw {a:AC} {n:Nat}:unK tab gl a n Qx .ret fs hs=Qx .ret fs hs:=Eq.trans (Eq.refl _) rfl
@[congr] theorem zQh {a:AC} {n:Nat} {fs':Fs} {hs':Hs} (h1:fs=fs') (h2:hs=hs'):qUt tab gl a n fs hs Qx=qUt tab gl a n fs' hs' Qx:=by rw[h1,h2]
theorem qUs {ι:Type} {I:ι→Fs×Hs} {μ:ι→Nat} {i:ι}:zKq I μ i Qx .normal fs hs = ∃ j,μ j<μ i∧qQ fs hs (I j).1 (I j).2:=Eq.trans (Eq.refl _) rfl
theorem zBs {ι:Type} {I:ι→Fs×Hs} {μ:ι→Nat} {i:ι} {id:Nat}:zKq I μ i Qx (.exit id) fs hs=Qx (.exit id) fs hs:=Eq.trans (Eq.refl _) rfl
theorem zF2 {ι:Type} {I:ι→Fs×Hs} {μ:ι→Nat} {i:ι}:zKq I μ i Qx .ret fs hs=Qx .ret fs hs:=Eq.trans (Eq.refl _) rfl
attribute [go_sem] zRg qSc zRl zRj zWh zRk zRm zRi zWg zWi zLg zWd zRf zXp zXr zXq zXl zXm zXo zXw zXu zXv zXs zM0 zHx zJs zCj zCi
 zA2 qWg zIt zDm zK1 zK0 zJ9 zFj zBm zLx qXs zLt zCo zMu zSw qUs zBs zF2
theorem zZf {p:Prop} [Decidable p] (h:p):decide p=true:=decide_eq_true h
theorem zZe {p:Prop} [Decidable p] (h : ¬ p):decide p=false:=decide_eq_false h
theorem zU0 {a b:Int} (h:a=b):(a==b)=true:=by simp[h]
theorem zUz {a b:Int} (h : ¬ a=b):(a==b)=false:=by simp[h]
theorem zU2 {a b:Int} (h : ¬ a=b):(a != b)=true:=by simp[h]
theorem zU1 {a b:Int} (h:a=b):(a != b)=false:=by simp[h]
attribute [go_sem low] zZf zZe jBs zU0 zUz zU2 zU1
theorem qUu {α γ:Type} {f:α→γ} {l:List α} {x:α} {r:List γ}:List.map f l++f x::r=List.map f (l++[x])++r:=by simp
theorem qXh {α γ:Type} {f:α→γ} {l r:List α}:List.map f l++List.map f r=List.map f (l++r):=by simp
theorem zEl {α γ:Type} {f:α→γ} {l:List α} {n:Nat}:List.drop n (List.map f l)=List.map f (List.drop n l):=by simp
theorem zHs {α γ:Type} {f:α→γ} {l:List α} {n:Nat}:List.take n (List.map f l)=List.map f (List.take n l):=by simp
theorem zMn {α γ:Type} {f:α→γ} {l:List α} {n:Nat} {x:α}:List.set (List.map f l) n (f x)=List.map f (List.set l n x):=by
 rw[List.map_set]
theorem zJ4 {α γ:Type} {f:α→γ} {l:List α} {n:Nat}:(List.map f l)[n]?=(l[n]?).map f:=List.getElem?_map
theorem zZx {n:Nat} {x:T}:List.replicate n (V.t x)=List.map V.t (List.replicate n x):=by simp
theorem zZw {n:Nat} {x:UInt8}:List.replicate n (qA x)=List.map qA (List.replicate n x):=by simp
theorem zZy {n:Nat} {x:UInt32}:List.replicate n (qK x)=List.map qK (List.replicate n x):=by simp
theorem jEf {α:Type} {x:α}:List.replicate 0 x=[]:=Eq.trans (Eq.refl _) rfl
theorem jEg {α:Type} {x:α}:List.replicate 1 x=[x]:=Eq.trans (Eq.refl _) rfl
theorem jEh {α:Type} {x:α}:List.replicate 2 x=[x,x]:=Eq.trans (Eq.refl _) rfl
theorem jEi {α:Type} {x:α}:List.replicate 3 x=[x,x,x]:=Eq.trans (Eq.refl _) rfl
theorem jEj {α:Type} {x:α}:List.replicate 4 x=[x,x,x,x]:=Eq.trans (Eq.refl _) rfl
theorem jEk {α:Type} {x:α}:List.replicate 5 x=[x,x,x,x,x]:=Eq.trans (Eq.refl _) rfl
theorem jEl {α:Type} {x:α}:List.replicate 6 x=[x,x,x,x,x,x]:=Eq.trans (Eq.refl _) rfl
theorem jEm {α:Type} {x:α}:List.replicate 7 x=[x,x,x,x,x,x,x]:=Eq.trans (Eq.refl _) rfl
theorem jEn {α:Type} {x:α}:List.replicate 8 x=[x,x,x,x,x,x,x,x]:=Eq.trans (Eq.refl _) rfl
theorem zPo {es:List T}:qAf (.t (.sl es)) = .ret (es.map .t):=Eq.trans (Eq.refl _) rfl
theorem zEq:qAf .nil = .ret []:=Eq.trans (Eq.refl _) rfl
theorem zJo {id off len:Nat}:qAf (.sl id off len) = .get id fun
  | .live _ es _ _=>Q.assert (off+len≤es.length) (.ret ((es.drop off).take len))
  | .dead=> .fail:=Eq.trans (Eq.refl _) rfl
theorem jBt {z:Nat} {ts:List T}:zOk z (ts.map .t)=qTf z ts:=by
 induction ts with
 | nil=>rfl
 | cons x r ih=>
  have:zOk z (V.t x::r.map .t)=((V.t x).cells.length==z&&zOk z (r.map .t)):=rfl
  rw[List.map_cons,this,ih]
  have:qTf z (x::r)=(x.cells.length==z&&qTf z r):=rfl
  rw[this,qGm,List.length_map]
theorem zTk {z:Nat}:zOk z []=true:=Eq.trans (Eq.refl _) rfl
theorem zNc {z:Nat} {x:V} {r:List V}:zOk z (x::r)=(x.cells.length==z&&zOk z r):=Eq.trans (Eq.refl _) rfl
theorem zNb {z:Nat}:qTf z []=true:=Eq.trans (Eq.refl _) rfl
theorem zIg {z:Nat} {x:T} {r:List T}:qTf z (x::r)=(x.cells.length==z&&qTf z r):=Eq.trans (Eq.refl _) rfl
theorem qS9 {α:Type} {z:Nat} {f:α→T} (h : ∀ x,(f x).cells.length=z) {l:List α}:qTf z (l.map f)=true:=by
 simp[qTf,h]
theorem zYo {l:List UInt8}:qTf 1 (l.map qA)=true:=qS9 (f:=qA) (fun _=>rfl)
theorem zYp {l:List UInt32}:qTf 1 (l.map qK)=true:=qS9 (f:=qK) (fun _=>rfl)
theorem zBc {es:List V}:qA7 es=match qCo es with | some _=> .ret (es,[]) | none=>qA8 (zE 3) es:=Eq.trans (Eq.refl _) rfl
theorem qSn {α:Type} {l xs:List α}:zT l 0 xs=xs++l.drop xs.length:=by simp[zT]
theorem qSm {α:Type} {x:α} {l xs:List α} {i:Nat}:zT (x::l) (i+1) xs=x::zT l i xs:=by
 simp[zT,show i+1+xs.length=i+xs.length+1 by omega]
def zEy (b:Bool) (z:List V) (pl:List (Nat×Nat)) (vs:List V):Option (List V):=if b then qPc z pl vs else none
@[congr] theorem zPs {b b':Bool} {z:List V} {pl:List (Nat×Nat)} {vs:List V} (h:b=b'):zEy b z pl vs=zEy b' z pl vs:=by rw[h]
theorem zBf {z:List V} {pl:List (Nat×Nat)} {vs:List V}:zEy true z pl vs=qPc z pl vs:=Eq.trans (Eq.refl _) rfl
theorem zEz {z:List V}:qPc z [] []=some z:=Eq.trans (Eq.refl _) rfl
theorem zBg {z:List V} {off n:Nat} {pl:List (Nat×Nat)} {v:V} {vs:List V}:qPc z ((off,n)::pl) (v::vs)=zEy (decide (v.cells.length=n∧off+n≤z.length)&&v.plain) (zT z off v.cells) pl vs:=by
 simp only[qPc,zEy,Bool.and_eq_true,decide_eq_true_eq,and_assoc]
def qUg (b:Bool) (z:Nat) (es:List V) (ix:List Nat) (vs:List V):Option (List V):=if b then qPb z es ix vs else none
@[congr] theorem zNu {b b':Bool} {z:Nat} {es:List V} {ix:List Nat} {vs:List V} (h:b=b'):qUg b z es ix vs=qUg b' z es ix vs:=by rw[h]
theorem qW3 {z:Nat} {es:List V} {ix:List Nat} {vs:List V}:qUg true z es ix vs=qPb z es ix vs:=Eq.trans (Eq.refl _) rfl
theorem zEx {z:Nat} {es:List V}:qPb z es [] []=some es:=Eq.trans (Eq.refl _) rfl
theorem zBe {z i:Nat} {es:List V} {ix:List Nat} {v:V} {vs:List V}:qPb z es (i::ix) (v::vs)=qUg (decide (v.cells.length=z∧i<es.length)&&v.plain) z (es.set i v) ix vs:=by
 simp only[qPb,qUg,Bool.and_eq_true,decide_eq_true_eq,and_assoc]
theorem zK5:qO5 []=true:=Eq.trans (Eq.refl _) rfl
theorem zGb {x:V} {r:List V}:qO5 (x::r)=(x.single&&qO5 r):=Eq.trans (Eq.refl _) rfl
theorem zK3 {a b:List V}:qO5 (a++b)=(qO5 a&&qO5 b):=by simp[qO5]
theorem qR3 {α:Type} {f:α→T} (h : ∀ x,(V.t (f x)).single=true) {l:List α}:qO5 ((l.map f).map V.t)=true:=by
 simp only[qO5,List.all_eq_true]
 intro x hx
 simp only[List.map_map,List.mem_map,Function.comp] at hx
 obtain⟨a,_,rfl⟩:=hx
 exact h a
theorem zV6 {l:List UInt8}:qO5 ((l.map qA).map V.t)=true:=qR3 (f:=qA) (fun _=>rfl)
theorem zV7 {l:List UInt32}:qO5 ((l.map qK).map V.t)=true:=qR3 (f:=qK) (fun _=>rfl)
theorem zCa {k:IntKind} {n:Int}:(V.t (T.int k n)).single=true:=Eq.trans (Eq.refl _) rfl
theorem qX5 {n:UInt8}:(V.t (qA n)).single=true:=Eq.trans (Eq.refl _) rfl
theorem zCf {n:UInt32}:(V.t (qK n)).single=true:=Eq.trans (Eq.refl _) rfl
theorem qX4 {n:Bool}:(V.t (T.bool n)).single=true:=Eq.trans (Eq.refl _) rfl
theorem zCd {n:ByteArray}:(V.t (T.str n)).single=true:=Eq.trans (Eq.refl _) rfl
theorem zCe {n:List T}:(V.t (T.sl n)).single=true:=Eq.trans (Eq.refl _) rfl
theorem qX7 {n:List T}:(V.t (T.agg n)).single=false:=Eq.trans (Eq.refl _) rfl
theorem zB9 {n:List V}:(V.agg n).single=false:=Eq.trans (Eq.refl _) rfl
theorem zHj {i j k:Nat}:(V.sl i j k).single=true:=Eq.trans (Eq.refl _) rfl
theorem zCc {i j k:Nat}:(V.ref i j k).single=true:=Eq.trans (Eq.refl _) rfl
theorem zHh {g i j k:Nat}:(V.bd g i j k).single=true:=Eq.trans (Eq.refl _) rfl
theorem zHi:V.bq.single=true:=Eq.trans (Eq.refl _) rfl
attribute [go_sem] zHi
attribute [go_sem] zHh
theorem zCb:V.nil.single=true:=Eq.trans (Eq.refl _) rfl
theorem zCg {n b:Nat}:qAj n b=(n≤9223372036854775807∧n*b≤140737488355328):=Eq.trans (Eq.refl _) rfl
theorem jDo {l:List UInt8} {i:Nat} (h:i<l.length):l[i]?=some (l.getD i 0):=by simp[List.getD,h]
theorem zZi {l:List UInt32} {i:Nat} (h:i<l.length):l[i]?=some (l.getD i 0):=by simp[List.getD,h]
theorem zVv {a b:Nat}:(a:Int)+(b:Int)=((a+b:Nat):Int):=rfl
theorem zQm {a n:Nat}:(a:Int)+(no_index (@OfNat.ofNat Int n _))=((a + @OfNat.ofNat Nat n (instOfNatNat n):Nat):Int):=rfl
theorem zKx {a n:Nat}:(no_index (@OfNat.ofNat Int n _))+(a:Int)=((@OfNat.ofNat Nat n (instOfNatNat n)+a:Nat):Int):=rfl
theorem zVx {a b:Nat}:(a:Int)*(b:Int)=((a*b:Nat):Int):=rfl
theorem zQo {a n:Nat}:(no_index (@OfNat.ofNat Int n _))*(a:Int)=((@OfNat.ofNat Nat n (instOfNatNat n)*a:Nat):Int):=rfl
theorem zQq {a n:Nat}:(a:Int)*(no_index (@OfNat.ofNat Int n _))=((a * @OfNat.ofNat Nat n (instOfNatNat n):Nat):Int):=rfl
theorem zQt {a n:Nat}:(a:Int).tmod (no_index (@OfNat.ofNat Int n _))=((a % @OfNat.ofNat Nat n (instOfNatNat n):Nat):Int):=rfl
theorem zQs {a n:Nat}:(a:Int).tdiv (no_index (@OfNat.ofNat Int n _))=((a / @OfNat.ofNat Nat n (instOfNatNat n):Nat):Int):=rfl
theorem zQn {a n:Nat}:(a:Int).fdiv (no_index (@OfNat.ofNat Int n _))=((a / @OfNat.ofNat Nat n (instOfNatNat n):Nat):Int):=by
 rw[Int.fdiv_eq_ediv_of_nonneg _ (by exact Int.natCast_nonneg n)];rfl
theorem zVy {a b:Nat} (h:b≤a):(a:Int)-(b:Int)=((a-b:Nat):Int):=by omega
theorem zQr {a n:Nat} (h : @OfNat.ofNat Nat n (instOfNatNat n)≤a):(a:Int)-(no_index (@OfNat.ofNat Int n _))=((a - @OfNat.ofNat Nat n (instOfNatNat n):Nat):Int):=by
 have:(@OfNat.ofNat Int n _:Int)=((@OfNat.ofNat Nat n (instOfNatNat n):Nat):Int):=rfl
 rw[this];omega
theorem zQp {a n:Nat} (h:a ≤ @OfNat.ofNat Nat n (instOfNatNat n)):(no_index (@OfNat.ofNat Int n _))-(a:Int)=((@OfNat.ofNat Nat n (instOfNatNat n)-a:Nat):Int):=by
 have:(@OfNat.ofNat Int n _:Int)=((@OfNat.ofNat Nat n (instOfNatNat n):Nat):Int):=rfl
 rw[this];omega
theorem zVw {n:Nat}:(no_index (@OfNat.ofNat Int n _)).toNat = @OfNat.ofNat Nat n (instOfNatNat n):=rfl
attribute [go_sem] zK5 zGb zK3 zV6 zV7 zCa qX5 zCf qX4 zCd zCe qX7 zB9 zHj zCc zCb
attribute [go_sem] zBc qSn qSm zBf zEz zBg qW3 zEx zBe
attribute [go_sem] jEf jEg jEh jEi jEj jEk jEl jEm jEn List.drop_replicate zPo zEq zJo jBt zTk zNc zNb zIg zYo zYp zCg zZx zZw zZy
attribute [go_sem] List.idxOf_cons List.idxOf_nil cond_true cond_false Ob.live.injEq
theorem jEz {n:Int} (h : -9223372036854775808≤n∧n<9223372036854775808):IntKind.i64.wrap n=n:=xB h
theorem jE1 {n:Int} (h:0≤n∧n<18446744073709551616):IntKind.u64.wrap n=n:=qDw h
theorem jE0 {n:Int} (h:0≤n∧n<4294967296):IntKind.u32.wrap n=n:=qY8 h
theorem zW4 {a:Nat} {k k':IntKind} {b:Int} (h:0≤b∧b≤64) (hk:k.bits=64):qO7 .shr k (a:Int) k' b=some (.int k ((a/2^b.toNat:Nat):Int)):=by
 change (if b<0 then none else some (T.int k ((a:Int).fdiv (2^min b.toNat k.bits))))=_
 rw[if_neg (by omega),hk,show min b.toNat 64=b.toNat by omega,Int.fdiv_eq_ediv_of_nonneg _ (Int.pow_nonneg (by omega))]
 norm_cast
theorem zSo {a:Nat} {k':IntKind} {b:Int} (h:0≤b∧b≤64):qO7 .shr .u64 (a:Int) k' b=some (.int .u64 ((a/2^b.toNat:Nat):Int)):=zW4 h rfl
theorem qX2 {a:Nat} {k':IntKind} {b:Int} (h:0≤b∧b≤64):qO7 .shr .i64 (a:Int) k' b=some (.int .i64 ((a/2^b.toNat:Nat):Int)):=zW4 h rfl
theorem zXd {m:Nat}:T.int .u8 (IntKind.u8.wrap (m:Int))=qA (UInt8.ofNat m):=by
 unfold qA
 congr 1
attribute [go_sem ↓] zSo qX2
end Go.Eng
end
section
namespace Go.Eng
structure Ct where
 α:Type
 as:α→List V
 ins:α→List Ob
 pre:α→Prop
 r:α→V
 outs:α→List Ob
 inj : ∀ x y,as x=as y→ins x=ins y→r x=r y∧outs x=outs y
open Classical in
noncomputable def Ct.fs (c:Ct):FnS:=fun as ins=>if h : ∃ x,(c.as x=as∧c.ins x=ins)∧c.pre x then some (c.r h.choose,c.outs h.choose) else none
theorem Ct.eq (c:Ct) (x:c.α) (h:c.pre x):c.fs (c.as x) (c.ins x)=some (c.r x,c.outs x):=by
 have hx : ∃ y,(c.as y=c.as x∧c.ins y=c.ins x)∧c.pre y:=⟨x,⟨rfl,rfl⟩,h⟩
 unfold Ct.fs
 rw[dif_pos hx]
 obtain⟨h1,h2⟩:=c.inj _ _ hx.choose_spec.1.1 hx.choose_spec.1.2
 rw[h1,h2]
theorem Ct.ok {P:Program} {G:Nat→Option (List T)} {f:FuncId} (c:Ct) (hc : ∀ args w,(callFunc f args).run P w = .ok (.enter f args) w) (h : ∀ x,c.pre x→zA4 P G f (c.as x) (c.ins x) (c.r x) (c.outs x)):FOk P G f c.fs:=by
 refine FOk.of hc (fun as ins r outs hs=>?_)
 unfold Ct.fs at hs
 split at hs
 ·rename_i hx
  cases hs
  have h1:=hx.choose_spec
  generalize hx.choose=y at h1 ⊢
  obtain⟨⟨rfl,rfl⟩,h3⟩:=h1
  exact h y h3
 ·cases hs
theorem qMr {a b:UInt8} (h:qA a=qA b):a=b:=by
 have:=congrArg d8 h
 rw[qWz,qWz] at this
 exact Option.some.inj this
theorem zAy {a b:UInt32} (h:qK a=qK b):a=b:=by
 have:=congrArg d32 h
 rw[zEi,zEi] at this
 exact Option.some.inj this
theorem wB {α γ:Type} {f:α→γ} (hf : ∀ a b,f a=f b→a=b) : ∀ {l m:List α},l.map f=m.map f→l=m
 | [],[],_=>rfl
 | [],_::_,h=>by simp at h
 | _::_,[],h=>by simp at h
 | a::l,b::m,h=>by
  simp only[List.map_cons,List.cons.injEq] at h
  rw[hf _ _ h.1,wB hf h.2]
theorem qP {l m:List UInt8}:(l.map qA=m.map qA)=(l=m):=propext ⟨wB (fun _ _=>qMr),fun h=>by rw[h]⟩
theorem qZ3 {l m:List UInt32}:(l.map qK=m.map qK)=(l=m):=propext ⟨wB (fun _ _=>zAy),fun h=>by rw[h]⟩
theorem zKt {l m:List T}:(l.map V.t=m.map V.t)=(l=m):=propext ⟨wB (fun _ _ h=>V.t.inj h),fun h=>by rw[h]⟩
theorem qLn {a b:UInt8}:(qA a=qA b)=(a=b):=propext ⟨qMr,fun h=>by rw[h]⟩
theorem qYc {a b:UInt32}:(qK a=qK b)=(a=b):=propext ⟨zAy,fun h=>by rw[h]⟩
theorem zZ7 {x:UInt32} {k:IntKind} {n:Nat}:qEq .shl (qK x) (.int k (no_index (@OfNat.ofNat Int n _)))=if n<32 then some (qK (x <<< UInt32.ofNat n)) else qEq .shl (qK x) (.int k (n:Int)):=by
 split
 ·exact qMn (by assumption)
 ·rfl
theorem zZ8 {x:UInt32} {k:IntKind} {n:Nat}:qEq .shr (qK x) (.int k (no_index (@OfNat.ofNat Int n _)))=if n<32 then some (qK (x >>> UInt32.ofNat n)) else qEq .shr (qK x) (.int k (n:Int)):=by
 split
 ·exact qMo (by assumption)
 ·rfl
theorem zW2 {x:UInt32} {k:IntKind} {n:Nat} (h:n<32):qEq .shl (qK x) (.int k (n:Int))=some (qK (x <<< UInt32.ofNat n)):=qMn h
theorem zW3 {x:UInt32} {k:IntKind} {n:Nat} (h:n<32):qEq .shr (qK x) (.int k (n:Int))=some (qK (x >>> UInt32.ofNat n)):=qMo h
theorem qGh {α:Type} {l:List α} {k:Nat} {d:α} (h:k<l.length):l.take (k+1)=l.take k++[l.getD k d]:=by
 rw[List.take_add_one];simp[List.getD,h]
theorem zN7 {x:Int} {m:Nat} (h:m≤64):(BitVec.ofInt 64 x &&& BitVec.ofInt 64 ((2^m-1:Nat):Int)).toNat=(x%((2^m:Nat):Int)).toNat:=by
 have h0:1≤2^m:=Nat.one_le_two_pow
 have h2:2^m≤2^64:=Nat.pow_le_pow_right (n:=2) (by omega) h
 rw[BitVec.toNat_and,BitVec.toNat_ofInt,BitVec.toNat_ofInt]
 have h1:(((2^m-1:Nat):Int)%((2^64:Nat):Int)).toNat=2^m-1:=by
  rw[Int.emod_eq_of_lt (by omega) (by omega)];simp
 rw[h1,Nat.and_two_pow_sub_one_eq_mod]
 have hd:((2^m:Nat):Int) ∣ ((2^64:Nat):Int):=Int.natCast_dvd_natCast.2 (Nat.pow_dvd_pow 2 h)
 have e:x%((2^64:Nat):Int)%((2^m:Nat):Int)=x%((2^m:Nat):Int):=Int.emod_emod_of_dvd x hd
 rw[←e]
 have hx0:0≤x%((2^64:Nat):Int):=Int.emod_nonneg _ (by omega)
 generalize x%((2^64:Nat):Int)=y at hx0
 obtain⟨z,rfl⟩:=Int.eq_ofNat_of_zero_le hx0
 rw[←Int.natCast_emod,Int.toNat_natCast,Int.toNat_natCast]
theorem qRd {x:Int} {m:Nat} (h:m≤63):IntKind.i64.wrap ((BitVec.ofInt 64 x &&& BitVec.ofInt 64 ((2^m-1:Nat):Int)).toNat:Int)=x%((2^m:Nat):Int):=by
 rw[zN7 (by omega)]
 have h0:1≤2^m:=Nat.one_le_two_pow
 have h2:2^m≤2^63:=Nat.pow_le_pow_right (n:=2) (by omega) h
 have h3:=Int.emod_nonneg x (b:=((2^m:Nat):Int)) (by omega)
 have h4:=Int.emod_lt_of_pos x (b:=((2^m:Nat):Int)) (by omega)
 rw[xB (by omega)]
 omega
theorem jDb {x:Int}:qO7 .and .i64 x .i64 1=some (.int .i64 (x%2)):=by
 have h := @qRd x 1 (by omega)
 rw[show ((2^1-1:Nat):Int)=1 from rfl,show ((2^1:Nat):Int)=2 from rfl] at h
 have h2:=congrArg (fun z=>some (T.int IntKind.i64 z)) h
 exact h2
theorem jDd {x:Int}:qO7 .and .i64 x .i64 3=some (.int .i64 (x%4)):=by
 have h := @qRd x 2 (by omega)
 rw[show ((2^2-1:Nat):Int)=3 from rfl,show ((2^2:Nat):Int)=4 from rfl] at h
 have h2:=congrArg (fun z=>some (T.int IntKind.i64 z)) h
 exact h2
theorem zY6 {x:Int}:qO7 .and .i64 x .i64 15=some (.int .i64 (x%16)):=by
 have h := @qRd x 4 (by omega)
 rw[show ((2^4-1:Nat):Int)=15 from rfl,show ((2^4:Nat):Int)=16 from rfl] at h
 have h2:=congrArg (fun z=>some (T.int IntKind.i64 z)) h
 exact h2
theorem zI1 {x:Int}:qO7 .and .i64 x .i64 65535=some (.int .i64 (x%65536)):=by
 have h := @qRd x 16 (by omega)
 rw[show ((2^16-1:Nat):Int)=65535 from rfl,show ((2^16:Nat):Int)=65536 from rfl] at h
 have h2:=congrArg (fun z=>some (T.int IntKind.i64 z)) h
 exact h2
theorem zT5 {x:Int}:qO7 .and .u64 x .u64 31=some (.int .u64 (x%32)):=by
 have h := @zN7 x 5 (by omega)
 rw[show ((2^5-1:Nat):Int)=31 from rfl,show ((2^5:Nat):Int)=32 from rfl] at h
 have h2:IntKind.u64.wrap ((BitVec.ofInt 64 x &&& BitVec.ofInt 64 31).toNat:Int)=x%32:=by
  rw[h,qL4];omega
 have h3:=congrArg (fun z=>some (T.int IntKind.u64 z)) h2
 exact h3
theorem zE7 {z:Nat} {es:List V} {wr full:Bool}:(Ob.live z es wr full).flat=qGw es:=Eq.trans (Eq.refl _) rfl
theorem zE4:qGw []=true:=Eq.trans (Eq.refl _) rfl
theorem qQj {c:V} {r:List V}:qGw (c::r)=(c.flat&&qGw r):=Eq.trans (Eq.refl _) rfl
theorem zE3:qK3 []=true:=Eq.trans (Eq.refl _) rfl
theorem qFl {c:T} {r:List T}:qK3 (c::r)=(c.flat&&qK3 r):=Eq.trans (Eq.refl _) rfl
theorem zPw {ts:List T}:qGw (ts.map .t)=qK3 ts:=by
 induction ts with
 | nil=>rfl
 | cons x r ih=>rw[List.map_cons,qQj,ih,qFl];rfl
theorem zPu {l:List UInt8}:qK3 (l.map qA)=true:=by
 induction l with
 | nil=>rfl
 | cons x r ih=>rw[List.map_cons,qFl,ih];rfl
theorem zPv {l:List UInt32}:qK3 (l.map qK)=true:=by
 induction l with
 | nil=>rfl
 | cons x r ih=>rw[List.map_cons,qFl,ih];rfl
theorem zJ2 {i j k:Nat}:(V.sl i j k).flat=true:=Eq.trans (Eq.refl _) rfl
theorem zFc {i j k:Nat}:(V.ref i j k).flat=true:=Eq.trans (Eq.refl _) rfl
theorem zJ0 {g i j k:Nat}:(V.bd g i j k).flat=true:=Eq.trans (Eq.refl _) rfl
theorem zJ1:V.bq.flat=true:=Eq.trans (Eq.refl _) rfl
attribute [go_sem] zJ1
attribute [go_sem] zJ0
theorem zFb:V.nil.flat=true:=Eq.trans (Eq.refl _) rfl
theorem zFa {cs:List V}:(V.agg cs).flat=qGw cs:=Eq.trans (Eq.refl _) rfl
theorem zFd {cs:List V}:(V.tup cs).flat=qGw cs:=Eq.trans (Eq.refl _) rfl
theorem zJx {cs:List T}:(T.sl cs).flat=cs.isEmpty:=Eq.trans (Eq.refl _) rfl
theorem zE9 {cs:List T}:(T.agg cs).flat=qK3 cs:=Eq.trans (Eq.refl _) rfl
attribute [go_sem] zE7 zE4 qQj zE3 qFl zPw zPu zPv zJ2 zFc zFb zFa zFd zJx zE9 List.isEmpty_nil List.isEmpty_cons
attribute [go_sem ↓] zT5
attribute [go_sem ↓] jDb jDd zY6 zI1
attribute [go_sem] zZ7 zZ8 zW2 zW3 qLn qYc
end Go.Eng
end
section
namespace Go.Eng
variable {tab:Tab} {gl:Gl} {fs:Fs} {hs:Hs} {Qx:qBs}
def upP (n:Nat) (P:Nat→Prop) (fI:Nat→Fs) (hI:Nat→Hs) (i:Nat) (Qx:qBs):qBs:=fun e fs' hs'=>match e with | .normal=>i<n∧P (i+1)∧qQ fs' hs' (fI (i+1)) (hI (i+1)) | e=>Qx e fs' hs'
theorem zCr {n:Nat} {P:Nat→Prop} {fI:Nat→Fs} {hI:Nat→Hs} {i:Nat}:upP n P fI hI i Qx .normal fs hs=(i<n∧P (i+1)∧qQ fs hs (fI (i+1)) (hI (i+1))):=Eq.trans (Eq.refl _) rfl
theorem zMx {n:Nat} {P:Nat→Prop} {fI:Nat→Fs} {hI:Nat→Hs} {i id:Nat}:upP n P fI hI i Qx (.exit id) fs hs=Qx (.exit id) fs hs:=Eq.trans (Eq.refl _) rfl
theorem zSz {n:Nat} {P:Nat→Prop} {fI:Nat→Fs} {hI:Nat→Hs} {i:Nat}:upP n P fI hI i Qx .ret fs hs=Qx .ret fs hs:=Eq.trans (Eq.refl _) rfl
attribute [go_sem] zCr zMx zSz
theorem kU {a:AC} (n:Nat) (P:Nat→Prop) (fI:Nat→Fs) (hI:Nat→Hs) (hP:P 0) (h0:qQ fs hs (fI 0) (hI 0)) (h : ∀ i,i≤n→P i→a.wp tab gl (fI i) (hI i) (upP n P fI hI i Qx)):qN2 tab gl a fs hs Qx:=by
 refine qE9 (ι := { i:Nat // i≤n∧P i }) (fun i=>(fI i.1,hI i.1)) (fun i=>n-i.1) ⟨0,Nat.zero_le _,hP⟩ h0 (fun i=>?_)
 refine qCa (fun e f g hq=>?_) (h i.1 i.2.1 i.2.2)
 cases e with
 | normal=>exact⟨⟨i.1+1,hq.1,hq.2.1⟩,by simp only;have:=hq.1;omega,hq.2.2⟩
 | exit id=>exact hq
 | ret=>exact hq
theorem zMq {a:Nat} {k':IntKind} {b:Int} (h:0≤b∧b≤32):qO7 .shr .u32 (a:Int) k' b=some (.int .u32 ((a/2^b.toNat:Nat):Int)):=by
 change (if b<0 then none else some (T.int .u32 ((a:Int).fdiv (2^min b.toNat 32))))=_
 rw[if_neg (by omega),show min b.toNat 32=b.toNat by omega,Int.fdiv_eq_ediv_of_nonneg _ (Int.pow_nonneg (by omega))]
 norm_cast
attribute [go_sem ↓] zMq
theorem qZi {a b:UInt8}:((a.toNat:Int)==(b.toNat:Int))=decide (a=b):=by
 by_cases h:a=b
 ·subst h;simp
 ·have : ¬ ((a.toNat:Int)=b.toNat):=fun e=>h (UInt8.toNat_inj.1 (by omega))
  simp[h,this]
theorem zI5 {a b:UInt8}:qEq .eql (qA a) (qA b)=some (.bool (decide (a=b))):=by
 change some (T.bool ((a.toNat:Int)==(b.toNat:Int)))=_
 rw[qZi]
theorem zJa {a b:UInt8}:qEq .neq (qA a) (qA b)=some (.bool (!decide (a=b))):=by
 change some (T.bool (!((a.toNat:Int)==(b.toNat:Int))))=_
 rw[qZi]
theorem zI9 {a b:UInt8}:qEq .lss (qA a) (qA b)=some (.bool (decide (a.toNat<b.toNat))):=by
 change some (T.bool (decide ((a.toNat:Int)<(b.toNat:Int))))=_
 congr 2;simp
theorem zI7 {a b:UInt8}:qEq .gtr (qA a) (qA b)=some (.bool (decide (a.toNat>b.toNat))):=by
 change some (T.bool (decide ((a.toNat:Int)>(b.toNat:Int))))=_
 congr 2;simp
theorem zI8 {a b:UInt8}:qEq .leq (qA a) (qA b)=some (.bool (decide (a.toNat≤b.toNat))):=by
 change some (T.bool (decide ((a.toNat:Int)≤(b.toNat:Int))))=_
 congr 2;simp
theorem zI6 {a b:UInt8}:qEq .geq (qA a) (qA b)=some (.bool (decide (a.toNat ≥ b.toNat))):=by
 change some (T.bool (decide ((a.toNat:Int) ≥ (b.toNat:Int))))=_
 congr 2;simp
theorem zDx {a b:UInt8}:qEq .xor (qA a) (qA b)=some (qA (a ^^^ b)):=by
 change some (T.int .u8 (IntKind.u8.wrap ((BitVec.ofInt 8 (a.toNat:Int) ^^^ BitVec.ofInt 8 (b.toNat:Int)).toNat:Int)))=_
 have e : ∀ x:UInt8,BitVec.ofInt 8 (x.toNat:Int)=x.toBitVec:=fun x=>BitVec.eq_of_toNat_eq (by simp)
 rw[e,e,←UInt8.toBitVec_xor,qO3]
 have:=(a ^^^ b).toNat_lt
 unfold qA
 rw[UInt8.toNat_toBitVec]
 congr 2;omega
attribute [go_sem ↓] zI5 zJa zI9 zI7 zI8 zI6 zDx
attribute [go_sem] UInt8.reduceToNat
theorem qRp {b:UInt8}:qDt .u64 [.t (qA b)] = .ret (.t (.int .u64 (b.toNat:Int)),[]):=by
 change Q.ret (V.t (.int .u64 (IntKind.u64.wrap (b.toNat:Int))),([]:Wr))=_
 have:=b.toNat_lt
 rw[qDw (by omega)]
theorem qRn {b:UInt8}:qDt .i64 [.t (qA b)] = .ret (.t (.int .i64 (b.toNat:Int)),[]):=by
 change Q.ret (V.t (.int .i64 (IntKind.i64.wrap (b.toNat:Int))),([]:Wr))=_
 have:=b.toNat_lt
 rw[xB (by omega)]
theorem zMp {a:Nat} {k':IntKind} (h:a<72057594037927936):qO7 .shl .u64 (a:Int) k' 8=some (.int .u64 ((256*a:Nat):Int)):=by
 change (if (8:Int)<0 then none else some (T.int .u64 (IntKind.u64.wrap ((a:Int)*2^min (8:Int).toNat 64))))=_
 rw[if_neg (by omega),show (a:Int)*2^min (8:Int).toNat 64=((256*a:Nat):Int) by
  rw[show min (8:Int).toNat 64=8 from rfl];omega,qDw (by omega)]
theorem or8 {a x:Nat} (hx:x<256):(256*a) ||| x=256*a+x:=by
 have:=Nat.shiftLeft_add_eq_or_of_lt (i:=8) (b:=x) (by omega) a
 rw[Nat.shiftLeft_eq] at this
 rw[Nat.mul_comm];exact this.symm
theorem zQz {a:Nat} {x:UInt8} (h:a<72057594037927936):qO7 .or .u64 ((256*a:Nat):Int) .u64 (x.toNat:Int)=some (.int .u64 ((256*a+x.toNat:Nat):Int)):=by
 have hx:=x.toNat_lt
 change some (T.int .u64 (IntKind.u64.wrap ((BitVec.ofInt 64 ((256*a:Nat):Int) ||| BitVec.ofInt 64 (x.toNat:Int)).toNat:Int)))=_
 have e:(BitVec.ofInt 64 ((256*a:Nat):Int) ||| BitVec.ofInt 64 (x.toNat:Int)).toNat=256*a+x.toNat:=by
  rw[BitVec.toNat_or,BitVec.toNat_ofInt,BitVec.toNat_ofInt,Int.emod_eq_of_lt (by omega) (by omega),Int.emod_eq_of_lt (by omega) (by omega),Int.toNat_natCast,Int.toNat_natCast,or8 (by omega)]
 rw[e,qDw (by omega)]
attribute [go_sem ↓] qRp qRn zMp zQz
theorem qEr {bs:List UInt8}:bsT bs = .sl (bs.map qA):=Eq.trans (Eq.refl _) rfl
theorem jDq {l:List (List UInt8)} {i:Nat} (h:i<l.length):l[i]?=some (l.getD i []):=by simp[List.getD,h]
theorem jDp {l:List (List (List UInt8))} {i:Nat} (h:i<l.length):l[i]?=some (l.getD i []):=by simp[List.getD,h]
theorem qWr {l:List (List UInt8)} {x:List UInt8} {r:List T}:List.map bsT l++T.sl (List.map qA x)::r=List.map bsT (l++[x])++r:=by simp[bsT]
theorem zTj {l:List (List UInt8)}:qTf 1 (l.map bsT)=true:=qS9 (f:=bsT) (fun _=>rfl)
theorem zGa {l:List (List UInt8)}:qO5 ((l.map bsT).map V.t)=true:=qR3 (f:=bsT) (fun _=>rfl)
theorem zO8 {a b:List UInt8} (h:bsT a=bsT b):a=b:=by
 have:=congrArg dBs h
 rw[bsT,bsT,qUc,qUc] at this
 exact Option.some.inj this
theorem qCz {l m:List (List UInt8)}:(l.map bsT=m.map bsT)=(l=m):=propext ⟨wB (fun _ _=>zO8),fun h=>by rw[h]⟩
theorem zIy {ts:List T} {r:List V}:qCo (ts.map .t++r)=(qCo r).map (ts ++ ·):=by
 induction ts with
 | nil=>simp[Option.map_id']
 | cons x l ih=>
  rw[List.map_cons,List.cons_append,qMh,ih,Option.map_map]
  rfl
attribute [go_sem] zIy
attribute [go_sem] qEr qWr zTj zGa
end Go.Eng
end
section
namespace Go.Eng
theorem qY9 {ts:List T} {i:Nat} {v:V} (h:i<ts.length) (hv : ∀ x,v≠ .t x):qCo ((ts.map .t).set i v)=none:=by
 induction ts generalizing i with
 | nil=>simp at h
 | cons x r ih=>
  cases i with
  | zero=>
   rw[List.map_cons,List.set_cons_zero]
   cases v with
   | t y=>exact absurd rfl (hv y)
   | _=>rfl
  | succ i=>
   rw[List.map_cons,List.set_cons_succ,qMh,ih (by simpa using h)]
   rfl
theorem qWj {ts:List T} {i id off len:Nat} (h:i<ts.length):qCo ((ts.map .t).set i (.sl id off len))=none:=qY9 h (by simp)
theorem qTg {ts:List T} {i:Nat} {cs:List V} (h:i<ts.length):qCo ((ts.map .t).set i (.agg cs))=none:=qY9 h (by simp)
theorem zRh {n:Nat} {ts:List T} {i:Nat} {v:V} (h:i<ts.length):rdL (rdV n) ((ts.map .t).set i v)=(rdV n v).bind fun x=> .ret ((ts.map .t).set i x):=by
 induction ts generalizing i with
 | nil=>simp at h
 | cons x r ih=>
  cases i with
  | zero=>rw[List.map_cons,List.set_cons_zero,qSc,zWd];rfl
  | succ i=>
   rw[List.map_cons,List.set_cons_succ,qSc,zRl,ih (by simpa using h),qLk,qB5]
   rfl
theorem zEf {n:Nat} {ts:List T}:qA8 (zE n) (ts.map .t) = .ret (ts.map .t,[]):=by
 induction ts with
 | nil=>rfl
 | cons x r ih=>rw[List.map_cons,qFg,zEg,qLk,ih,qLk];rfl
theorem zEe {n:Nat} {ts:List T} {i:Nat} {v:V} (h:i<ts.length):qA8 (zE n) ((ts.map .t).set i v)=(zE n v).bind fun p=> .ret ((ts.map .t).set i p.1,p.2):=by
 induction ts generalizing i with
 | nil=>simp at h
 | cons x r ih=>
  cases i with
  | zero=>
   rw[List.map_cons,List.set_cons_zero,qFg,zEf]
   simp[Q.bind]
  | succ i=>
   rw[List.map_cons,List.set_cons_succ,qFg,zEg,qLk,ih (by simpa using h),qB5]
   rfl
theorem zK6 {es:List V} {i:Nat} {v:V} (h:qO5 es=true) (hv:v.single=true):qO5 (es.set i v)=true:=by
 simp only[qO5,List.all_eq_true] at *
 intro x hx
 rcases List.mem_or_eq_of_mem_set hx with h1 | rfl
 ·exact h x h1
 ·exact hv
theorem qXn {l:List (List UInt8)} {i id off len:Nat}:qO5 (((l.map bsT).map V.t).set i (.sl id off len))=true:=zK6 zGa rfl
theorem zT9 {l:List (List UInt8)} {i:Nat} {x:List UInt8}:List.set (List.map bsT l) i (T.sl (List.map qA x))=List.map bsT (l.set i x):=by
 rw[List.map_set];rfl
attribute [go_sem] qWj qTg zRh zEf zEe qXn zT9
theorem kT {tab:Tab} {gl:Gl} {a:AC} {fs fs':Fs} {hs hs':Hs} {Qx:qBs} (h:qQ fs hs fs' hs') (hl:qN2 tab gl a fs' hs' Qx):qN2 tab gl a fs hs Qx:=by
 obtain⟨ι,I,μ,i0,h0,hr⟩:=hl
 exact⟨ι,I,μ,i0,h.trans h0,hr⟩
end Go.Eng
end
section
namespace Go.Eng
theorem qBq {α:Type}:(∀ (n:Nat) (l:List α),(l.take n).length=min n l.length)∧(∀ (n:Nat) (l:List α),(l.drop n).length=l.length-n)∧(∀ (l m:List α),(l++m).length=l.length+m.length)∧(∀ (a:α) (l:List α),(a::l).length=l.length+1)∧(([]:List α).length=0)∧(∀ (n:Nat) (a:α),(List.replicate n a).length=n)∧(∀ (l:List α) (n:Nat) (a:α),(l.set n a).length=l.length):=by simp
theorem qBp {α γ:Type} (f:α→γ) (l:List α):(l.map f).length=l.length:=List.length_map f
attribute [go_sem] Bool.false_eq_true Int.toNat_natCast Bool.and_self false_and and_false or_true true_or or_false false_or Bool.or_self Bool.or_true Bool.true_or Bool.or_false Bool.false_or Bool.and_false Bool.false_and not_true_eq_false not_false_eq_true and_self List.length_append List.length_set List.take_length Option.getD_some Option.getD_none false_implies implies_true Option.some.injEq forall_eq_apply_imp_iff forall_eq forall_eq' List.length_drop List.length_take List.getElem?_drop Nat.mul_one Nat.one_mul Nat.zero_add Nat.add_zero Nat.sub_zero Nat.add_sub_cancel_left Nat.add_sub_cancel jEz jE1 jE0 qUu qXh zEl zHs zMn zJ4 jDo zZi jDq jDp zVv zQm zKx zVx zQo zQq zQt zQs zQn zXd Nat.min_eq_left Nat.min_eq_right zVy zQr zQp zVw Int.cast_ofNat_Int Int.natCast_zero Int.natCast_one
variable {tab:Tab} {gl:Gl} {fs:Fs} {hs:Hs} {Qx:qBs} {fm:Nat→Option V} {nb:Nat} {K:V×Wr→List Nat→Prop}
def mv (d s:Nat):zM:=⟨some d,.op .mov,[.tmp s],none⟩
theorem jD3 {d s:Nat}:((mv d s).q tab gl fm nb).wp hs K=((⟨some d,.op .mov,[.tmp s],none⟩:zM).q tab gl fm nb).wp hs K:=Eq.trans (Eq.refl _) rfl
theorem jD2 {d s:Nat}:(mv d s).dst=some d:=Eq.trans (Eq.refl _) rfl
def mG (d s t:Nat):zM:=⟨some d,.op .mov,[.tmp s],some (t,true)⟩
theorem jDz {d s t:Nat}:((mG d s t).q tab gl fm nb).wp hs K=((⟨some d,.op .mov,[.tmp s],some (t,true)⟩:zM).q tab gl fm nb).wp hs K:=Eq.trans (Eq.refl _) rfl
theorem jDy {d s t:Nat}:(mG d s t).dst=some d:=Eq.trans (Eq.refl _) rfl
def mC (d:Nat) (v:V):zM:=⟨some d,.op .mov,[.cst v],none⟩
theorem jDv {d:Nat} {v:V}:((mC d v).q tab gl fm nb).wp hs K=((⟨some d,.op .mov,[.cst v],none⟩:zM).q tab gl fm nb).wp hs K:=Eq.trans (Eq.refl _) rfl
theorem jDu {d:Nat} {v:V}:(mC d v).dst=some d:=Eq.trans (Eq.refl _) rfl
def oO (d:Nat) (a:AO) (xs:List qCp):zM:=⟨some d,.op a,xs,none⟩
theorem jEa {d:Nat} {a:AO} {xs:List qCp}:((oO d a xs).q tab gl fm nb).wp hs K=((⟨some d,.op a,xs,none⟩:zM).q tab gl fm nb).wp hs K:=Eq.trans (Eq.refl _) rfl
theorem jD9 {d:Nat} {a:AO} {xs:List qCp}:(oO d a xs).dst=some d:=Eq.trans (Eq.refl _) rfl
def oG (d t:Nat) (a:AO) (xs:List qCp):zM:=⟨some d,.op a,xs,some (t,true)⟩
theorem jD8 {d t:Nat} {a:AO} {xs:List qCp}:((oG d t a xs).q tab gl fm nb).wp hs K=((⟨some d,.op a,xs,some (t,true)⟩:zM).q tab gl fm nb).wp hs K:=Eq.trans (Eq.refl _) rfl
theorem jD7 {d t:Nat} {a:AO} {xs:List qCp}:(oG d t a xs).dst=some d:=Eq.trans (Eq.refl _) rfl
def bT (d:Nat) (o:BinOp) (x y:Nat):zM:=⟨some d,.op (.bin o),[.tmp x,.tmp y],none⟩
theorem jDh {d:Nat} {o:BinOp} {x y:Nat}:((bT d o x y).q tab gl fm nb).wp hs K=((⟨some d,.op (.bin o),[.tmp x,.tmp y],none⟩:zM).q tab gl fm nb).wp hs K:=Eq.trans (Eq.refl _) rfl
theorem jDg {d:Nat} {o:BinOp} {x y:Nat}:(bT d o x y).dst=some d:=Eq.trans (Eq.refl _) rfl
def bN (d:Nat) (o:BinOp) (x:Nat) (n:Int):zM:=⟨some d,.op (.bin o),[.tmp x,.cst (.t (.int .i64 n))],none⟩
theorem jDf {d:Nat} {o:BinOp} {x:Nat} {n:Int}:((bN d o x n).q tab gl fm nb).wp hs K=((⟨some d,.op (.bin o),[.tmp x,.cst (.t (.int .i64 n))],none⟩:zM).q tab gl fm nb).wp hs K:=Eq.trans (Eq.refl _) rfl
theorem jDe {d:Nat} {o:BinOp} {x:Nat} {n:Int}:(bN d o x n).dst=some d:=Eq.trans (Eq.refl _) rfl
def cL (d f:Nat) (k:Bool) (xs:List qCp):zM:=⟨some d,.call f k,xs,none⟩
theorem jDn {d f:Nat} {k:Bool} {xs:List qCp}:((cL d f k xs).q tab gl fm nb).wp hs K=((⟨some d,.call f k,xs,none⟩:zM).q tab gl fm nb).wp hs K:=Eq.trans (Eq.refl _) rfl
theorem jDm {d f:Nat} {k:Bool} {xs:List qCp}:(cL d f k xs).dst=some d:=Eq.trans (Eq.refl _) rfl
def mF (d s t:Nat):zM:=⟨some d,.op .mov,[.tmp s],some (t,false)⟩
theorem jDx {d s t:Nat}:((mF d s t).q tab gl fm nb).wp hs K=((⟨some d,.op .mov,[.tmp s],some (t,false)⟩:zM).q tab gl fm nb).wp hs K:=Eq.trans (Eq.refl _) rfl
theorem jDw {d s t:Nat}:(mF d s t).dst=some d:=Eq.trans (Eq.refl _) rfl
def oF (d t:Nat) (a:AO) (xs:List qCp):zM:=⟨some d,.op a,xs,some (t,false)⟩
theorem jD6 {d t:Nat} {a:AO} {xs:List qCp}:((oF d t a xs).q tab gl fm nb).wp hs K=((⟨some d,.op a,xs,some (t,false)⟩:zM).q tab gl fm nb).wp hs K:=Eq.trans (Eq.refl _) rfl
theorem jD5 {d t:Nat} {a:AO} {xs:List qCp}:(oF d t a xs).dst=some d:=Eq.trans (Eq.refl _) rfl
def cG (d t f:Nat) (k:Bool) (xs:List qCp):zM:=⟨some d,.call f k,xs,some (t,true)⟩
theorem jDl {d t f:Nat} {k:Bool} {xs:List qCp}:((cG d t f k xs).q tab gl fm nb).wp hs K=((⟨some d,.call f k,xs,some (t,true)⟩:zM).q tab gl fm nb).wp hs K:=Eq.trans (Eq.refl _) rfl
theorem jDk {d t f:Nat} {k:Bool} {xs:List qCp}:(cG d t f k xs).dst=some d:=Eq.trans (Eq.refl _) rfl
def cF (d t f:Nat) (k:Bool) (xs:List qCp):zM:=⟨some d,.call f k,xs,some (t,false)⟩
theorem jDj {d t f:Nat} {k:Bool} {xs:List qCp}:((cF d t f k xs).q tab gl fm nb).wp hs K=((⟨some d,.call f k,xs,some (t,false)⟩:zM).q tab gl fm nb).wp hs K:=Eq.trans (Eq.refl _) rfl
theorem jDi {d t f:Nat} {k:Bool} {xs:List qCp}:(cF d t f k xs).dst=some d:=Eq.trans (Eq.refl _) rfl
attribute [go_sem ↓] jDx jD6 jDl jDj
attribute [go_sem] jDw jD5 jDk jDi
def oS (n x y:Nat):zM:=⟨none,.op (.store n),[.tmp x,.tmp y],none⟩
theorem jEc {n x y:Nat}:((oS n x y).q tab gl fm nb).wp hs K=((⟨none,.op (.store n),[.tmp x,.tmp y],none⟩:zM).q tab gl fm nb).wp hs K:=Eq.trans (Eq.refl _) rfl
theorem jEb {n x y:Nat}:(oS n x y).dst=none:=Eq.trans (Eq.refl _) rfl
def rG (nb:Nat) (os:List zM):AC:= .reg nb none os
theorem jEd {os:List zM}:(rG nb os).wp tab gl fs hs Qx=(AC.reg nb none os).wp tab gl fs hs Qx:=Eq.trans (Eq.refl _) rfl
attribute [go_sem ↓] jEd jD3 jDz jDv jEa jD8 jDh jDf jDn jEc
attribute [go_sem] jD2 jDy jDu jD9 jD7 jDg jDe jDm jEb
end Go.Eng
end
section
namespace Go.Eng
def xC:AC:=
 (.seq
 (rG 4096 [mC 2 (.t (.int .i64 0))])
 (.seq
 (.seq
 (rG 8192 [mv 3 0])
 (.block 0
 (.seq
 (rG 12288 [bN 5 .eql 3 0,mv 4 5])
 (.cond (.tmp 4)
 (.seq
 (rG 16384 [mC 2 (.t (.int .i64 20))])
 .ret)
 (.seq
 (rG 20480 [bN 7 .eql 3 1,mv 6 7])
 (.cond (.tmp 6)
 (.seq
 (rG 24576 [mC 2 (.t (.int .i64 32))])
 .ret)
 .skip))))))
 (.seq
 (rG 28672 [mC 2 (.t (.int .i64 0))])
 .ret)))
def xW:AC:=
 (.seq
 (.seq
 (rG 12288 [mv 14 3,oO 15 .len [.tmp 14],bN 16 .rem 15 64,bN 17 .neq 16 56])
 (.cond (.tmp 17)
 .skip
 (.exit 0)))
 (.block 1
 (rG 16384 [mv 18 3,oO 19 (.bslice 1 1 (.t (qA 0)) [0]) [.cst (.t (qA 0))],oO 20 (.append 1 1) [.tmp 18,.tmp 19],mv 3 20])))
def xX:AC:=
 (.seq
 (.seq
 (rG 28672 [mv 25 5,bN 26 .geq 25 0])
 (.cond (.tmp 26)
 .skip
 (.exit 2)))
 (.seq
 (.block 3
 (rG 36864 [mv 29 3,mv 30 4,mv 31 5,oO 32 (.conv .u64) [.tmp 31],bT 33 .shr 30 32,oO 34 (.conv .u8) [.tmp 33],oO 35 (.bslice 1 1 (.t (qA 0)) [0]) [.tmp 34],oO 36 (.append 1 1) [.tmp 29,.tmp 35],mv 3 36]))
 (rG 32768 [mv 27 5,bN 28 .sub 27 8,mv 5 28])))
def qHl:AC:=
 (.seq
 (rG 4096 [mC 2 .nil])
 (.seq
 (rG 8192 [mv 6 0,oO 7 .len [.tmp 6],bN 8 .add 7 72,oO 9 (.mkslice 1 1 (.t (qA 0))) [.cst (.t (.int .i64 0)),.tmp 8],mv 10 0,oO 11 (.append 1 1) [.tmp 9,.tmp 10],oO 12 (.bslice 1 1 (.t (qA 0)) [0]) [.cst (.t (qA 128))],oO 13 (.append 1 1) [.tmp 11,.tmp 12],mv 3 13])
 (.seq
 (.block 0
 (.loop xW))
 (.seq
 (rG 20480 [mv 21 0,oO 22 .len [.tmp 21],oO 23 (.conv .u64) [.tmp 22],oO 24 (.bin .mul) [.tmp 23,.cst (.t (.int .u64 8))],mv 4 24])
 (.seq
 (.seq
 (rG 24576 [mC 5 (.t (.int .i64 56))])
 (.block 2
 (.loop xX)))
 (.seq
 (rG 40960 [mv 37 3,mv 2 37])
 .ret))))))
def qFv:AC:=
 (.seq
 (rG 4096 [mC 4 (.t (qK 0))])
 (.seq
 (.reg 8192 (some [0,0,2,7,15,31,63,0,0,256,768,1920,3968,8064,16256,32767,0,0,131072,393216,983040,2031616,4128768,8323072,16777215,0,0,67108864,201326592,503316480,1040187392,2113929216,4294967295,8589934591]) [mv 5 0,mv 6 1,oO 7 (.bin .mul) [.cst (.t (.int .i64 4)),.tmp 6],oO 8 (.iaddr 1) [.tmp 5,.tmp 7],oO 9 (.load 1 false) [.tmp 8],oO 10 (.conv .u32) [.tmp 9],oO 11 (.bin .shl) [.tmp 10,.cst (.t (.int .u64 24))],mv 12 0,mv 13 1,oO 14 (.bin .mul) [.cst (.t (.int .i64 4)),.tmp 13],bN 15 .add 14 1,oO 16 (.iaddr 1) [.tmp 12,.tmp 15],oO 17 (.load 1 false) [.tmp 16],oO 18 (.conv .u32) [.tmp 17],oO 19 (.bin .shl) [.tmp 18,.cst (.t (.int .u64 16))],bT 20 .or 11 19,mv 21 0,mv 22 1,oO 23 (.bin .mul) [.cst (.t (.int .i64 4)),.tmp 22],bN 24 .add 23 2,oO 25 (.iaddr 1) [.tmp 21,.tmp 24],oO 26 (.load 1 false) [.tmp 25],oO 27 (.conv .u32) [.tmp 26],oO 28 (.bin .shl) [.tmp 27,.cst (.t (.int .u64 8))],bT 29 .or 20 28,mv 30 0,mv 31 1,oO 32 (.bin .mul) [.cst (.t (.int .i64 4)),.tmp 31],bN 33 .add 32 3,oO 34 (.iaddr 1) [.tmp 30,.tmp 33],oO 35 (.load 1 false) [.tmp 34],oO 36 (.conv .u32) [.tmp 35],bT 37 .or 29 36,mv 4 37])
 .ret))
def wN:AC:=
 (.seq
 (rG 16384 [bT 13 .lss 12 11])
 (.seq
 (.cond (.tmp 13)
 .skip
 (.exit 0))
 (.seq
 (.block 1
 (.seq
 (rG 20480 [oO 14 (.iaddr 1) [.tmp 10,.tmp 12],oO 15 (.load 1 false) [.tmp 14],mv 5 15])
 (rG 24576 [mv 16 3,mv 17 5,oO 18 (.bin .shr) [.tmp 17,.cst (.t (.int .u64 24))],oO 19 (.conv .u8) [.tmp 18],mv 20 5,oO 21 (.bin .shr) [.tmp 20,.cst (.t (.int .u64 16))],oO 22 (.conv .u8) [.tmp 21],mv 23 5,oO 24 (.bin .shr) [.tmp 23,.cst (.t (.int .u64 8))],oO 25 (.conv .u8) [.tmp 24],mv 26 5,oO 27 (.conv .u8) [.tmp 26],oO 28 (.bslice 1 4 (.t (qA 0)) [0,1,2,3]) [.tmp 19,.tmp 22,.tmp 25,.tmp 27],oO 29 (.append 1 1) [.tmp 16,.tmp 28],mv 3 29])))
 (rG 28672 [bN 30 .add 12 1,mv 12 30]))))
def qDx:AC:=
 (.seq
 (rG 4096 [mC 2 .nil])
 (.seq
 (rG 8192 [mv 6 0,oO 7 .len [.tmp 6],oO 8 (.bin .mul) [.cst (.t (.int .i64 4)),.tmp 7],oO 9 (.mkslice 1 1 (.t (qA 0))) [.cst (.t (.int .i64 0)),.tmp 8],mv 3 9])
 (.seq
 (.seq
 (rG 12288 [mv 10 0,oO 11 .len [.tmp 10],mC 12 (.t (.int .i64 0))])
 (.block 0
 (.loop wN)))
 (.seq
 (rG 32768 [mv 31 3,mv 2 31])
 .ret))))
def jS (n_digest_word n_bits_RotateLeft32:Nat):AC:=
 (.seq
 (rG 12288 [bN 18 .lss 17 64])
 (.seq
 (.cond (.tmp 18)
 .skip
 (.exit 0))
 (.seq
 (.block 1
 (.seq
 (rG 16384 [mv 19 17,mv 5 19])
 (.seq
 (.seq
 (rG 20480 [mv 20 5,bN 21 .lss 20 16])
 (.cond (.tmp 21)
 (.seq
 (rG 24576 [mv 22 5,mv 23 1,mv 24 5,cL 25 n_digest_word false [.tmp 23,.tmp 24],oO 26 (.aaddr 64 1) [.tmp 4,.tmp 22],oS 1 26 25])
 (.exit 1))
 .skip))
 (.seq
 (.reg 28672 (some [0,1,3,7,0,16,48,112,15,511]) [mv 27 5,bN 28 .sub 27 15,oO 29 (.aaddr 64 1) [.tmp 4,.tmp 28],oO 30 (.load 1 false) [.tmp 29],mv 31 5,bN 32 .sub 31 2,oO 33 (.aaddr 64 1) [.tmp 4,.tmp 32],oO 34 (.load 1 false) [.tmp 33],mv 6 30,mv 7 34])
 (.seq
 (rG 32768 [mv 35 6,cL 36 n_bits_RotateLeft32 false [.tmp 35,.cst (.t (.int .i64 (-7)))],mv 37 6,cL 38 n_bits_RotateLeft32 false [.tmp 37,.cst (.t (.int .i64 (-18)))],bT 39 .xor 36 38,mv 40 6,oO 41 (.bin .shr) [.tmp 40,.cst (.t (.int .u64 3))],bT 42 .xor 39 41,mv 8 42])
 (.seq
 (rG 36864 [mv 43 7,cL 44 n_bits_RotateLeft32 false [.tmp 43,.cst (.t (.int .i64 (-17)))],mv 45 7,cL 46 n_bits_RotateLeft32 false [.tmp 45,.cst (.t (.int .i64 (-19)))],bT 47 .xor 44 46,mv 48 7,oO 49 (.bin .shr) [.tmp 48,.cst (.t (.int .u64 10))],bT 50 .xor 47 49,mv 9 50])
 (.reg 40960 (some [0,0,0,4,12,28,62,0,254,0,512,1536,3584,8190,16383,32767]) [mv 51 5,mv 52 9,mv 53 5,bN 54 .sub 53 7,oO 55 (.aaddr 64 1) [.tmp 4,.tmp 54],oO 56 (.load 1 false) [.tmp 55],bT 57 .add 52 56,mv 58 8,bT 59 .add 57 58,mv 60 5,bN 61 .sub 60 16,oO 62 (.aaddr 64 1) [.tmp 4,.tmp 61],oO 63 (.load 1 false) [.tmp 62],bT 64 .add 59 63,oO 65 (.aaddr 64 1) [.tmp 4,.tmp 51],oS 1 65 64])))))))
 (rG 45056 [bN 66 .add 17 1,mv 17 66]))))
def yN (n_bits_RotateLeft32 g_digest_round256:Nat):AC:=
 (.seq
 (rG 57344 [bN 71 .lss 70 64])
 (.seq
 (.cond (.tmp 71)
 .skip
 (.exit 2))
 (.seq
 (.block 3
 (.seq
 (rG 61440 [mv 72 70,mv 11 72])
 (.seq
 (.reg 65536 (some [0,1,0,4,3,31]) [oO 73 (.aaddr 8 1) [.tmp 10,.cst (.t (.int .i64 0))],oO 74 (.load 1 false) [.tmp 73],oO 75 (.aaddr 8 1) [.tmp 10,.cst (.t (.int .i64 4))],oO 76 (.load 1 false) [.tmp 75],mv 12 74,mv 13 76])
 (.seq
 (.reg 69632 (some [0,1,0,4,0,28,60,0,188,508,1023,0,0,4096,14336,0,32768,0,131072,491520,1046528,2097151,0,4194304,12582912,33554431,0,67108864,201326592,536870911,1073741823]) [oO 77 (.aaddr 8 1) [.tmp 10,.cst (.t (.int .i64 7))],oO 78 (.load 1 false) [.tmp 77],mv 79 13,cL 80 n_bits_RotateLeft32 false [.tmp 79,.cst (.t (.int .i64 (-6)))],mv 81 13,cL 82 n_bits_RotateLeft32 false [.tmp 81,.cst (.t (.int .i64 (-11)))],bT 83 .xor 80 82,mv 84 13,cL 85 n_bits_RotateLeft32 false [.tmp 84,.cst (.t (.int .i64 (-25)))],bT 86 .xor 83 85,bT 87 .add 78 86,mv 88 13,oO 89 (.aaddr 8 1) [.tmp 10,.cst (.t (.int .i64 5))],oO 90 (.load 1 false) [.tmp 89],bT 91 .and 88 90,mv 92 13,oO 93 (.un .xor) [.tmp 92],oO 94 (.aaddr 8 1) [.tmp 10,.cst (.t (.int .i64 6))],oO 95 (.load 1 false) [.tmp 94],bT 96 .and 93 95,bT 97 .xor 91 96,bT 98 .add 87 97,mv 99 11,oO 100 (.aaddr 64 1) [.glob g_digest_round256,.tmp 99],oO 101 (.load 1 false) [.tmp 100],bT 102 .add 98 101,mv 103 11,oO 104 (.aaddr 64 1) [.tmp 4,.tmp 103],oO 105 (.load 1 false) [.tmp 104],bT 106 .add 102 105,mv 14 106])
 (.seq
 (.reg 73728 (some [0,1,0,7,15,0,47,127,0,0,512,1792,0,0,8192,28672,65280,0,131072,0,524288,1966080,4194048,8388607,16777215]) [mv 107 12,cL 108 n_bits_RotateLeft32 false [.tmp 107,.cst (.t (.int .i64 (-2)))],mv 109 12,cL 110 n_bits_RotateLeft32 false [.tmp 109,.cst (.t (.int .i64 (-13)))],bT 111 .xor 108 110,mv 112 12,cL 113 n_bits_RotateLeft32 false [.tmp 112,.cst (.t (.int .i64 (-22)))],bT 114 .xor 111 113,mv 115 12,oO 116 (.aaddr 8 1) [.tmp 10,.cst (.t (.int .i64 1))],oO 117 (.load 1 false) [.tmp 116],bT 118 .and 115 117,mv 119 12,oO 120 (.aaddr 8 1) [.tmp 10,.cst (.t (.int .i64 2))],oO 121 (.load 1 false) [.tmp 120],bT 122 .and 119 121,bT 123 .xor 118 122,oO 124 (.aaddr 8 1) [.tmp 10,.cst (.t (.int .i64 1))],oO 125 (.load 1 false) [.tmp 124],oO 126 (.aaddr 8 1) [.tmp 10,.cst (.t (.int .i64 2))],oO 127 (.load 1 false) [.tmp 126],bT 128 .and 125 127,bT 129 .xor 123 128,bT 130 .add 114 129,mv 15 130])
 (rG 77824 [mv 131 14,mv 132 15,bT 133 .add 131 132,oO 134 (.aaddr 8 1) [.tmp 10,.cst (.t (.int .i64 0))],oO 135 (.load 1 false) [.tmp 134],oO 136 (.aaddr 8 1) [.tmp 10,.cst (.t (.int .i64 1))],oO 137 (.load 1 false) [.tmp 136],oO 138 (.aaddr 8 1) [.tmp 10,.cst (.t (.int .i64 2))],oO 139 (.load 1 false) [.tmp 138],oO 140 (.aaddr 8 1) [.tmp 10,.cst (.t (.int .i64 3))],oO 141 (.load 1 false) [.tmp 140],mv 142 14,bT 143 .add 141 142,oO 144 (.aaddr 8 1) [.tmp 10,.cst (.t (.int .i64 4))],oO 145 (.load 1 false) [.tmp 144],oO 146 (.aaddr 8 1) [.tmp 10,.cst (.t (.int .i64 5))],oO 147 (.load 1 false) [.tmp 146],oO 148 (.aaddr 8 1) [.tmp 10,.cst (.t (.int .i64 6))],oO 149 (.load 1 false) [.tmp 148],oO 150 (.build [(.t (qK 0)),(.t (qK 0)),(.t (qK 0)),(.t (qK 0)),(.t (qK 0)),(.t (qK 0)),(.t (qK 0)),(.t (qK 0))] [(0,1),(1,1),(2,1),(3,1),(4,1),(5,1),(6,1),(7,1)]) [.tmp 133,.tmp 135,.tmp 137,.tmp 139,.tmp 143,.tmp 145,.tmp 147,.tmp 149],oS 8 10 150]))))))
 (rG 81920 [bN 151 .add 70 1,mv 70 151]))))
def yO:AC:=
 (.seq
 (rG 90112 [bN 153 .lss 152 8])
 (.seq
 (.cond (.tmp 153)
 .skip
 (.exit 4))
 (.seq
 (.block 5
 (.seq
 (rG 94208 [mv 154 152,mv 16 154])
 (.reg 98304 (some [0,0,1,7,15,0,32,96,255,1,1023,2047]) [mv 155 0,mv 156 16,oO 157 .nilchk [.tmp 155],oO 158 (.aaddr 8 1) [.tmp 157,.tmp 156],oO 159 (.load 1 false) [.tmp 158],mv 160 16,oO 161 (.aaddr 8 1) [.tmp 10,.tmp 160],oO 162 (.load 1 false) [.tmp 161],bT 163 .add 159 162,oO 164 .nilchk [.tmp 155],oO 165 (.aaddr 8 1) [.tmp 164,.tmp 156],oS 1 165 163])))
 (rG 102400 [bN 166 .add 152 1,mv 152 166]))))
def xH (n_digest_word n_bits_RotateLeft32 g_digest_round256:Nat):AC:=
 (.seq
 (rG 4096 [oO 4 (.new 1 (List.replicate 64 (.t (qK 0)))) []])
 (.seq
 (.seq
 (rG 8192 [mC 17 (.t (.int .i64 0))])
 (.block 0
 (.loop (jS n_digest_word n_bits_RotateLeft32))))
 (.seq
 (rG 49152 [mv 67 0,oO 68 .nilchk [.tmp 67],oO 69 (.load 8 true) [.tmp 68],oO 10 (.new 1 [(.t (qK 0)),(.t (qK 0)),(.t (qK 0)),(.t (qK 0)),(.t (qK 0)),(.t (qK 0)),(.t (qK 0)),(.t (qK 0))]) [],oS 8 10 69])
 (.seq
 (.seq
 (rG 53248 [mC 70 (.t (.int .i64 0))])
 (.block 2
 (.loop (yN n_bits_RotateLeft32 g_digest_round256))))
 (.seq
 (rG 86016 [mC 152 (.t (.int .i64 0))])
 (.block 4
 (.loop yO)))))))
def yG (n_digest_word n_bits_RotateLeft32:Nat):AC:=
 (.seq
 (rG 12288 [bN 15 .lss 14 80])
 (.seq
 (.cond (.tmp 15)
 .skip
 (.exit 0))
 (.seq
 (.block 1
 (.seq
 (rG 16384 [mv 16 14,mv 5 16])
 (.seq
 (rG 20480 [mv 17 5,bN 18 .lss 17 16])
 (.cond (.tmp 18)
 (rG 24576 [mv 19 5,mv 20 1,mv 21 5,cL 22 n_digest_word false [.tmp 20,.tmp 21],oO 23 (.aaddr 80 1) [.tmp 4,.tmp 19],oS 1 23 22])
 (.reg 28672 (some [0,0,2,6,14,0,32,96,224,510,0,1024,3072,7168,16382,0,32768,98304,229376,524286,1048574,2097151,4194303]) [mv 24 5,mv 25 5,bN 26 .sub 25 3,oO 27 (.aaddr 80 1) [.tmp 4,.tmp 26],oO 28 (.load 1 false) [.tmp 27],mv 29 5,bN 30 .sub 29 8,oO 31 (.aaddr 80 1) [.tmp 4,.tmp 30],oO 32 (.load 1 false) [.tmp 31],bT 33 .xor 28 32,mv 34 5,bN 35 .sub 34 14,oO 36 (.aaddr 80 1) [.tmp 4,.tmp 35],oO 37 (.load 1 false) [.tmp 36],bT 38 .xor 33 37,mv 39 5,bN 40 .sub 39 16,oO 41 (.aaddr 80 1) [.tmp 4,.tmp 40],oO 42 (.load 1 false) [.tmp 41],bT 43 .xor 38 42,cL 44 n_bits_RotateLeft32 false [.tmp 43,.cst (.t (.int .i64 1))],oO 45 (.aaddr 80 1) [.tmp 4,.tmp 24],oS 1 45 44])))))
 (rG 32768 [bN 46 .add 14 1,mv 14 46]))))
def zV (n_bits_RotateLeft32:Nat):AC:=
 (.seq
 (rG 45056 [bN 68 .lss 67 80])
 (.seq
 (.cond (.tmp 68)
 .skip
 (.exit 2))
 (.seq
 (.block 3
 (.seq
 (rG 49152 [mv 69 67,mv 11 69])
 (.seq
 (rG 53248 [mC 12 (.t (qK 0)),mC 13 (.t (qK 0))])
 (.seq
 (.seq
 (rG 57344 [mv 70 11,bN 71 .quo 70 20])
 (.block 4
 (.seq
 (rG 65536 [bN 78 .eql 71 0,mv 77 78])
 (.cond (.tmp 77)
 (rG 69632 [mv 79 7,mv 80 8,bT 81 .and 79 80,mv 82 7,oO 83 (.un .xor) [.tmp 82],mv 84 9,bT 85 .and 83 84,bT 86 .xor 81 85,mv 12 86,mC 13 (.t (qK 1518500249))])
 (.seq
 (rG 73728 [bN 88 .eql 71 1,mv 87 88])
 (.cond (.tmp 87)
 (rG 77824 [mv 89 7,mv 90 8,bT 91 .xor 89 90,mv 92 9,bT 93 .xor 91 92,mv 12 93,mC 13 (.t (qK 1859775393))])
 (.seq
 (rG 81920 [bN 95 .eql 71 2,mv 94 95])
 (.cond (.tmp 94)
 (rG 86016 [mv 96 7,mv 97 8,bT 98 .and 96 97,mv 99 7,mv 100 9,bT 101 .and 99 100,bT 102 .xor 98 101,mv 103 8,mv 104 9,bT 105 .and 103 104,bT 106 .xor 102 105,mv 12 106,mC 13 (.t (qK 2400959708))])
 (rG 61440 [mv 72 7,mv 73 8,bT 74 .xor 72 73,mv 75 9,bT 76 .xor 74 75,mv 12 76,mC 13 (.t (qK 3395469782))])))))))))
 (.reg 90112 (some [0,1,0,7,0,31,0,127,0,256,768,2047,0,0,8195,0,0,131071,262143,524287,1048575,2097151]) [mv 107 6,cL 108 n_bits_RotateLeft32 false [.tmp 107,.cst (.t (.int .i64 5))],mv 109 12,bT 110 .add 108 109,mv 111 10,bT 112 .add 110 111,mv 113 13,bT 114 .add 112 113,mv 115 11,oO 116 (.aaddr 80 1) [.tmp 4,.tmp 115],oO 117 (.load 1 false) [.tmp 116],bT 118 .add 114 117,mv 119 6,mv 120 7,cL 121 n_bits_RotateLeft32 false [.tmp 120,.cst (.t (.int .i64 30))],mv 122 8,mv 123 9,mv 6 118,mv 7 119,mv 8 121,mv 9 122,mv 10 123])))))
 (rG 94208 [bN 124 .add 67 1,mv 67 124]))))
def wM (n_digest_word n_bits_RotateLeft32:Nat):AC:=
 (.seq
 (rG 4096 [oO 4 (.new 1 (List.replicate 80 (.t (qK 0)))) []])
 (.seq
 (.seq
 (rG 8192 [mC 14 (.t (.int .i64 0))])
 (.block 0
 (.loop (yG n_digest_word n_bits_RotateLeft32))))
 (.seq
 (.reg 36864 (some [0,1,3,7,0,16,48,112,0,256,768,1792,0,4096,12288,28672,0,65536,196608,458752,15,1048831,3149823,7405567,16777215]) [mv 47 0,oO 48 .nilchk [.tmp 47],oO 49 (.aaddr 5 1) [.tmp 48,.cst (.t (.int .i64 0))],oO 50 (.load 1 false) [.tmp 49],mv 51 0,oO 52 .nilchk [.tmp 51],oO 53 (.aaddr 5 1) [.tmp 52,.cst (.t (.int .i64 1))],oO 54 (.load 1 false) [.tmp 53],mv 55 0,oO 56 .nilchk [.tmp 55],oO 57 (.aaddr 5 1) [.tmp 56,.cst (.t (.int .i64 2))],oO 58 (.load 1 false) [.tmp 57],mv 59 0,oO 60 .nilchk [.tmp 59],oO 61 (.aaddr 5 1) [.tmp 60,.cst (.t (.int .i64 3))],oO 62 (.load 1 false) [.tmp 61],mv 63 0,oO 64 .nilchk [.tmp 63],oO 65 (.aaddr 5 1) [.tmp 64,.cst (.t (.int .i64 4))],oO 66 (.load 1 false) [.tmp 65],mv 6 50,mv 7 54,mv 8 58,mv 9 62,mv 10 66])
 (.seq
 (.seq
 (rG 40960 [mC 67 (.t (.int .i64 0))])
 (.block 2
 (.loop (zV n_bits_RotateLeft32))))
 (.seq
 (.reg 98304 (some [0,1,3,7,0,31,1,127,255]) [mv 125 0,oO 126 .nilchk [.tmp 125],oO 127 (.aaddr 5 1) [.tmp 126,.cst (.t (.int .i64 0))],oO 128 (.load 1 false) [.tmp 127],mv 129 6,bT 130 .add 128 129,oO 131 .nilchk [.tmp 125],oO 132 (.aaddr 5 1) [.tmp 131,.cst (.t (.int .i64 0))],oS 1 132 130])
 (.seq
 (.reg 102400 (some [0,1,3,7,0,31,1,127,255]) [mv 133 0,oO 134 .nilchk [.tmp 133],oO 135 (.aaddr 5 1) [.tmp 134,.cst (.t (.int .i64 1))],oO 136 (.load 1 false) [.tmp 135],mv 137 7,bT 138 .add 136 137,oO 139 .nilchk [.tmp 133],oO 140 (.aaddr 5 1) [.tmp 139,.cst (.t (.int .i64 1))],oS 1 140 138])
 (.seq
 (.reg 106496 (some [0,1,3,7,0,31,1,127,255]) [mv 141 0,oO 142 .nilchk [.tmp 141],oO 143 (.aaddr 5 1) [.tmp 142,.cst (.t (.int .i64 2))],oO 144 (.load 1 false) [.tmp 143],mv 145 8,bT 146 .add 144 145,oO 147 .nilchk [.tmp 141],oO 148 (.aaddr 5 1) [.tmp 147,.cst (.t (.int .i64 2))],oS 1 148 146])
 (.seq
 (.reg 110592 (some [0,1,3,7,0,31,1,127,255]) [mv 149 0,oO 150 .nilchk [.tmp 149],oO 151 (.aaddr 5 1) [.tmp 150,.cst (.t (.int .i64 3))],oO 152 (.load 1 false) [.tmp 151],mv 153 9,bT 154 .add 152 153,oO 155 .nilchk [.tmp 149],oO 156 (.aaddr 5 1) [.tmp 155,.cst (.t (.int .i64 3))],oS 1 156 154])
 (.reg 114688 (some [0,1,3,7,0,31,1,127,255]) [mv 157 0,oO 158 .nilchk [.tmp 157],oO 159 (.aaddr 5 1) [.tmp 158,.cst (.t (.int .i64 4))],oO 160 (.load 1 false) [.tmp 159],mv 161 10,bT 162 .add 160 161,oO 163 .nilchk [.tmp 157],oO 164 (.aaddr 5 1) [.tmp 163,.cst (.t (.int .i64 4))],oS 1 164 162])))))))))
def xU (n_digest_compress1:Nat):AC:=
 (.seq
 (.seq
 (rG 24576 [mv 15 6,oO 16 .len [.tmp 15],bN 17 .gtr 16 0])
 (.cond (.tmp 17)
 .skip
 (.exit 1)))
 (.seq
 (.block 2
 (rG 32768 [mv 20 6,oO 21 (.slice 1 false true false) [.tmp 20,.cst (.t (.int .i64 64))],cL 22 n_digest_compress1 false [.tmp 5,.tmp 21]]))
 (rG 28672 [mv 18 6,oO 19 (.slice 1 true false false) [.tmp 18,.cst (.t (.int .i64 64))],mv 6 19])))
def xV (n_digest_compress256:Nat):AC:=
 (.seq
 (.seq
 (rG 53248 [mv 30 8,oO 31 .len [.tmp 30],bN 32 .gtr 31 0])
 (.cond (.tmp 32)
 .skip
 (.exit 3)))
 (.seq
 (.block 4
 (rG 61440 [mv 35 8,oO 36 (.slice 1 false true false) [.tmp 35,.cst (.t (.int .i64 64))],cL 37 n_digest_compress256 false [.tmp 7,.tmp 36]]))
 (rG 57344 [mv 33 8,oO 34 (.slice 1 true false false) [.tmp 33,.cst (.t (.int .i64 64))],mv 8 34])))
def wW (n_digest_pad n_digest_compress1 n_digest_spread n_digest_compress256:Nat):AC:=
 (.seq
 (rG 4096 [mC 4 .nil])
 (.seq
 (.seq
 (rG 8192 [mv 9 0])
 (.block 0
 (.seq
 (rG 12288 [bN 11 .eql 9 0,mv 10 11])
 (.cond (.tmp 10)
 (.seq
 (rG 16384 [oO 12 (.build [(.t (qK 0)),(.t (qK 0)),(.t (qK 0)),(.t (qK 0)),(.t (qK 0))] [(0,1),(1,1),(2,1),(3,1),(4,1)]) [.cst (.t (qK 1732584193)),.cst (.t (qK 4023233417)),.cst (.t (qK 2562383102)),.cst (.t (qK 271733878)),.cst (.t (qK 3285377520))],oO 5 (.new 1 [(.t (qK 0)),(.t (qK 0)),(.t (qK 0)),(.t (qK 0)),(.t (qK 0))]) [],oS 5 5 12])
 (.seq
 (.seq
 (rG 20480 [mv 13 1,cL 14 n_digest_pad false [.tmp 13],mv 6 14])
 (.block 1
 (.loop (xU n_digest_compress1))))
 (.seq
 (rG 36864 [oO 23 (.aslice 5 1 false false false) [.tmp 5],cL 24 n_digest_spread false [.tmp 23],mv 4 24])
 .ret)))
 (.seq
 (rG 40960 [bN 26 .eql 9 1,mv 25 26])
 (.cond (.tmp 25)
 (.seq
 (rG 45056 [oO 27 (.build [(.t (qK 0)),(.t (qK 0)),(.t (qK 0)),(.t (qK 0)),(.t (qK 0)),(.t (qK 0)),(.t (qK 0)),(.t (qK 0))] [(0,1),(1,1),(2,1),(3,1),(4,1),(5,1),(6,1),(7,1)]) [.cst (.t (qK 1779033703)),.cst (.t (qK 3144134277)),.cst (.t (qK 1013904242)),.cst (.t (qK 2773480762)),.cst (.t (qK 1359893119)),.cst (.t (qK 2600822924)),.cst (.t (qK 528734635)),.cst (.t (qK 1541459225))],oO 7 (.new 1 [(.t (qK 0)),(.t (qK 0)),(.t (qK 0)),(.t (qK 0)),(.t (qK 0)),(.t (qK 0)),(.t (qK 0)),(.t (qK 0))]) [],oS 8 7 27])
 (.seq
 (.seq
 (rG 49152 [mv 28 1,cL 29 n_digest_pad false [.tmp 28],mv 8 29])
 (.block 3
 (.loop (xV n_digest_compress256))))
 (.seq
 (rG 65536 [oO 38 (.aslice 8 1 false false false) [.tmp 7],cL 39 n_digest_spread false [.tmp 38],mv 4 39])
 .ret)))
 .skip))))))
 (.seq
 (rG 69632 [mC 4 .nil])
 .ret)))
def wV:AC:=
 (.seq
 (rG 16384 [bT 15 .lss 14 13])
 (.seq
 (.cond (.tmp 15)
 .skip
 (.exit 0))
 (.seq
 (.block 1
 (.seq
 (rG 20480 [oO 16 (.iaddr 1) [.tmp 12,.tmp 14],oO 17 (.load 1 false) [.tmp 16],mv 7 17])
 (.seq
 (rG 24576 [mv 18 7,oO 19 .len [.tmp 18],oO 20 (.conv .u32) [.tmp 19],mv 8 20])
 (.seq
 (rG 28672 [mv 21 5,mv 22 8,oO 23 (.bin .shr) [.tmp 22,.cst (.t (.int .u64 24))],oO 24 (.conv .u8) [.tmp 23],mv 25 8,oO 26 (.bin .shr) [.tmp 25,.cst (.t (.int .u64 16))],oO 27 (.conv .u8) [.tmp 26],mv 28 8,oO 29 (.bin .shr) [.tmp 28,.cst (.t (.int .u64 8))],oO 30 (.conv .u8) [.tmp 29],mv 31 8,oO 32 (.conv .u8) [.tmp 31],oO 33 (.bslice 1 4 (.t (qA 0)) [0,1,2,3]) [.tmp 24,.tmp 27,.tmp 30,.tmp 32],oO 34 (.append 1 1) [.tmp 21,.tmp 33],mv 5 34])
 (rG 32768 [mv 35 5,mv 36 7,oO 37 (.append 1 1) [.tmp 35,.tmp 36],mv 5 37])))))
 (rG 36864 [bN 38 .add 14 1,mv 14 38]))))
def qEf:AC:=
 (.seq
 (rG 4096 [mC 4 .nil])
 (.seq
 (rG 8192 [mv 9 0,oO 10 (.conv .u8) [.tmp 9],oO 11 (.bslice 1 1 (.t (qA 0)) [0]) [.tmp 10],mv 5 11])
 (.seq
 (.seq
 (rG 12288 [mv 12 1,oO 13 .len [.tmp 12],mC 14 (.t (.int .i64 0))])
 (.block 0
 (.loop wV)))
 (.seq
 (rG 40960 [mv 39 5,mv 4 39])
 .ret))))
def qFu (n_digest_Frame n_digest_Sum:Nat):AC:=
 (.seq
 (rG 4096 [mC 4 .nil])
 (.seq
 (rG 8192 [mv 5 0,mv 6 1,cL 7 n_digest_Frame false [.tmp 5,.tmp 6],cL 8 n_digest_Sum false [.cst (.t (.int .i64 1)),.tmp 7],mv 4 8])
 .ret))
def qAi:AC:=
 (.seq
 (rG 4096 [mC 4 (.t (qK 0))])
 (.seq
 (rG 8192 [mv 6 1,oO 7 (.conv .u64) [.tmp 6],oO 8 (.bin .and) [.tmp 7,.cst (.t (.int .u64 31))],mv 5 8])
 (.seq
 (rG 12288 [mv 9 0,mv 10 5,bT 11 .shl 9 10,mv 12 0,mv 13 5,oO 14 (.bin .sub) [.cst (.t (.int .u64 32)),.tmp 13],bT 15 .shr 12 14,bT 16 .or 11 15,mv 4 16])
 .ret)))
def qJ9:AC:=
 (.seq
 (rG 4096 [mC 4 (.t (qK 0))])
 (.seq
 (rG 8192 [mv 5 0,mv 6 1,bT 7 .shr 5 6,mv 8 0,mv 9 1,oO 10 (.bin .sub) [.cst (.t (.int .u64 32)),.tmp 9],bT 11 .shl 8 10,bT 12 .or 7 11,mv 4 12])
 .ret))
def qCr:AC:=
 (.seq
 (rG 4096 [oO 0 (.new 1 (List.replicate 64 (.t (qK 0)))) []])
 (.seq
 (rG 8192 [oO 1 (.build (List.replicate 64 (.t (qK 0))) [(0,1),(1,1),(2,1),(3,1),(4,1),(5,1),(6,1),(7,1),(8,1),(9,1),(10,1),(11,1),(12,1),(13,1),(14,1),(15,1),(16,1),(17,1),(18,1),(19,1),(20,1),(21,1),(22,1),(23,1),(24,1),(25,1),(26,1),(27,1),(28,1),(29,1),(30,1),(31,1),(32,1),(33,1),(34,1),(35,1),(36,1),(37,1),(38,1),(39,1),(40,1),(41,1),(42,1),(43,1),(44,1),(45,1),(46,1),(47,1),(48,1),(49,1),(50,1),(51,1),(52,1),(53,1),(54,1),(55,1),(56,1),(57,1),(58,1),(59,1),(60,1),(61,1),(62,1),(63,1)]) [.cst (.t (qK 1116352408)),.cst (.t (qK 1899447441)),.cst (.t (qK 3049323471)),.cst (.t (qK 3921009573)),.cst (.t (qK 961987163)),.cst (.t (qK 1508970993)),.cst (.t (qK 2453635748)),.cst (.t (qK 2870763221)),.cst (.t (qK 3624381080)),.cst (.t (qK 310598401)),.cst (.t (qK 607225278)),.cst (.t (qK 1426881987)),.cst (.t (qK 1925078388)),.cst (.t (qK 2162078206)),.cst (.t (qK 2614888103)),.cst (.t (qK 3248222580)),.cst (.t (qK 3835390401)),.cst (.t (qK 4022224774)),.cst (.t (qK 264347078)),.cst (.t (qK 604807628)),.cst (.t (qK 770255983)),.cst (.t (qK 1249150122)),.cst (.t (qK 1555081692)),.cst (.t (qK 1996064986)),.cst (.t (qK 2554220882)),.cst (.t (qK 2821834349)),.cst (.t (qK 2952996808)),.cst (.t (qK 3210313671)),.cst (.t (qK 3336571891)),.cst (.t (qK 3584528711)),.cst (.t (qK 113926993)),.cst (.t (qK 338241895)),.cst (.t (qK 666307205)),.cst (.t (qK 773529912)),.cst (.t (qK 1294757372)),.cst (.t (qK 1396182291)),.cst (.t (qK 1695183700)),.cst (.t (qK 1986661051)),.cst (.t (qK 2177026350)),.cst (.t (qK 2456956037)),.cst (.t (qK 2730485921)),.cst (.t (qK 2820302411)),.cst (.t (qK 3259730800)),.cst (.t (qK 3345764771)),.cst (.t (qK 3516065817)),.cst (.t (qK 3600352804)),.cst (.t (qK 4094571909)),.cst (.t (qK 275423344)),.cst (.t (qK 430227734)),.cst (.t (qK 506948616)),.cst (.t (qK 659060556)),.cst (.t (qK 883997877)),.cst (.t (qK 958139571)),.cst (.t (qK 1322822218)),.cst (.t (qK 1537002063)),.cst (.t (qK 1747873779)),.cst (.t (qK 1955562222)),.cst (.t (qK 2024104815)),.cst (.t (qK 2227730452)),.cst (.t (qK 2361852424)),.cst (.t (qK 2428436474)),.cst (.t (qK 2756734187)),.cst (.t (qK 3204031479)),.cst (.t (qK 3329325298))],oS 64 0 1])
 .ret))
def qCd:AC:=
 (.seq
 (.seq
 (rG 12288 [mv 11 3,oO 12 .len [.tmp 11],bN 13 .rem 12 64,bN 14 .neq 13 56])
 (.cond (.tmp 14)
 .skip
 (.exit 0)))
 (.block 1
 (rG 16384 [mv 15 3,oO 16 (.bslice 1 1 (.t (qA 0)) [0]) [.cst (.t (qA 0))],oO 17 (.append 1 1) [.tmp 15,.tmp 16],mv 3 17])))
def qCe:AC:=
 (.seq
 (.seq
 (rG 28672 [mv 22 5,bN 23 .geq 22 0])
 (.cond (.tmp 23)
 .skip
 (.exit 2)))
 (.seq
 (.block 3
 (rG 36864 [mv 26 3,mv 27 4,mv 28 5,oO 29 (.conv .u64) [.tmp 28],oO 30 (.bin .mul) [.cst (.t (.int .u64 8)),.tmp 29],bT 31 .shr 27 30,oO 32 (.conv .u8) [.tmp 31],oO 33 (.bslice 1 1 (.t (qA 0)) [0]) [.tmp 32],oO 34 (.append 1 1) [.tmp 26,.tmp 33],mv 3 34]))
 (rG 32768 [mv 24 5,bN 25 .sub 24 1,mv 5 25])))
def qMa:AC:=
 (.seq
 (rG 4096 [mC 2 .nil])
 (.seq
 (rG 8192 [oO 6 (.bslice 1 0 (.t (qA 0)) []) [],mv 7 0,oO 8 (.append 1 1) [.tmp 6,.tmp 7],oO 9 (.bslice 1 1 (.t (qA 0)) [0]) [.cst (.t (qA 128))],oO 10 (.append 1 1) [.tmp 8,.tmp 9],mv 3 10])
 (.seq
 (.block 0
 (.loop qCd))
 (.seq
 (rG 20480 [mv 18 0,oO 19 .len [.tmp 18],oO 20 (.conv .u64) [.tmp 19],oO 21 (.bin .mul) [.tmp 20,.cst (.t (.int .u64 8))],mv 4 21])
 (.seq
 (.seq
 (rG 24576 [mC 5 (.t (.int .i64 7))])
 (.block 2
 (.loop qCe)))
 (.seq
 (rG 40960 [mv 35 3,mv 2 35])
 .ret))))))
def qKa:AC:=
 (.seq
 (rG 4096 [mC 4 (.t (qK 0))])
 (.seq
 (.reg 8192 (some [0,0,2,7,15,31,63,0,0,256,768,1920,3968,8064,16256,32767,0,0,131072,393216,983040,2031616,4128768,8323072,16777215,0,0,67108864,201326592,503316480,1040187392,2113929216,4294967295,8589934591]) [mv 5 0,mv 6 1,oO 7 (.bin .mul) [.cst (.t (.int .i64 4)),.tmp 6],oO 8 (.iaddr 1) [.tmp 5,.tmp 7],oO 9 (.load 1 false) [.tmp 8],oO 10 (.conv .u32) [.tmp 9],oO 11 (.bin .shl) [.tmp 10,.cst (.t (.int .u64 24))],mv 12 0,mv 13 1,oO 14 (.bin .mul) [.cst (.t (.int .i64 4)),.tmp 13],bN 15 .add 14 1,oO 16 (.iaddr 1) [.tmp 12,.tmp 15],oO 17 (.load 1 false) [.tmp 16],oO 18 (.conv .u32) [.tmp 17],oO 19 (.bin .shl) [.tmp 18,.cst (.t (.int .u64 16))],bT 20 .or 11 19,mv 21 0,mv 22 1,oO 23 (.bin .mul) [.cst (.t (.int .i64 4)),.tmp 22],bN 24 .add 23 2,oO 25 (.iaddr 1) [.tmp 21,.tmp 24],oO 26 (.load 1 false) [.tmp 25],oO 27 (.conv .u32) [.tmp 26],oO 28 (.bin .shl) [.tmp 27,.cst (.t (.int .u64 8))],bT 29 .or 20 28,mv 30 0,mv 31 1,oO 32 (.bin .mul) [.cst (.t (.int .i64 4)),.tmp 31],bN 33 .add 32 3,oO 34 (.iaddr 1) [.tmp 30,.tmp 33],oO 35 (.load 1 false) [.tmp 34],oO 36 (.conv .u32) [.tmp 35],bT 37 .or 29 36,mv 4 37])
 .ret))
def qAc:AC:=
 (.seq
 (.seq
 (rG 16384 [mv 5 4,mv 6 0,oO 7 .len [.tmp 6],bT 8 .lss 5 7])
 (.cond (.tmp 8)
 .skip
 (.exit 0)))
 (.seq
 (.block 1
 (.reg 24576 (some [0,0,0,6,14,30,62,0,0,384,896,1920,3968,0,0,24576,57344,122880,253952,0,0,1572864,3670016,7864320,16777214,33554431,67108863]) [mv 11 3,mv 12 0,mv 13 4,oO 14 (.iaddr 1) [.tmp 12,.tmp 13],oO 15 (.load 1 false) [.tmp 14],oO 16 (.bin .shr) [.tmp 15,.cst (.t (.int .u64 24))],oO 17 (.conv .u8) [.tmp 16],mv 18 0,mv 19 4,oO 20 (.iaddr 1) [.tmp 18,.tmp 19],oO 21 (.load 1 false) [.tmp 20],oO 22 (.bin .shr) [.tmp 21,.cst (.t (.int .u64 16))],oO 23 (.conv .u8) [.tmp 22],mv 24 0,mv 25 4,oO 26 (.iaddr 1) [.tmp 24,.tmp 25],oO 27 (.load 1 false) [.tmp 26],oO 28 (.bin .shr) [.tmp 27,.cst (.t (.int .u64 8))],oO 29 (.conv .u8) [.tmp 28],mv 30 0,mv 31 4,oO 32 (.iaddr 1) [.tmp 30,.tmp 31],oO 33 (.load 1 false) [.tmp 32],oO 34 (.conv .u8) [.tmp 33],oO 35 (.bslice 1 4 (.t (qA 0)) [0,1,2,3]) [.tmp 17,.tmp 23,.tmp 29,.tmp 34],oO 36 (.append 1 1) [.tmp 11,.tmp 35],mv 3 36]))
 (rG 20480 [mv 9 4,bN 10 .add 9 1,mv 4 10])))
def qHs:AC:=
 (.seq
 (rG 4096 [mC 2 .nil])
 (.seq
 (rG 8192 [mC 3 .nil])
 (.seq
 (.seq
 (rG 12288 [mC 4 (.t (.int .i64 0))])
 (.block 0
 (.loop qAc)))
 (.seq
 (rG 28672 [mv 37 3,mv 2 37])
 .ret))))
def vV (n_ref1_word n_ref1_rotr:Nat):AC:=
 (.seq
 (.seq
 (rG 40960 [mv 28 8,bN 29 .lss 28 64])
 (.cond (.tmp 29)
 .skip
 (.exit 2)))
 (.seq
 (.block 3
 (.seq
 (.seq
 (rG 49152 [mv 32 8,bN 33 .lss 32 16])
 (.cond (.tmp 33)
 (.seq
 (rG 53248 [mv 34 8,mv 35 5,mv 36 6,mv 37 6,bN 38 .add 37 64,oO 39 (.slice 1 true true false) [.tmp 35,.tmp 36,.tmp 38],mv 40 8,cL 41 n_ref1_word false [.tmp 39,.tmp 40],oO 42 (.aaddr 64 1) [.tmp 7,.tmp 34],oS 1 42 41])
 (.exit 3))
 .skip))
 (.seq
 (.reg 57344 (some [0,1,3,7,15,0,32,96,224,511,1023,0,2048,6144,14336,30720,65535,131071]) [mv 43 8,bN 44 .sub 43 15,oO 45 (.aaddr 64 1) [.tmp 7,.tmp 44],oO 46 (.load 1 false) [.tmp 45],cL 47 n_ref1_rotr false [.tmp 46,.cst (.t (.int .u64 7))],mv 48 8,bN 49 .sub 48 15,oO 50 (.aaddr 64 1) [.tmp 7,.tmp 49],oO 51 (.load 1 false) [.tmp 50],cL 52 n_ref1_rotr false [.tmp 51,.cst (.t (.int .u64 18))],bT 53 .xor 47 52,mv 54 8,bN 55 .sub 54 15,oO 56 (.aaddr 64 1) [.tmp 7,.tmp 55],oO 57 (.load 1 false) [.tmp 56],oO 58 (.bin .shr) [.tmp 57,.cst (.t (.int .u64 3))],bT 59 .xor 53 58,mv 9 59])
 (.seq
 (.reg 61440 (some [0,1,3,7,15,0,32,96,224,511,1023,0,2048,6144,14336,30720,65535,131071]) [mv 60 8,bN 61 .sub 60 2,oO 62 (.aaddr 64 1) [.tmp 7,.tmp 61],oO 63 (.load 1 false) [.tmp 62],cL 64 n_ref1_rotr false [.tmp 63,.cst (.t (.int .u64 17))],mv 65 8,bN 66 .sub 65 2,oO 67 (.aaddr 64 1) [.tmp 7,.tmp 66],oO 68 (.load 1 false) [.tmp 67],cL 69 n_ref1_rotr false [.tmp 68,.cst (.t (.int .u64 19))],bT 70 .xor 64 69,mv 71 8,bN 72 .sub 71 2,oO 73 (.aaddr 64 1) [.tmp 7,.tmp 72],oO 74 (.load 1 false) [.tmp 73],oO 75 (.bin .shr) [.tmp 74,.cst (.t (.int .u64 10))],bT 76 .xor 70 75,mv 10 76])
 (.reg 65536 (some [0,0,0,4,12,28,62,0,254,0,512,1536,3584,8190,16383,32767]) [mv 77 8,mv 78 10,mv 79 8,bN 80 .sub 79 7,oO 81 (.aaddr 64 1) [.tmp 7,.tmp 80],oO 82 (.load 1 false) [.tmp 81],bT 83 .add 78 82,mv 84 9,bT 85 .add 83 84,mv 86 8,bN 87 .sub 86 16,oO 88 (.aaddr 64 1) [.tmp 7,.tmp 87],oO 89 (.load 1 false) [.tmp 88],bT 90 .add 85 89,oO 91 (.aaddr 64 1) [.tmp 7,.tmp 77],oS 1 91 90])))))
 (rG 45056 [mv 30 8,bN 31 .add 30 1,mv 8 31])))
def kL (n_ref1_rotr:Nat):AC:=
 (.seq
 (.seq
 (rG 77824 [mv 95 12,bN 96 .lss 95 64])
 (.cond (.tmp 96)
 .skip
 (.exit 4)))
 (.seq
 (.block 5
 (.seq
 (.reg 86016 (some [0,1,3,0,8,24,7,127]) [mv 99 11,oO 100 (.iaddr 1) [.tmp 99,.cst (.t (.int .i64 0))],oO 101 (.load 1 false) [.tmp 100],mv 102 11,oO 103 (.iaddr 1) [.tmp 102,.cst (.t (.int .i64 4))],oO 104 (.load 1 false) [.tmp 103],mv 13 101,mv 14 104])
 (.seq
 (.reg 90112 (some [0,1,3,0,8,0,56,120,0,376,1016,2047,0,0,8192,24576,61440,0,131072,0,524288,1572864,4063232,8384512,16777215,0,33554432,100663296,268435455,0,536870912,1610612736,4294967295,8589934591]) [mv 105 11,oO 106 (.iaddr 1) [.tmp 105,.cst (.t (.int .i64 7))],oO 107 (.load 1 false) [.tmp 106],mv 108 14,cL 109 n_ref1_rotr false [.tmp 108,.cst (.t (.int .u64 6))],mv 110 14,cL 111 n_ref1_rotr false [.tmp 110,.cst (.t (.int .u64 11))],bT 112 .xor 109 111,mv 113 14,cL 114 n_ref1_rotr false [.tmp 113,.cst (.t (.int .u64 25))],bT 115 .xor 112 114,bT 116 .add 107 115,mv 117 14,mv 118 11,oO 119 (.iaddr 1) [.tmp 118,.cst (.t (.int .i64 5))],oO 120 (.load 1 false) [.tmp 119],bT 121 .and 117 120,mv 122 14,oO 123 (.un .xor) [.tmp 122],mv 124 11,oO 125 (.iaddr 1) [.tmp 124,.cst (.t (.int .i64 6))],oO 126 (.load 1 false) [.tmp 125],bT 127 .and 123 126,bT 128 .xor 121 127,bT 129 .add 116 128,mv 130 12,oO 131 (.aaddr 64 1) [.tmp 3,.tmp 130],oO 132 (.load 1 false) [.tmp 131],bT 133 .add 129 132,mv 134 12,oO 135 (.aaddr 64 1) [.tmp 7,.tmp 134],oO 136 (.load 1 false) [.tmp 135],bT 137 .add 133 136,mv 15 137])
 (.seq
 (.reg 94208 (some [0,1,0,7,15,0,47,127,0,0,512,1536,3840,0,0,16384,49152,122880,261888,0,524288,1572864,0,4194304,12582912,33030144,67108608,134217727,268435455]) [mv 138 13,cL 139 n_ref1_rotr false [.tmp 138,.cst (.t (.int .u64 2))],mv 140 13,cL 141 n_ref1_rotr false [.tmp 140,.cst (.t (.int .u64 13))],bT 142 .xor 139 141,mv 143 13,cL 144 n_ref1_rotr false [.tmp 143,.cst (.t (.int .u64 22))],bT 145 .xor 142 144,mv 146 13,mv 147 11,oO 148 (.iaddr 1) [.tmp 147,.cst (.t (.int .i64 1))],oO 149 (.load 1 false) [.tmp 148],bT 150 .and 146 149,mv 151 13,mv 152 11,oO 153 (.iaddr 1) [.tmp 152,.cst (.t (.int .i64 2))],oO 154 (.load 1 false) [.tmp 153],bT 155 .and 151 154,bT 156 .xor 150 155,mv 157 11,oO 158 (.iaddr 1) [.tmp 157,.cst (.t (.int .i64 1))],oO 159 (.load 1 false) [.tmp 158],mv 160 11,oO 161 (.iaddr 1) [.tmp 160,.cst (.t (.int .i64 2))],oO 162 (.load 1 false) [.tmp 161],bT 163 .and 159 162,bT 164 .xor 156 163,bT 165 .add 145 164,mv 16 165])
 (.reg 98304 (some [0,0,3,0,0,16,48,0,128,384,0,1024,3072,0,15360,0,0,65536,196608,0,524288,1572864,4194303,8388607]) [mv 166 15,mv 167 16,bT 168 .add 166 167,mv 169 13,mv 170 11,oO 171 (.iaddr 1) [.tmp 170,.cst (.t (.int .i64 1))],oO 172 (.load 1 false) [.tmp 171],mv 173 11,oO 174 (.iaddr 1) [.tmp 173,.cst (.t (.int .i64 2))],oO 175 (.load 1 false) [.tmp 174],mv 176 11,oO 177 (.iaddr 1) [.tmp 176,.cst (.t (.int .i64 3))],oO 178 (.load 1 false) [.tmp 177],mv 179 15,bT 180 .add 178 179,mv 181 14,mv 182 11,oO 183 (.iaddr 1) [.tmp 182,.cst (.t (.int .i64 5))],oO 184 (.load 1 false) [.tmp 183],mv 185 11,oO 186 (.iaddr 1) [.tmp 185,.cst (.t (.int .i64 6))],oO 187 (.load 1 false) [.tmp 186],oO 188 (.bslice 1 8 (.t (qK 0)) [0,1,2,3,4,5,6,7]) [.tmp 168,.tmp 169,.tmp 172,.tmp 175,.tmp 180,.tmp 181,.tmp 184,.tmp 187],mv 11 188])))))
 (rG 81920 [mv 97 12,bN 98 .add 97 1,mv 12 98])))
def kM:AC:=
 (.seq
 (.seq
 (rG 106496 [mv 189 17,bN 190 .lss 189 8])
 (.cond (.tmp 190)
 .skip
 (.exit 6)))
 (.seq
 (.block 7
 (.reg 114688 (some [0,0,3,7,0,0,48,112,255,511,1023]) [mv 193 4,mv 194 17,oO 195 (.iaddr 1) [.tmp 193,.tmp 194],oO 196 (.load 1 false) [.tmp 195],mv 197 11,mv 198 17,oO 199 (.iaddr 1) [.tmp 197,.tmp 198],oO 200 (.load 1 false) [.tmp 199],bT 201 .add 196 200,oO 202 (.iaddr 1) [.tmp 193,.tmp 194],oS 1 202 201]))
 (rG 110592 [mv 191 17,bN 192 .add 191 1,mv 17 192])))
def kK (n_ref1_word n_ref1_rotr:Nat):AC:=
 (.seq
 (.seq
 (rG 24576 [mv 22 6,mv 23 5,oO 24 .len [.tmp 23],bT 25 .lss 22 24])
 (.cond (.tmp 25)
 .skip
 (.exit 0)))
 (.seq
 (.block 1
 (.seq
 (rG 32768 [oO 7 (.new 1 (List.replicate 64 (.t (qK 0)))) []])
 (.seq
 (.seq
 (rG 36864 [mC 8 (.t (.int .i64 0))])
 (.block 2
 (.loop (vV n_ref1_word n_ref1_rotr))))
 (.seq
 (rG 69632 [oO 92 (.bslice 1 0 (.t (qK 0)) []) [],mv 93 4,oO 94 (.append 1 4) [.tmp 92,.tmp 93],mv 11 94])
 (.seq
 (.seq
 (rG 73728 [mC 12 (.t (.int .i64 0))])
 (.block 4
 (.loop (kL n_ref1_rotr))))
 (.seq
 (rG 102400 [mC 17 (.t (.int .i64 0))])
 (.block 6
 (.loop kM))))))))
 (rG 28672 [mv 26 6,bN 27 .add 26 64,mv 6 27])))
def qFz (n_ref1_constants n_ref1_pad n_ref1_word n_ref1_rotr n_ref1_bytes:Nat):AC:=
 (.seq
 (rG 4096 [mC 2 .nil])
 (.seq
 (rG 8192 [cL 18 n_ref1_constants false [],oO 3 (.new 1 (List.replicate 64 (.t (qK 0)))) [],oS 64 3 18])
 (.seq
 (rG 12288 [oO 19 (.bslice 1 8 (.t (qK 0)) [0,1,2,3,4,5,6,7]) [.cst (.t (qK 1779033703)),.cst (.t (qK 3144134277)),.cst (.t (qK 1013904242)),.cst (.t (qK 2773480762)),.cst (.t (qK 1359893119)),.cst (.t (qK 2600822924)),.cst (.t (qK 528734635)),.cst (.t (qK 1541459225))],mv 4 19])
 (.seq
 (rG 16384 [mv 20 0,cL 21 n_ref1_pad false [.tmp 20],mv 5 21])
 (.seq
 (.seq
 (rG 20480 [mC 6 (.t (.int .i64 0))])
 (.block 0
 (.loop (kK n_ref1_word n_ref1_rotr))))
 (.seq
 (rG 118784 [mv 203 4,cL 204 n_ref1_bytes false [.tmp 203],mv 2 204])
 .ret))))))
def qAb:AC:=
 (.seq
 (.seq
 (rG 16384 [mv 11 6,mv 12 1,oO 13 .len [.tmp 12],bT 14 .lss 11 13])
 (.cond (.tmp 14)
 .skip
 (.exit 0)))
 (.seq
 (.block 1
 (.seq
 (rG 24576 [mv 17 1,mv 18 6,oO 19 (.iaddr 1) [.tmp 17,.tmp 18],oO 20 (.load 1 false) [.tmp 19],oO 21 .len [.tmp 20],mv 7 21])
 (.seq
 (rG 28672 [mv 22 5,mv 23 7,oO 24 (.bin .shr) [.tmp 23,.cst (.t (.int .u64 24))],oO 25 (.conv .u8) [.tmp 24],mv 26 7,oO 27 (.bin .shr) [.tmp 26,.cst (.t (.int .u64 16))],oO 28 (.conv .u8) [.tmp 27],mv 29 7,oO 30 (.bin .shr) [.tmp 29,.cst (.t (.int .u64 8))],oO 31 (.conv .u8) [.tmp 30],mv 32 7,oO 33 (.conv .u8) [.tmp 32],oO 34 (.bslice 1 4 (.t (qA 0)) [0,1,2,3]) [.tmp 25,.tmp 28,.tmp 31,.tmp 33],oO 35 (.append 1 1) [.tmp 22,.tmp 34],mv 5 35])
 (rG 32768 [mv 36 5,mv 37 1,mv 38 6,oO 39 (.iaddr 1) [.tmp 37,.tmp 38],oO 40 (.load 1 false) [.tmp 39],oO 41 (.append 1 1) [.tmp 36,.tmp 40],mv 5 41]))))
 (rG 20480 [mv 15 6,bN 16 .add 15 1,mv 6 16])))
def qHr:AC:=
 (.seq
 (rG 4096 [mC 4 .nil])
 (.seq
 (rG 8192 [mv 8 0,oO 9 (.conv .u8) [.tmp 8],oO 10 (.bslice 1 1 (.t (qA 0)) [0]) [.tmp 9],mv 5 10])
 (.seq
 (.seq
 (rG 12288 [mC 6 (.t (.int .i64 0))])
 (.block 0
 (.loop qAb)))
 (.seq
 (rG 36864 [mv 42 5,mv 4 42])
 .ret))))
def qJ8 (n_ref1_Frame n_ref1_Sum256:Nat):AC:=
 (.seq
 (rG 4096 [mC 4 .nil])
 (.seq
 (rG 8192 [mv 5 0,mv 6 1,cL 7 n_ref1_Frame false [.tmp 5,.tmp 6],cL 8 n_ref1_Sum256 false [.tmp 7],mv 4 8])
 .ret))
def kA:AC:=
 (.seq
 (.seq
 (rG 20480 [mv 11 5,mv 12 0,oO 13 .len [.tmp 12],bT 14 .lss 11 13])
 (.cond (.tmp 14)
 .skip
 (.exit 0)))
 (.seq
 (.block 1
 (.seq
 (.reg 28672 (some [0,0,3,7,0,0,48,112,255]) [mv 17 0,mv 18 5,oO 19 (.iaddr 1) [.tmp 17,.tmp 18],oO 20 (.load 1 false) [.tmp 19],mv 21 1,mv 22 5,oO 23 (.iaddr 1) [.tmp 21,.tmp 22],oO 24 (.load 1 false) [.tmp 23],bT 25 .neq 20 24])
 (.cond (.tmp 25)
 (.seq
 (rG 32768 [mC 4 (.t (.bool false))])
 .ret)
 .skip)))
 (rG 24576 [mv 15 5,bN 16 .add 15 1,mv 5 16])))
def qEm:AC:=
 (.seq
 (rG 4096 [mC 4 (.t (.bool false))])
 (.seq
 (.seq
 (rG 8192 [mv 6 0,oO 7 .len [.tmp 6],mv 8 1,oO 9 .len [.tmp 8],bT 10 .neq 7 9])
 (.cond (.tmp 10)
 (.seq
 (rG 12288 [mC 4 (.t (.bool false))])
 .ret)
 .skip))
 (.seq
 (.seq
 (rG 16384 [mC 5 (.t (.int .i64 0))])
 (.block 0
 (.loop kA)))
 (.seq
 (rG 36864 [mC 4 (.t (.bool true))])
 .ret))))
def qJ7:AC:=
 (.seq
 (rG 4096 [mC 2 .nil])
 (.seq
 (rG 8192 [oO 3 (.bslice 1 0 (.t (qA 0)) []) [],mv 4 0,oO 5 (.append 1 1) [.tmp 3,.tmp 4],mv 2 5])
 .ret))
end Go.Eng
end
section
set_option maxRecDepth 20000
namespace Go.Eng
def qU2 (n:Nat):Nat:=(119-n%64)%64
def beL (n:Nat) (k:Nat):List UInt8:=(List.range k).map fun i=>UInt8.ofNat (n/2^(56-8*i))
def kG (bs:List UInt8):List UInt8:=bs++[128]++List.replicate (qU2 bs.length) 0++beL (bs.length*8) 8
theorem qZf {n:Nat}:beL n 0=[]:=rfl
theorem qCt {n k:Nat}:(beL n k).length=k:=by simp[beL]
theorem qZe {n k:Nat}:beL n (k+1)=beL n k++[UInt8.ofNat (n/2^(56-8*k))]:=by simp[beL,List.range_succ]
theorem qVs (tab:Tab) (gl:Gl) (bs:List UInt8) (hb:bs.length<1000000000):qHl.wp tab gl (qE 0 [.t (.sl (bs.map qA))]) (qE 0 []) (qAg [] [(2,none)] 0 (fun r o=>r = .sl 0 0 (kG bs).length∧o=[.live 1 (((kG bs).map qA).map V.t) true false])):=by
 have hz:qU2 bs.length=(119-bs.length%64)%64:=rfl
 simp (disch:=omega) only [go_sem,↓reduceIte,Nat.reduceAdd,Nat.reduceEqDiff,Nat.reduceLT,Nat.reduceLeDiff,Int.reduceLE,reduceCtorEq,qHl]
 refine qD (qU2 bs.length) (fun k=>[(0,.t (.sl (bs.map qA))),(3,.sl 8304 0 (bs.length+1+k))]) (fun k=>[(8304,.live 1 (((bs++[128]++List.replicate k 0).map qA).map V.t) true false)]) ?_ (fun k hk=>?_)
 ·refine qQ.rd id ?_ ?_ rfl
  all_goals simp (disch:=omega) only [go_sem,↓reduceIte,Nat.reduceAdd,reduceCtorEq,id]
 ·by_cases hlt:k<qU2 bs.length
  ·simp (disch:=omega) only [go_sem,↓reduceIte,Nat.reduceAdd,Nat.reduceEqDiff,Nat.reduceLT,Nat.reduceLeDiff,reduceCtorEq,xW]
   refine⟨hlt,qQ.rd (fun _=>16416) ?_ ?_ rfl⟩
   all_goals simp (disch:=omega) only [go_sem,↓reduceIte,Nat.reduceAdd,reduceCtorEq,List.replicate_succ',List.append_assoc,Nat.add_assoc]
  ·have e:k=qU2 bs.length:=by omega
   subst e
   simp (disch:=omega) only [go_sem,↓reduceIte,Nat.reduceAdd,reduceCtorEq,xW]
   refine qD 8 (fun k=>[(3,.sl 8304 0 (bs.length+1+qU2 bs.length+k)),(4,V.t (T.int IntKind.u64 (bs.length*8:Nat))),(5,.t (.int .i64 (56-((8*k:Nat):Int))))]) (fun k=>[(8304,.live 1 (((bs++[128]++List.replicate (qU2 bs.length) 0++beL (bs.length*8) k).map qA).map V.t) true false)]) ?_ (fun k hk=>?_)
   ·refine qQ.rd id ?_ ?_ rfl
    all_goals simp (disch:=omega) only [go_sem,↓reduceIte,Nat.reduceAdd,Nat.reduceEqDiff,Nat.reduceMul,Int.reduceSub,reduceCtorEq,id,qZf,List.append_nil]
   ·by_cases hlt:k<8
    ·simp (disch:=omega) only [go_sem,↓reduceIte,Nat.reduceAdd,Nat.reduceEqDiff,Nat.reduceLT,Nat.reduceLeDiff,xX,qCt]
     refine⟨hlt,qQ.rd (fun _=>36976) ?_ ?_ rfl⟩
     all_goals simp (disch:=omega) only [go_sem,↓reduceIte,Nat.reduceAdd,Nat.reduceEqDiff,qZe,List.append_assoc,Nat.add_assoc]
     omega
    ·have e:k=8:=by omega
     subst e
     simp (disch:=omega) only [go_sem,↓reduceIte,Nat.reduceAdd,Nat.reduceEqDiff,Int.reduceNeg,Int.reduceSub,xX,qCt,kG]
theorem qSu (tab:Tab) (gl:Gl) (a:Int):xC.wp tab gl (qE 0 [.t (.int .i64 a)]) (qE 0 []) (jK [(2,none)] 0 (fun r o=>r = .t (.int .i64 (if a=0 then 20 else if a=1 then 32 else 0))∧o=[])):=by
 by_cases h0:a=0
 ·subst h0;simp (disch:=omega) only [go_sem,↓reduceIte,Nat.reduceAdd,reduceCtorEq,xC]
 ·by_cases h1:a=1
  ·subst h1;simp (disch:=omega) only [go_sem,↓reduceIte,Nat.reduceAdd,Nat.reduceEqDiff,Int.reduceEq,reduceCtorEq,xC]
  ·simp (disch:=omega) only [go_sem,↓reduceIte,Nat.reduceAdd,Nat.reduceEqDiff,reduceCtorEq,xC,h0,h1]
def qQ4 (bs:List UInt8) (i:Nat):UInt32:=(bs.getD (4*i) 0).toUInt32 <<< 24 ||| (bs.getD (4*i+1) 0).toUInt32 <<< 16 ||| (bs.getD (4*i+2) 0).toUInt32 <<< 8 ||| (bs.getD (4*i+3) 0).toUInt32
theorem qSv (tab:Tab) (gl:Gl) (bs:List UInt8) (i:Nat) (hi:4*i+3<bs.length) (hb:bs.length<1000000000):qFv.wp tab gl (qE 0 [.t (.sl (bs.map qA)),.t (.int .i64 i)]) (qE 0 []) (jK [(4,none)] 0 (fun r o=>r = .t (qK (qQ4 bs i))∧o=[])):=by
 simp (disch:=omega) only [go_sem,↓reduceIte,Nat.reduceAdd,Nat.reduceEqDiff,Nat.reduceLT,Nat.reduceLeDiff,reduceCtorEq,qFv]
 exact⟨rfl,rfl⟩
theorem qYp (tab:Tab) (gl:Gl) (bs:List UInt8) (i:Nat) (hi:4*i+3<bs.length) (hb:bs.length<1000000000):qKa.wp tab gl (qE 0 [.t (.sl (bs.map qA)),.t (.int .i64 i)]) (qE 0 []) (jK [(4,none)] 0 (fun r o=>r = .t (qK (qQ4 bs i))∧o=[])):=by
 simp (disch:=omega) only [go_sem,↓reduceIte,Nat.reduceAdd,Nat.reduceEqDiff,Nat.reduceLT,Nat.reduceLeDiff,reduceCtorEq,qKa]
 exact⟨rfl,rfl⟩
def qQy (x:UInt32) (n:Nat):UInt32:=x >>> UInt32.ofNat n ||| x <<< UInt32.ofNat (32-n)
theorem qYo (tab:Tab) (gl:Gl) (x:UInt32) (n:Nat) (h:0<n∧n<32):qJ9.wp tab gl (qE 0 [.t (qK x),.t (.int .u64 n)]) (qE 0 []) (jK [(4,none)] 0 (fun r o=>r = .t (qK (qQy x n))∧o=[])):=by
 simp (disch:=omega) only [go_sem,↓reduceIte,Nat.reduceAdd,Nat.reduceEqDiff,reduceCtorEq,qJ9]
 rfl
theorem qG8 (tab:Tab) (gl:Gl) (x:UInt32) (n:Int) (h : -32<n∧n<32∧n≠0):qAi.wp tab gl (qE 0 [.t (qK x),.t (.int .i64 n)]) (qE 0 []) (jK [(4,none)] 0 (fun r o=>r = .t (qK (qQy x ((32-n)%32).toNat))∧o=[])):=by
 have e:IntKind.u64.wrap n%32=((32-(32-n).toNat%32:Nat):Int):=by rw[qL4];omega
 have e2:((32-n)%32).toNat=(32-n).toNat%32:=by omega
 have e3:32-(32-(32-n).toNat%32)=(32-n).toNat%32:=by omega
 simp (disch:=omega) only [go_sem,↓reduceIte,Nat.reduceAdd,Nat.reduceEqDiff,reduceCtorEq,qAi,e,e2,e3]
 rw[qQy,UInt32.or_comm]
def qOn (w:UInt32):List UInt8:=[(w >>> 24).toUInt8,(w >>> 16).toUInt8,(w >>> 8).toUInt8,w.toUInt8]
def wR (ws:List UInt32):List UInt8:=ws.flatMap qOn
theorem qCl (ws:List UInt32):(wR ws).length=4*ws.length:=by
 induction ws with
 | nil=>rfl
 | cons w r ih=>simp only[wR,List.flatMap_cons,List.length_append] at *;rw[ih];simp[qOn];omega
theorem qKy {ws:List UInt32} {k:Nat} (h:k<ws.length):wR (ws.take (k+1))=wR (ws.take k)++qOn (ws.getD k 0):=by
 rw[qGh (d:=0) h];simp[wR]
theorem qOr (tab:Tab) (gl:Gl) (ws:List UInt32) (hb:ws.length<1000000000):qDx.wp tab gl (qE 0 [.t (.sl (ws.map qK))]) (qE 0 []) (qAg [] [(2,none)] 0 (fun r o=>r = .sl 0 0 (4*ws.length)∧o=[.live 1 (((wR ws).map qA).map V.t) true false])):=by
 simp (disch:=omega) only [go_sem,↓reduceIte,Nat.reduceAdd,Int.reduceLE,reduceCtorEq,qDx]
 refine qD ws.length (fun k=>[(3,.sl 8240 0 (4*k)),(10,.t (.sl (ws.map qK))),(11,.t (.int .i64 ws.length)),(12,.t (.int .i64 k))]) (fun k=>[(8240,.live 1 (((wR (ws.take k)).map qA).map V.t) true false)]) ?_ (fun k hk=>?_)
 ·refine qQ.rd id ?_ ?_ rfl
  all_goals simp (disch:=omega) only [go_sem,↓reduceIte,Nat.reduceAdd,Nat.reduceEqDiff,Nat.reduceMul,id,wR,List.flatMap_nil,List.map_nil]
 ·have hl:(wR (ws.take k)).length=4*k:=by rw[qCl,List.length_take];omega
  by_cases hlt:k<ws.length
  ·simp (disch:=omega) only [go_sem,↓reduceIte,Nat.reduceAdd,Nat.reduceEqDiff,Nat.reduceLT,Nat.reduceLeDiff,wN,hl]
   refine⟨hlt,qQ.rd (fun _=>24784) ?_ ?_ rfl⟩
   all_goals simp (disch:=omega) only [go_sem,↓reduceIte,Nat.reduceAdd,Nat.reduceEqDiff,qKy,qOn]
   ·omega
   ·simp only[List.append_assoc,List.cons_append,List.nil_append];rfl
  ·have e:k=ws.length:=by omega
   subst e
   rw[List.take_length] at hl
   simp (disch:=omega) only [go_sem,↓reduceIte,Nat.reduceAdd,Nat.reduceEqDiff,wN,hl,List.take_length]
end Go.Eng
end
section
set_option maxRecDepth 20000
set_option maxHeartbeats 4000000
namespace Go.Eng
def jEu (x:UInt32):UInt32:=qQy x 7 ^^^ qQy x 18 ^^^ x >>> 3
def jEv (x:UInt32):UInt32:=qQy x 17 ^^^ qQy x 19 ^^^ x >>> 10
def kX (bs:List UInt8):Nat→List UInt32
 | 0=>List.replicate 64 0
 | t+1=>let w:=kX bs t
  w.set t (if t<16 then qQ4 bs t else jEv (w.getD (t-2) 0)+w.getD (t-7) 0+jEu (w.getD (t-15) 0)+w.getD (t-16) 0)
theorem qKw {bs:List UInt8} {t:Nat}:(kX bs t).length=64:=by
 induction t with
 | zero=>rfl
 | succ t ih=>simp only[kX,List.length_set,ih]
def qCi:Ct where
 α:=List UInt8×Nat
 as x:=[.t (.sl (x.1.map qA)),.t (.int .i64 x.2)]
 ins _:=[]
 pre x:=4*x.2+3<x.1.length∧x.1.length<1000000000
 r x:= .t (qK (qQ4 x.1 x.2))
 outs _:=[]
 inj:=by
  rintro⟨a,b⟩ ⟨c,d⟩ h _
  simp[qP,Int.natCast_inj] at h
  obtain⟨rfl,rfl⟩:=h
  exact⟨rfl,rfl⟩
theorem qY3 {bs:List UInt8} {i:Nat} (h:4*i+3<bs.length∧bs.length<1000000000):qCi.fs [.t (.sl (bs.map qA)),.t (.int .i64 i)] []=some (.t (qK (qQ4 bs i)),[]):=qCi.eq (bs,i) h
def qGu:Ct where
 α:=UInt32×Int
 as x:=[.t (qK x.1),.t (.int .i64 x.2)]
 ins _:=[]
 pre x := -32<x.2∧x.2<32∧x.2≠0
 r x:= .t (qK (qQy x.1 ((32-x.2)%32).toNat))
 outs _:=[]
 inj:=by
  rintro⟨a,b⟩ ⟨c,d⟩ h _
  simp[qYc] at h
  obtain⟨rfl,rfl⟩:=h
  exact⟨rfl,rfl⟩
theorem qG2 {x:UInt32} {i:Int} (h : -32<i∧i<32∧i≠0):qGu.fs [.t (qK x),.t (.int .i64 i)] []=some (.t (qK (qQy x ((32-i)%32).toNat)),[]):=qGu.eq (x,i) h
def qTb:List UInt32:=[0x428a2f98,0x71374491,0xb5c0fbcf,0xe9b5dba5,0x3956c25b,0x59f111f1,0x923f82a4,0xab1c5ed5,0xd807aa98,0x12835b01,0x243185be,0x550c7dc3,0x72be5d74,0x80deb1fe,0x9bdc06a7,0xc19bf174,0xe49b69c1,0xefbe4786,0x0fc19dc6,0x240ca1cc,0x2de92c6f,0x4a7484aa,0x5cb0a9dc,0x76f988da,0x983e5152,0xa831c66d,0xb00327c8,0xbf597fc7,0xc6e00bf3,0xd5a79147,0x06ca6351,0x14292967,0x27b70a85,0x2e1b2138,0x4d2c6dfc,0x53380d13,0x650a7354,0x766a0abb,0x81c2c92e,0x92722c85,0xa2bfe8a1,0xa81a664b,0xc24b8b70,0xc76c51a3,0xd192e819,0xd6990624,0xf40e3585,0x106aa070,0x19a4c116,0x1e376c08,0x2748774c,0x34b0bcb5,0x391c0cb3,0x4ed8aa4a,0x5b9cca4f,0x682e6ff3,0x748f82ee,0x78a5636f,0x84c87814,0x8cc70208,0x90befffa,0xa4506ceb,0xbef9a3f7,0xc67178f2]
def rnd (k w:UInt32) (s:List UInt32):List UInt32:=
 let a:=s.getD 0 0
 let e:=s.getD 4 0
 let t1:=s.getD 7 0+(qQy e 6 ^^^ qQy e 11 ^^^ qQy e 25)+((e &&& s.getD 5 0) ^^^ (~~~e &&& s.getD 6 0))+k+w
 let t2:=(qQy a 2 ^^^ qQy a 13 ^^^ qQy a 22)+((a &&& s.getD 1 0) ^^^ (a &&& s.getD 2 0) ^^^ (s.getD 1 0 &&& s.getD 2 0))
 [t1+t2,s.getD 0 0,s.getD 1 0,s.getD 2 0,s.getD 3 0+t1,s.getD 4 0,s.getD 5 0,s.getD 6 0]
def kI (ws hs:List UInt32):Nat→List UInt32
 | 0=>hs
 | t+1=>rnd (qTb.getD t 0) (ws.getD t 0) (kI ws hs t)
theorem qIi {ws hs:List UInt32} {t:Nat} (h:hs.length=8):(kI ws hs t).length=8:=by
 cases t with
 | zero=>exact h
 | succ t=>rfl
def zA5 (hs s:List UInt32):Nat→List UInt32
 | 0=>hs
 | i+1=>(zA5 hs s i).set i ((zA5 hs s i).getD i 0+s.getD i 0)
theorem qGl {hs s:List UInt32} {i:Nat}:(zA5 hs s i).length=hs.length:=by
 induction i with
 | zero=>rfl
 | succ i ih=>simp only[zA5,List.length_set,ih]
def yX (hs:List UInt32) (bs:List UInt8):List UInt32:=zA5 hs (kI (kX bs 64) hs 64) 8
theorem qFq (tab:Tab) (gl:Gl) (n1 n2 g:Nat) (h1:tab.look n1=some qCi.fs) (h2:tab.look n2=some qGu.fs) (hg:gl g=some (qTb.map qK)) (bs:List UInt8) (hs:List UInt32) (hb:bs.length=64) (hh:hs.length=8) :
  (xH n1 n2 g).wp tab gl (qE 0 [.ref 0 0 0,.t (.sl (bs.map qA))]) (qE 0 [.live 1 ((hs.map qK).map V.t) true true]) (jK [] 1 (fun r o=>r = .tup []∧o=[.live 1 (((yX hs bs).map qK).map V.t) true true])):=by
 have ht:hs.take 8=hs:=List.take_of_length_le (by omega)
 simp (disch:=omega) only [go_sem,seval,xH]
 refine qD 64 (fun k=>[(17,.t (.int .i64 k)),(4,.ref 4096 0 0),(0,.ref 0 0 0),(1,V.t (T.sl (List.map qA bs)))]) (fun k=>[(4096,.live 1 (((kX bs k).map qK).map V.t) true true),(0,.live 1 ((hs.map qK).map V.t) true true)]) ?_ (fun k hk=>?_)
 ·refine qQ.rd id ?_ ?_ rfl
  all_goals simp (disch:=omega) only [go_sem,seval,id,kX]
 ·have hl:(kX bs k).length=64:=qKw
  by_cases hlt:k<64
  ·by_cases h16:k<16
   ·simp (disch:=omega) only [go_sem,seval,jS,h1,h2,qY3,hl]
    refine⟨hlt,qQ.rd id ?_ ?_ rfl⟩
    all_goals simp (disch:=omega) only [go_sem,seval,id,kX,if_pos h16]
   ·simp (disch:=omega) only [go_sem,seval,jS,h1,h2,qG2,hl]
    refine⟨rfl,rfl,hlt,qQ.rd id ?_ ?_ rfl⟩
    all_goals simp (disch:=omega) only [go_sem,seval,id,kX,if_neg h16]
    rfl
  ·have e:k=64:=by omega
   subst e
   simp (disch:=omega) only [go_sem,seval,jS,ht,hh]
   refine qD 64 (fun k=>[(70,.t (.int .i64 k)),(4,.ref 4096 0 0),(0,.ref 0 0 0),(10,.ref 49200 0 0)]) (fun k=>[(49200,.live 1 (((kI (kX bs 64) hs k).map qK).map V.t) true true),(4096,.live 1 (((kX bs 64).map qK).map V.t) true true),(0,.live 1 ((hs.map qK).map V.t) true true)]) ?_ (fun k hk=>?_)
   ·refine qQ.rd id ?_ ?_ rfl
    all_goals simp (disch:=omega) only [go_sem,seval,id,kI]
   ·have hl2:(kI (kX bs 64) hs k).length=8:=qIi hh
    by_cases hlt:k<64
    ·have hk2:qTb.length=64:=rfl
     simp (config := { maxSteps:=2000000 }) (disch:=(first | omega | (simp only[qBq,qBp];omega))) only [go_sem,seval,yN,h1,h2,qG2,hl,hl2,hg,hk2]
     repeat refine And.intro rfl ?_
     refine⟨hlt,qQ.rd id ?_ ?_ rfl⟩
     all_goals simp (disch:=omega) only [go_sem,seval,id,kI,rnd,List.drop_eq_nil_of_le (show (kI (kX bs 64) hs k).length≤8 by omega)]
    ·have e:k=64:=by omega
     subst e
     simp (disch:=omega) only [go_sem,seval,yN]
     refine qD 8 (fun k=>[(152,.t (.int .i64 k)),(0,.ref 0 0 0),(10,.ref 49200 0 0)]) (fun k=>[(49200,.live 1 (((kI (kX bs 64) hs 64).map qK).map V.t) true true),(0,.live 1 (((zA5 hs (kI (kX bs 64) hs 64) k).map qK).map V.t) true true)]) ?_ (fun k hk=>?_)
     ·refine qQ.rd id ?_ ?_ rfl
      all_goals simp (disch:=omega) only [go_sem,seval,id,zA5]
     ·have hl3:(zA5 hs (kI (kX bs 64) hs 64) k).length=8:=by rw[qGl,hh]
      by_cases hlt:k<8
      ·simp (disch:=omega) only [go_sem,seval,yO,hl2,hl3]
       refine⟨rfl,hlt,qQ.rd id ?_ ?_ rfl⟩
       all_goals simp (disch:=omega) only [go_sem,seval,id,zA5]
      ·have e:k=8:=by omega
       subst e
       simp (disch:=omega) only [go_sem,seval,yO,yX]
end Go.Eng
end
section
set_option maxRecDepth 20000
set_option maxHeartbeats 4000000
namespace Go.Eng
theorem qDo (bs:List UInt8):(kG bs).length=bs.length+1+qU2 bs.length+8:=by
 simp only[kG,List.length_append,List.length_replicate,qCt,List.length_cons,List.length_nil]
theorem qR7 (bs:List UInt8):(kG bs).length%64=0:=by
 rw[qDo,qU2];omega
def hN (comp:List UInt32→List UInt8→List UInt32) (iv:List UInt32) (p:List UInt8):Nat→List UInt32
 | 0=>iv
 | k+1=>comp (hN comp iv p k) ((p.drop (64*k)).take 64)
def zSr (comp:List UInt32→List UInt8→List UInt32) (iv:List UInt32) (bs:List UInt8):List UInt8:=wR (hN comp iv (kG bs) ((kG bs).length/64))
def qJg:List UInt32:=[0x6a09e667,0xbb67ae85,0x3c6ef372,0xa54ff53a,0x510e527f,0x9b05688c,0x1f83d9ab,0x5be0cd19]
def zS (bs:List UInt8):List UInt8:=zSr yX qJg bs
theorem zFm {comp:List UInt32→List UInt8→List UInt32} {iv:List UInt32} {p:List UInt8} {n:Nat} (hc : ∀ h b,(comp h b).length=h.length) (hi:iv.length=n) {k:Nat}:(hN comp iv p k).length=n:=by
 induction k with
 | zero=>exact hi
 | succ k ih=>rw[hN,hc,ih]
theorem qF8 (h:List UInt32) (b:List UInt8):(yX h b).length=h.length:=qGl
theorem qNy {p:List UInt8} {k:Nat}:(hN yX qJg p k).length=8:=zFm qF8 rfl
def qGa:Ct where
 α:=List UInt8
 as x:=[.t (.sl (x.map qA))]
 ins _:=[]
 pre x:=x.length<1000000000
 r x:= .sl 0 0 (kG x).length
 outs x:=[.live 1 (((kG x).map qA).map V.t) true false]
 inj:=by
  intro a b h _
  simp[qP] at h
  subst h;exact⟨rfl,rfl⟩
theorem zGf {bs:List UInt8} (h:bs.length<1000000000):qGa.fs [.t (.sl (bs.map qA))] []=some (.sl 0 0 (kG bs).length,[.live 1 (((kG bs).map qA).map V.t) true false]):=qGa.eq bs h
def wH:Ct where
 α:=List UInt32
 as x:=[.t (.sl (x.map qK))]
 ins _:=[]
 pre x:=x.length<1000000000
 r x:= .sl 0 0 (4*x.length)
 outs x:=[.live 1 (((wR x).map qA).map V.t) true false]
 inj:=by
  intro a b h _
  simp[qZ3] at h
  subst h;exact⟨rfl,rfl⟩
theorem qOo {ws:List UInt32} (h:ws.length<1000000000):wH.fs [.t (.sl (ws.map qK))] []=some (.sl 0 0 (4*ws.length),[.live 1 (((wR ws).map qA).map V.t) true false]):=wH.eq ws h
def vP (n:Nat) (comp:List UInt32→List UInt8→List UInt32):Ct where
 α:=List UInt32×List UInt8
 as x:=[.ref 0 0 0,.t (.sl (x.2.map qA))]
 ins x:=[.live 1 ((x.1.map qK).map V.t) true true]
 pre x:=x.2.length=64∧x.1.length=n
 r _:= .tup []
 outs x:=[.live 1 (((comp x.1 x.2).map qK).map V.t) true true]
 inj:=by
  rintro⟨a,b⟩ ⟨c,d⟩ h1 h2
  simp[qP] at h1
  simp only[Ob.live.injEq,zKt,qZ3,List.cons.injEq] at h2
  obtain⟨⟨_,rfl,_,_⟩,_⟩:=h2
  subst h1;exact⟨rfl,rfl⟩
theorem zEc {n:Nat} {comp:List UInt32→List UInt8→List UInt32} {hs:List UInt32} {bs:List UInt8} (h:bs.length=64∧hs.length=n):(vP n comp).fs [.ref 0 0 0,.t (.sl (bs.map qA))] [.live 1 ((hs.map qK).map V.t) true true] =
  some (.tup [],[.live 1 (((comp hs bs).map qK).map V.t) true true]):=(vP n comp).eq (hs,bs) h
theorem qK7 (tab:Tab) (gl:Gl) (n1 n2 n3 n4:Nat) (h1:tab.look n1=some qGa.fs) (h3:tab.look n3=some wH.fs) (h4:tab.look n4=some (vP 8 yX).fs) (bs:List UInt8) (hb:bs.length<1000000000) :
  (wW n1 n2 n3 n4).wp tab gl (qE 0 [.t (.int .i64 1),.t (.sl (bs.map qA))]) (qE 0 []) (qAg [] [(4,none)] 0 (fun r o=>r = .sl 0 0 32∧o=[.live 1 (((zS bs).map qA).map V.t) true false])):=by
 have hp:=qDo bs
 have hm:=qR7 bs
 simp (disch:=omega) only [go_sem,seval,wW,h1,zGf]
 refine qD ((kG bs).length/64) (fun k=>[(8,V.sl 49168 (64*k) ((kG bs).length-64*k)),(7,V.ref 45072 0 0)]) (fun k=>[(49168,.live 1 (((kG bs).map qA).map V.t) true false),(45072,.live 1 (((hN yX qJg (kG bs) k).map qK).map V.t) true true)]) ?_ (fun k hk=>?_)
 ·refine qQ.rd id ?_ ?_ rfl
  all_goals simp (disch:=omega) only [go_sem,seval,id,hN,qJg,Nat.mul_zero,List.map_cons,List.map_nil]
 ·have hl:(hN yX qJg (kG bs) k).length=8:=qNy
  by_cases hlt:k<(kG bs).length/64
  ·simp (config := { maxSteps:=2000000 }) (disch:=(first | omega | (simp only[qBq,qBp];omega))) only [go_sem,seval,xV,h4,zEc,hl]
   refine⟨hlt,qQ.rd id ?_ ?_ rfl⟩
   all_goals simp (config := { maxSteps:=2000000 }) (disch:=(first | omega | (simp only[qBq,qBp];omega))) only [go_sem,seval,id,hN]
   omega
  ·have e:k=(kG bs).length/64:=by omega
   subst e
   have ht:List.take 8 (hN yX qJg (kG bs) ((kG bs).length/64))=hN yX qJg (kG bs) ((kG bs).length/64):=List.take_of_length_le (by omega)
   simp (disch:=omega) only [go_sem,seval,xV,h3,qOo,hl,ht,zS,zSr]
end Go.Eng
end
section
set_option maxRecDepth 20000
set_option maxHeartbeats 4000000
namespace Go.Eng
def qBj (bs:List UInt8):Nat→List UInt32
 | 0=>List.replicate 80 0
 | t+1=>let w:=qBj bs t
  w.set t (if t<16 then qQ4 bs t else qQy (w.getD (t-3) 0 ^^^ w.getD (t-8) 0 ^^^ w.getD (t-14) 0 ^^^ w.getD (t-16) 0) 31)
theorem qSf {bs:List UInt8} {t:Nat}:(qBj bs t).length=80:=by
 induction t with
 | zero=>rfl
 | succ t ih=>simp only[qBj,List.length_set,ih]
def f1 (t:Nat) (b c d:UInt32):UInt32:=if t<20 then (b &&& c) ^^^ (~~~b &&& d) else if t<40 then b ^^^ c ^^^ d else if t<60 then (b &&& c) ^^^ (b &&& d) ^^^ (c &&& d) else b ^^^ c ^^^ d
def k1 (t:Nat):UInt32:=if t<20 then 0x5a827999 else if t<40 then 0x6ed9eba1 else if t<60 then 0x8f1bbcdc else 0xca62c1d6
def zWn (t:Nat) (w:UInt32) (s:List UInt32):List UInt32:=
 [qQy (s.getD 0 0) 27+f1 t (s.getD 1 0) (s.getD 2 0) (s.getD 3 0)+s.getD 4 0+k1 t+w,s.getD 0 0,qQy (s.getD 1 0) 2,s.getD 2 0,s.getD 3 0]
def qAh (ws hs:List UInt32):Nat→List UInt32
 | 0=>hs
 | t+1=>zWn t (ws.getD t 0) (qAh ws hs t)
def qDc (hs:List UInt32) (bs:List UInt8):List UInt32:=
 let s:=qAh (qBj bs 80) hs 80
 [hs.getD 0 0+s.getD 0 0,hs.getD 1 0+s.getD 1 0,hs.getD 2 0+s.getD 2 0,hs.getD 3 0+s.getD 3 0,hs.getD 4 0+s.getD 4 0]
theorem qIv (tab:Tab) (gl:Gl) (n1 n2:Nat) (h1:tab.look n1=some qCi.fs) (h2:tab.look n2=some qGu.fs) (bs:List UInt8) (x0 x1 x2 x3 x4:UInt32) (hb:bs.length=64) :
  (wM n1 n2).wp tab gl (qE 0 [.ref 0 0 0,.t (.sl (bs.map qA))]) (qE 0 [.live 1 (([x0,x1,x2,x3,x4].map qK).map V.t) true true]) (jK [] 1 (fun r o=>r = .tup []∧o=[.live 1 (((qDc [x0,x1,x2,x3,x4] bs).map qK).map V.t) true true])):=by
 simp (disch:=omega) only [go_sem,seval,wM]
 refine qD 80 (fun k=>[(14,.t (.int .i64 k)),(4,.ref 4096 0 0),(0,.ref 0 0 0),(1,V.t (T.sl (List.map qA bs)))]) (fun k=>[(4096,.live 1 (((qBj bs k).map qK).map V.t) true true),(0,.live 1 [.t (qK x0),.t (qK x1),.t (qK x2),.t (qK x3),.t (qK x4)] true true)]) ?_ (fun k hk=>?_)
 ·refine qQ.rd id ?_ ?_ rfl
  all_goals simp (disch:=omega) only [go_sem,seval,id,qBj]
 ·have hl:(qBj bs k).length=80:=qSf
  by_cases hlt:k<80
  ·by_cases h16:k<16
   ·simp (disch:=omega) only [go_sem,seval,yG,h1,h2,qY3,hl]
    refine⟨hlt,qQ.rd id ?_ ?_ rfl⟩
    all_goals simp (disch:=omega) only [go_sem,seval,id,qBj,if_pos h16]
   ·simp (disch:=omega) only [go_sem,seval,yG,h1,h2,qG2,hl]
    repeat refine And.intro rfl ?_
    refine⟨hlt,qQ.rd id ?_ ?_ rfl⟩
    all_goals simp (disch:=omega) only [go_sem,seval,id,qBj,if_neg h16]
  ·have e:k=80:=by omega
   subst e
   simp (disch:=omega) only [go_sem,seval,yG]
   repeat refine And.intro rfl ?_
   refine qD 80 (fun k=>[(67,.t (.int .i64 k)),(4,.ref 4096 0 0),(0,.ref 0 0 0),(6,.t (qK ((qAh (qBj bs 80) [x0,x1,x2,x3,x4] k).getD 0 0))),(7,.t (qK ((qAh (qBj bs 80) [x0,x1,x2,x3,x4] k).getD 1 0))),(8,.t (qK ((qAh (qBj bs 80) [x0,x1,x2,x3,x4] k).getD 2 0))),(9,.t (qK ((qAh (qBj bs 80) [x0,x1,x2,x3,x4] k).getD 3 0))),(10,.t (qK ((qAh (qBj bs 80) [x0,x1,x2,x3,x4] k).getD 4 0)))])
    (fun k=>[(4096,.live 1 (((qBj bs 80).map qK).map V.t) true true),(0,.live 1 [.t (qK x0),.t (qK x1),.t (qK x2),.t (qK x3),.t (qK x4)] true true)]) ?_ (fun k hk=>?_)
   ·refine qQ.rd id ?_ ?_ rfl
    all_goals simp (disch:=omega) only [go_sem,seval,id,qAh,List.getD_cons_zero,List.getD_cons_succ]
   ·by_cases hlt:k<80
    ·by_cases h20:k<20
     ·have e0:k/20=0:=by omega
      simp (disch:=omega) only [go_sem,seval,zV,h1,h2,qG2,hl,e0]
      repeat refine And.intro rfl ?_
      refine⟨hlt,qQ.rd id ?_ ?_ rfl⟩
      all_goals simp (disch:=omega) only [go_sem,seval,id,qAh,zWn,f1,k1,if_pos h20,List.getD_cons_zero,List.getD_cons_succ]
     ·by_cases h40:k<40
      ·have e0:k/20=1:=by omega
       simp (disch:=omega) only [go_sem,seval,zV,h1,h2,qG2,hl,e0]
       repeat refine And.intro rfl ?_
       refine⟨hlt,qQ.rd id ?_ ?_ rfl⟩
       all_goals simp (disch:=omega) only [go_sem,seval,id,qAh,zWn,f1,k1,if_neg h20,if_pos h40,List.getD_cons_zero,List.getD_cons_succ]
      ·by_cases h60:k<60
       ·have e0:k/20=2:=by omega
        simp (disch:=omega) only [go_sem,seval,zV,h1,h2,qG2,hl,e0]
        repeat refine And.intro rfl ?_
        refine⟨hlt,qQ.rd id ?_ ?_ rfl⟩
        all_goals simp (disch:=omega) only [go_sem,seval,id,qAh,zWn,f1,k1,if_neg h20,if_neg h40,if_pos h60,List.getD_cons_zero,List.getD_cons_succ]
       ·have e0:k/20=3:=by omega
        simp (disch:=omega) only [go_sem,seval,zV,h1,h2,qG2,hl,e0]
        repeat refine And.intro rfl ?_
        refine⟨hlt,qQ.rd id ?_ ?_ rfl⟩
        all_goals simp (disch:=omega) only [go_sem,seval,id,qAh,zWn,f1,k1,if_neg h20,if_neg h40,if_neg h60,List.getD_cons_zero,List.getD_cons_succ]
    ·have e:k=80:=by omega
     subst e
     simp (disch:=omega) only [go_sem,seval,zV,qDc,List.getD_cons_zero,List.getD_cons_succ]
     repeat refine And.intro rfl ?_
     rfl
end Go.Eng
end
section
set_option maxRecDepth 20000
set_option maxHeartbeats 4000000
namespace Go.Eng
def iv1:List UInt32:=[0x67452301,0xefcdab89,0x98badcfe,0x10325476,0xc3d2e1f0]
theorem zFl {p:List UInt8} {k:Nat}:(hN qDc iv1 p k).length=5:=by
 cases k<;>rfl
def qTd (bs:List UInt8):List UInt8:=zSr qDc iv1 bs
theorem qPp (tab:Tab) (gl:Gl) (n1 n2 n3 n4:Nat) (h1:tab.look n1=some qGa.fs) (h3:tab.look n3=some wH.fs) (h4:tab.look n2=some (vP 5 qDc).fs) (bs:List UInt8) (hb:bs.length<1000000000) :
  (wW n1 n2 n3 n4).wp tab gl (qE 0 [.t (.int .i64 0),.t (.sl (bs.map qA))]) (qE 0 []) (qAg [] [(4,none)] 0 (fun r o=>r = .sl 0 0 20∧o=[.live 1 (((qTd bs).map qA).map V.t) true false])):=by
 have hp:=qDo bs
 have hm:=qR7 bs
 simp (disch:=omega) only [go_sem,↓reduceIte,Nat.reduceAdd,Nat.reduceEqDiff,Nat.reduceLeDiff,reduceCtorEq,wW,h1,zGf]
 refine qD ((kG bs).length/64) (fun k=>[(6,V.sl 20496 (64*k) ((kG bs).length-64*k)),(5,V.ref 16400 0 0)]) (fun k=>[(20496,.live 1 (((kG bs).map qA).map V.t) true false),(16400,.live 1 (((hN qDc iv1 (kG bs) k).map qK).map V.t) true true)]) ?_ (fun k hk=>?_)
 ·refine qQ.rd id ?_ ?_ rfl
  all_goals simp (disch:=omega) only [go_sem,↓reduceIte,Nat.reduceAdd,Nat.reduceEqDiff,Nat.reduceBEq,id,hN,iv1,Nat.mul_zero,List.map_cons,List.map_nil]
 ·have hl:(hN qDc iv1 (kG bs) k).length=5:=zFl
  by_cases hlt:k<(kG bs).length/64
  ·simp (config := { maxSteps:=2000000 }) (disch:=(first | omega | (simp only[qBq,qBp];omega))) only [go_sem,↓reduceIte,Nat.reduceAdd,Nat.reduceEqDiff,Nat.reduceSub,Nat.reduceLeDiff,Nat.reduceBEq,Int.reduceLE,reduceCtorEq,xU,h4,zEc,hl]
   refine⟨hlt,qQ.rd id ?_ ?_ rfl⟩
   all_goals simp (config := { maxSteps:=2000000 }) (disch:=(first | omega | (simp only[qBq,qBp];omega))) only [go_sem,↓reduceIte,Nat.reduceAdd,Nat.reduceEqDiff,Nat.reduceBEq,id,hN]
   omega
  ·have e:k=(kG bs).length/64:=by omega
   subst e
   have ht:List.take 5 (hN qDc iv1 (kG bs) ((kG bs).length/64))=hN qDc iv1 (kG bs) ((kG bs).length/64):=List.take_of_length_le (by omega)
   simp (disch:=omega) only [go_sem,↓reduceIte,Nat.reduceAdd,Nat.reduceEqDiff,Nat.reduceMul,Nat.reduceLeDiff,Int.reduceLE,reduceCtorEq,xU,h3,qOo,hl,ht,qTd,zSr]
theorem zC3 (tab:Tab) (gl:Gl) (bs:List UInt8) (hb:bs.length<1000000000):qMa.wp tab gl (qE 0 [.t (.sl (bs.map qA))]) (qE 0 []) (qAg [] [(2,none)] 0 (fun r o=>r = .sl 0 0 (kG bs).length∧o=[.live 1 (((kG bs).map qA).map V.t) true false])):=by
 have hz:qU2 bs.length=(119-bs.length%64)%64:=rfl
 simp (disch:=omega) only [go_sem,↓reduceIte,Nat.reduceAdd,Nat.reduceEqDiff,Nat.reduceLT,Nat.reduceLeDiff,reduceCtorEq,qMa]
 refine qD (qU2 bs.length) (fun k=>[(0,.t (.sl (bs.map qA))),(3,.sl 8256 0 (bs.length+1+k))]) (fun k=>[(8256,.live 1 (((bs++[128]++List.replicate k 0).map qA).map V.t) true false)]) ?_ (fun k hk=>?_)
 ·refine qQ.rd id ?_ ?_ rfl
  all_goals simp (disch:=omega) only [go_sem,↓reduceIte,Nat.reduceAdd,reduceCtorEq,id]
 ·by_cases hlt:k<qU2 bs.length
  ·simp (disch:=omega) only [go_sem,↓reduceIte,Nat.reduceAdd,Nat.reduceEqDiff,Nat.reduceLT,Nat.reduceLeDiff,reduceCtorEq,qCd]
   refine⟨hlt,qQ.rd (fun _=>16416) ?_ ?_ rfl⟩
   all_goals simp (disch:=omega) only [go_sem,↓reduceIte,Nat.reduceAdd,reduceCtorEq,List.replicate_succ',List.append_assoc,Nat.add_assoc]
  ·have e:k=qU2 bs.length:=by omega
   subst e
   simp (disch:=omega) only [go_sem,↓reduceIte,Nat.reduceAdd,reduceCtorEq,qCd]
   refine qD 8 (fun k=>[(3,.sl 8256 0 (bs.length+1+qU2 bs.length+k)),(4,V.t (T.int IntKind.u64 (bs.length*8:Nat))),(5,.t (.int .i64 (7-(k:Int))))]) (fun k=>[(8256,.live 1 (((bs++[128]++List.replicate (qU2 bs.length) 0++beL (bs.length*8) k).map qA).map V.t) true false)]) ?_ (fun k hk=>?_)
   ·refine qQ.rd id ?_ ?_ rfl
    all_goals simp (disch:=omega) only [go_sem,↓reduceIte,Nat.reduceAdd,Nat.reduceEqDiff,Int.reduceSub,reduceCtorEq,id,qZf,List.append_nil]
   ·by_cases hlt:k<8
    ·have e:8*(7-k)=56-8*k:=by omega
     simp (disch:=omega) only [go_sem,↓reduceIte,Nat.reduceAdd,Nat.reduceEqDiff,Nat.reduceLT,Nat.reduceLeDiff,qCe,qCt,e]
     refine⟨hlt,qQ.rd (fun _=>36992) ?_ ?_ rfl⟩
     all_goals simp (disch:=omega) only [go_sem,↓reduceIte,Nat.reduceAdd,Nat.reduceEqDiff,qZe,List.append_assoc,Nat.add_assoc]
     omega
    ·have e:k=8:=by omega
     subst e
     simp (disch:=omega) only [go_sem,↓reduceIte,Nat.reduceAdd,Nat.reduceEqDiff,Int.reduceNeg,Int.reduceSub,qCe,qCt,kG]
theorem qV1 (tab:Tab) (gl:Gl) (ws:List UInt32) (hb:ws.length<1000000000):qHs.wp tab gl (qE 0 [.t (.sl (ws.map qK))]) (qE 0 []) (qAg [] [(2,none)] 0 (fun r o=>r = .sl 0 0 (4*ws.length)∧o=[.live 1 (((wR ws).map qA).map V.t) true false])):=by
 simp (disch:=omega) only [go_sem,Nat.reduceAdd,qHs]
 refine qD ws.length (fun k=>[(3,.sl 9000 0 (4*k)),(0,.t (.sl (ws.map qK))),(4,.t (.int .i64 k))]) (fun k=>[(9000,.live 1 (((wR (ws.take k)).map qA).map V.t) true false)]) ?_ (fun k hk=>?_)
 ·show qQ _ _ _ ([(9000,.live 1 [] true false)]++[])
  refine qQ.cv0 id ?_ ?_ rfl rfl
  all_goals simp (disch:=omega) only [go_sem,↓reduceIte,Nat.reduceEqDiff,reduceCtorEq,id,List.map_cons,List.map_nil,Nat.mul_zero]
 ·have hl:(wR (ws.take k)).length=4*k:=by rw[qCl,List.length_take];omega
  by_cases hlt:k<ws.length
  ·simp (disch:=omega) only [go_sem,↓reduceIte,Nat.reduceAdd,Nat.reduceEqDiff,Nat.reduceLT,Nat.reduceLeDiff,reduceCtorEq,qAc,hl]
   refine⟨rfl,hlt,qQ.rd (fun _=>24976) ?_ ?_ rfl⟩
   all_goals simp (disch:=omega) only [go_sem,↓reduceIte,Nat.reduceAdd,Nat.reduceEqDiff,reduceCtorEq,qKy,qOn]
   ·omega
   ·simp only[List.append_assoc,List.cons_append,List.nil_append];rfl
  ·have e:k=ws.length:=by omega
   subst e
   rw[List.take_length] at hl
   simp (disch:=omega) only [go_sem,↓reduceIte,Nat.reduceAdd,Nat.reduceEqDiff,reduceCtorEq,qAc,hl,List.take_length]
theorem qLb (tab:Tab) (gl:Gl):qCr.wp tab gl (qE 0 []) (qE 0 []) (jK [(0,some (64,true))] 0 (fun r o=>r = .t (.agg (qTb.map qK))∧o=[])):=by
 simp (config := { maxSteps:=2000000 }) (disch:=(first | omega | (simp only[qBq,qBp];omega))) only [go_sem,↓reduceIte,Nat.reduceAdd,Nat.reduceEqDiff,Nat.reduceSub,Nat.reduceLeDiff,reduceCtorEq,qCr,List.drop_replicate]
 rfl
end Go.Eng
end
section
set_option maxRecDepth 20000
set_option maxHeartbeats 8000000
namespace Go.Eng
def qH2:Ct where
 α:=Unit
 as _:=[]
 ins _:=[]
 pre _:=True
 r _:= .t (.agg (qTb.map qK))
 outs _:=[]
 inj:=fun _ _ _ _=>⟨rfl,rfl⟩
theorem zJi:qH2.fs [] []=some (.t (.agg (qTb.map qK)),[]):=qH2.eq () trivial
def qNj:Ct where
 α:=UInt32×Nat
 as x:=[.t (qK x.1),.t (.int .u64 x.2)]
 ins _:=[]
 pre x:=0<x.2∧x.2<32
 r x:= .t (qK (qQy x.1 x.2))
 outs _:=[]
 inj:=by
  rintro⟨a,b⟩ ⟨c,d⟩ h _
  simp[qYc,Int.natCast_inj] at h
  obtain⟨rfl,rfl⟩:=h
  exact⟨rfl,rfl⟩
theorem zGv {x:UInt32} {n:Nat} (h:0<n∧n<32):qNj.fs [.t (qK x),.t (.int .u64 (no_index (@OfNat.ofNat Int n _)))] []=some (.t (qK (qQy x n)),[]):=qNj.eq (x,n) h
theorem qSz (tab:Tab) (gl:Gl) (n1 n2 n3 n4 n5:Nat) (h1:tab.look n1=some qH2.fs) (h2:tab.look n2=some qGa.fs) (h3:tab.look n3=some qCi.fs) (h4:tab.look n4=some qNj.fs) (h5:tab.look n5=some wH.fs)
  (bs:List UInt8) (hb:bs.length<1000000000) :
  (qFz n1 n2 n3 n4 n5).wp tab gl (qE 0 [.t (.sl (bs.map qA))]) (qE 0 []) (qAg [] [(2,none)] 0 (fun r o=>r = .sl 0 0 32∧o=[.live 1 (((zS bs).map qA).map V.t) true false])):=by
 have hp:=qDo bs
 have hm:=qR7 bs
 have hz:qU2 bs.length<64:=by unfold qU2;omega
 have hk2:qTb.length=64:=rfl
 simp (config := { maxSteps:=2000000 }) (disch:=(first | omega | (simp only[qBq,qBp];omega))) only [go_sem,seval,qFz,h1,zJi,h2,zGf,hk2]
 refine qD ((kG bs).length/64) (fun k=>[(3,.ref 8208 0 0),(4,.sl 12288 0 8),(5,.sl 16400 0 (kG bs).length),(6,.t (.int .i64 ((64*k:Nat):Int)))])
  (fun k=>[(8208,.live 1 ((qTb.map qK).map V.t) true true),(12288,.live 1 (((hN yX qJg (kG bs) k).map qK).map V.t) true false),(16400,.live 1 (((kG bs).map qA).map V.t) true false)]) ?_ (fun k hk=>?_)
 ·refine qQ.rd id ?_ ?_ rfl
  all_goals simp (disch:=omega) only [go_sem,seval,id,hN,qJg,Nat.mul_zero,List.map_cons,List.map_nil]
 ·have hl:(hN yX qJg (kG bs) k).length=8:=qNy
  by_cases hlt:k<(kG bs).length/64
  ·generalize hH:hN yX qJg (kG bs) k=H at hl ⊢
   generalize hB:List.take 64 (List.drop (64*k) (kG bs))=B
   have hBl:B.length=64:=by rw[←hB];simp only[List.length_take,List.length_drop];omega
   simp (disch:=omega) only [go_sem,seval,kK]
   refine qD 64 (fun t=>[(8,.t (.int .i64 t)),(7,.ref 32768 0 0),(3,.ref 8208 0 0),(4,.sl 12288 0 8),(5,.sl 16400 0 (kG bs).length),(6,.t (.int .i64 ((64*k:Nat):Int)))])
    (fun t=>[(32768,.live 1 (((kX B t).map qK).map V.t) true true),(8208,.live 1 ((qTb.map qK).map V.t) true true),(12288,.live 1 ((H.map qK).map V.t) true false),(16400,.live 1 (((kG bs).map qA).map V.t) true false)]) ?_ (fun t ht=>?_)
   ·refine qQ.rd id ?_ ?_ rfl
    all_goals simp (disch:=omega) only [go_sem,seval,id,kX]
   ·have hs:(kX B t).length=64:=qKw
    by_cases hlt2:t<64
    ·by_cases h16:t<16
     ·simp (disch:=omega) only [go_sem,seval,vV,h3,qY3,hs,hB]
      refine⟨hlt2,qQ.rd id ?_ ?_ rfl⟩
      all_goals simp (disch:=omega) only [go_sem,seval,id,kX,if_pos h16]
     ·simp (config := { maxSteps:=2000000 }) (disch:=(first | omega | (simp only[qBq,qBp];omega))) only [go_sem,seval,vV,h4,zGv,hs]
      repeat refine And.intro rfl ?_
      refine⟨hlt2,qQ.rd id ?_ ?_ rfl⟩
      all_goals simp (config := { maxSteps:=2000000 }) (disch:=(first | omega | (simp only[qBq,qBp];omega))) only [go_sem,seval,id,kX,if_neg h16]
      rfl
    ·have e:t=64:=by omega
     subst e
     have hT:List.take 8 H=H:=List.take_of_length_le (by omega)
     simp (disch:=omega) only [go_sem,seval,vV,hl,hT]
     refine qD 64 (fun t=>[(12,.t (.int .i64 t)),(11,.sl 69664 0 8),(7,.ref 32768 0 0),(3,.ref 8208 0 0),(4,.sl 12288 0 8),(5,.sl 16400 0 (kG bs).length),(6,.t (.int .i64 ((64*k:Nat):Int)))])
      (fun t=>[(69664,.live 1 (((kI (kX B 64) H t).map qK).map V.t) true false),(32768,.live 1 (((kX B 64).map qK).map V.t) true true),(8208,.live 1 ((qTb.map qK).map V.t) true true),(12288,.live 1 ((H.map qK).map V.t) true false),(16400,.live 1 (((kG bs).map qA).map V.t) true false)]) ?_ (fun t ht=>?_)
     ·refine qQ.rd id ?_ ?_ rfl
      all_goals simp (disch:=omega) only [go_sem,seval,id,kI]
     ·have hr:(kI (kX B 64) H t).length=8:=qIi hl
      by_cases hlt3:t<64
      ·simp (config := { maxSteps:=2000000 }) (disch:=(first | omega | (simp only[qBq,qBp];omega))) only [go_sem,seval,kL,h4,zGv,hs,hr,hk2]
       repeat refine And.intro rfl ?_
       refine⟨hlt3,qQ.rd (fun i=>if i=69664 then 98656 else i) ?_ ?_ rfl⟩
       all_goals simp (disch:=omega) only [go_sem,seval,kI,rnd]
       trace_state
      ·have e:t=64:=by omega
       subst e
       simp (disch:=omega) only [go_sem,seval,kL]
       refine qD 8 (fun t=>[(17,.t (.int .i64 t)),(11,.sl 69664 0 8),(3,.ref 8208 0 0),(4,.sl 12288 0 8),(5,.sl 16400 0 (kG bs).length),(6,.t (.int .i64 ((64*k:Nat):Int)))])
        (fun t=>[(69664,.live 1 (((kI (kX B 64) H 64).map qK).map V.t) true false),(8208,.live 1 ((qTb.map qK).map V.t) true true),(12288,.live 1 (((zA5 H (kI (kX B 64) H 64) t).map qK).map V.t) true false),(16400,.live 1 (((kG bs).map qA).map V.t) true false)]) ?_ (fun t ht=>?_)
       ·refine qQ.rd id ?_ ?_ rfl
        all_goals simp (disch:=omega) only [go_sem,seval,id,zA5]
       ·have ha:(zA5 H (kI (kX B 64) H 64) t).length=8:=by rw[qGl,hl]
        by_cases hlt4:t<8
        ·simp (disch:=omega) only [go_sem,seval,kM,hr,ha]
         repeat refine And.intro rfl ?_
         refine⟨hlt4,qQ.rd id ?_ ?_ rfl⟩
         all_goals simp (disch:=omega) only [go_sem,seval,id,zA5]
        ·have e:t=8:=by omega
         subst e
         simp (disch:=omega) only [go_sem,seval,kM]
         refine⟨hlt,qQ.rd id ?_ ?_ rfl⟩
         all_goals simp (disch:=omega) only [go_sem,seval,id,hN,hH,hB,yX]
         omega
  ·have e:k=(kG bs).length/64:=by omega
   subst e
   have e2:64*((kG bs).length/64)=(kG bs).length:=by omega
   have ht:List.take 8 (hN yX qJg (kG bs) ((kG bs).length/64))=hN yX qJg (kG bs) ((kG bs).length/64):=List.take_of_length_le (by omega)
   simp (disch:=omega) only [go_sem,seval,kK,e2,h5,qOo,hl,ht,zS,zSr]
end Go.Eng
end
section
set_option maxRecDepth 20000
set_option maxHeartbeats 8000000
namespace Go.Eng
def szA (a:Nat):Nat:=if a=0 then 20 else if a=1 then 32 else 0
def zCn (a:Nat) (bs:List UInt8):List UInt8:=if a=0 then qTd bs else if a=1 then zS bs else []
theorem qOq {comp:List UInt32→List UInt8→List UInt32} {iv:List UInt32} {bs:List UInt8} {n:Nat} (hc : ∀ h b,h.length=n→(comp h b).length=n) (hi:iv.length=n):(zSr comp iv bs).length=4*n:=by
 have : ∀ k p,(hN comp iv p k).length=n:=by
  intro k p
  induction k with
  | zero=>exact hi
  | succ k ih=>exact hc _ _ ih
 rw[zSr,qCl,this]
theorem qH {bs:List UInt8}:(zS bs).length=32:=qOq (n:=8) (fun h b e=>by rw[qF8,e]) rfl
theorem vA {bs:List UInt8}:(qTd bs).length=20:=qOq (n:=5) (fun h b _=>rfl) rfl
theorem kY {a:Nat} {bs:List UInt8}:(zCn a bs).length=szA a:=by
 unfold zCn szA
 split
 ·exact vA
 ·split
  ·exact qH
  ·rfl
theorem qYl (tab:Tab) (gl:Gl) (bs:List UInt8) (hb:bs.length<1000000000):qJ7.wp tab gl (qE 0 [.t (.sl (bs.map qA))]) (qE 0 []) (qAg [] [(2,none)] 0 (fun r o=>r = .sl 0 0 bs.length∧o=[.live 1 ((bs.map qA).map V.t) true false])):=by
 simp (disch:=omega) only [go_sem,seval,qJ7]
def qKq (n:Nat) (f:List UInt8→List UInt8):Ct where
 α:=List UInt8
 as x:=[.t (.sl (x.map qA))]
 ins _:=[]
 pre x:=x.length<1000000000
 r _:= .sl 0 0 n
 outs x:=[.live 1 (((f x).map qA).map V.t) true false]
 inj:=by
  intro a b h _
  simp[qP] at h
  subst h;exact⟨rfl,rfl⟩
theorem zAw {n:Nat} {f:List UInt8→List UInt8} {bs:List UInt8} (h:bs.length<1000000000):(qKq n f).fs [.t (.sl (bs.map qA))] []=some (.sl 0 0 n,[.live 1 (((f bs).map qA).map V.t) true false]):=(qKq n f).eq bs h
def zIk (n:Nat):List UInt8:=[UInt8.ofNat (n/2^24),UInt8.ofNat (n/2^16),UInt8.ofNat (n/2^8),UInt8.ofNat n]
def zK (tag:Nat) (fs:List (List UInt8)):List UInt8:=UInt8.ofNat tag::fs.flatMap fun f=>zIk f.length++f
theorem qDh {tag:Nat} {fs:List (List UInt8)} {k:Nat} (h:k<fs.length):zK tag (fs.take (k+1))=zK tag (fs.take k)++zIk (fs.getD k []).length++fs.getD k []:=by
 rw[qGh (d:=[]) h];simp[zK]
theorem qH7 {tag:Nat} {fs:List (List UInt8)} {k:Nat}:(zK tag (fs.take k)).length≤(zK tag fs).length:=by
 have:zK tag fs=zK tag (fs.take k)++(fs.drop k).flatMap fun f=>zIk f.length++f:=by
  simp only[zK,List.cons_append,←List.flatMap_append,List.take_append_drop]
 rw[this,List.length_append];omega
theorem qUk {tag:Nat} {fs:List (List UInt8)}:4*fs.length+1≤(zK tag fs).length:=by
 simp only[zK,List.length_cons]
 have:4*fs.length≤(fs.flatMap fun f=>zIk f.length++f).length:=by
  induction fs with
  | nil=>simp
  | cons f r ih=>
   have h4 : ∀ n,(zIk n).length=4:=fun _=>rfl
   simp only[List.flatMap_cons,List.length_append,List.length_cons,h4];omega
 omega
theorem qPo (tab:Tab) (gl:Gl) (tag:Nat) (ht:tag<256) (fs:List (List UInt8)) (hb:(zK tag fs).length<1000000000):qEf.wp tab gl (qE 0 [.t (.int .i64 tag),.t (.sl (fs.map bsT))]) (qE 0 []) (qAg [] [(4,none)] 0 (fun r o=>r = .sl 0 0 (zK tag fs).length∧o=[.live 1 (((zK tag fs).map qA).map V.t) true false])):=by
 simp (disch:=omega) only [go_sem,seval,qEf]
 have hge:=qUk (tag:=tag) (fs:=fs)
 refine qD fs.length (fun k=>[(5,.sl 8224 0 (zK tag (fs.take k)).length),(12,V.t (T.sl (List.map bsT fs))),(13,.t (.int .i64 fs.length)),(14,.t (.int .i64 k))]) (fun k=>[(8224,.live 1 (((zK tag (fs.take k)).map qA).map V.t) true false)]) ?_ (fun k hk=>?_)
 ·refine qQ.rd id ?_ ?_ rfl
  all_goals simp (disch:=omega) only [go_sem,seval,id,zK,List.flatMap_nil,List.map_cons,List.map_nil]
 ·have h0:=qH7 (tag:=tag) (fs:=fs) (k:=k)
  by_cases hlt:k<fs.length
  ·have h1:=qH7 (tag:=tag) (fs:=fs) (k:=k+1)
   rw[qDh hlt,List.length_append,List.length_append] at h1
   have h2:(zIk (fs.getD k []).length).length=4:=rfl
   simp (disch:=omega) only [go_sem,seval,wV]
   refine⟨hlt,qQ.rd (fun _=>32800) ?_ ?_ rfl⟩
   all_goals simp (disch:=omega) only [go_sem,seval,qDh,zIk]
   simp only[List.append_assoc,List.cons_append,List.nil_append]
  ·have e:k=fs.length:=by omega
   subst e
   simp (disch:=omega) only [go_sem,seval,wV,List.take_length]
theorem qV0 (tab:Tab) (gl:Gl) (tag:Nat) (ht:tag<256) (fs:List (List UInt8)) (hb:(zK tag fs).length<1000000000):qHr.wp tab gl (qE 0 [.t (.int .i64 tag),.t (.sl (fs.map bsT))]) (qE 0 []) (qAg [] [(4,none)] 0 (fun r o=>r = .sl 0 0 (zK tag fs).length∧o=[.live 1 (((zK tag fs).map qA).map V.t) true false])):=by
 simp (disch:=omega) only [go_sem,seval,qHr]
 have hge:=qUk (tag:=tag) (fs:=fs)
 refine qD fs.length (fun k=>[(5,.sl 8224 0 (zK tag (fs.take k)).length),(1,V.t (T.sl (List.map bsT fs))),(6,.t (.int .i64 k))]) (fun k=>[(8224,.live 1 (((zK tag (fs.take k)).map qA).map V.t) true false)]) ?_ (fun k hk=>?_)
 ·refine qQ.rd id ?_ ?_ rfl
  all_goals simp (disch:=omega) only [go_sem,seval,id,zK,List.flatMap_nil,List.map_cons,List.map_nil]
 ·have h0:=qH7 (tag:=tag) (fs:=fs) (k:=k)
  by_cases hlt:k<fs.length
  ·have h1:=qH7 (tag:=tag) (fs:=fs) (k:=k+1)
   rw[qDh hlt,List.length_append,List.length_append] at h1
   have h2:(zIk (fs.getD k []).length).length=4:=rfl
   simp (disch:=omega) only [go_sem,seval,qAb]
   refine⟨hlt,qQ.rd (fun _=>32848) ?_ ?_ rfl⟩
   all_goals simp (disch:=omega) only [go_sem,seval,qDh,zIk]
   simp only[List.append_assoc,List.cons_append,List.nil_append]
  ·have e:k=fs.length:=by omega
   subst e
   simp (disch:=omega) only [go_sem,seval,qAb,List.take_length]
theorem qYn (tab:Tab) (gl:Gl) (a b:List UInt8) (ha:a.length<1000000000) (hb:b.length<1000000000):qEm.wp tab gl (qE 0 [.t (.sl (a.map qA)),.t (.sl (b.map qA))]) (qE 0 []) (jK [(4,none)] 0 (fun r o=>r = .t (.bool (decide (a=b)))∧o=[])):=by
 by_cases hl:a.length=b.length
 ·simp (disch:=omega) only [go_sem,seval,qEm]
  refine kU a.length (fun i=>a.take i=b.take i) (fun k=>[(5,.t (.int .i64 k)),(0,.t (.sl (a.map qA))),(1,.t (.sl (b.map qA)))]) (fun _=>[]) rfl ?_ (fun k hk hP=>?_)
  ·refine qQ.rd id ?_ ?_ rfl
   all_goals simp (disch:=omega) only [go_sem,seval,id]
  ·by_cases hlt:k<a.length
   ·by_cases he:a.getD k 0=b.getD k 0
    ·simp (disch:=omega) only [go_sem,seval,kA,he]
     refine⟨rfl,hlt,?_,qQ.rd id ?_ ?_ rfl⟩
     ·rw[qGh (d:=0) hlt,qGh (d:=0) (by omega),hP,he]
     all_goals simp (disch:=omega) only [go_sem,seval,id]
    ·have hne : ¬ a=b:=fun h=>he (by rw[h])
     simp (disch:=omega) only [go_sem,seval,kA,he,hne]
     rfl
   ·have e:k=a.length:=by omega
    subst e
    rw[List.take_length,hl,List.take_length] at hP
    simp (disch:=omega) only [go_sem,seval,kA,hP]
 ·have hne : ¬ a=b:=fun h=>hl (by rw[h])
  simp (disch:=omega) only [go_sem,seval,qEm,hne]
end Go.Eng
end
section
set_option maxRecDepth 20000
set_option maxHeartbeats 8000000
namespace Go.Eng
def kQ:Ct where
 α:=List UInt8×List UInt8
 as x:=[.t (.sl (x.1.map qA)),.t (.sl (x.2.map qA))]
 ins _:=[]
 pre x:=x.1.length<1000000000∧x.2.length<1000000000
 r x:= .t (.bool (decide (x.1=x.2)))
 outs _:=[]
 inj:=by
  rintro⟨a,b⟩ ⟨c,d⟩ h _
  simp[qP] at h
  obtain⟨rfl,rfl⟩:=h
  exact⟨rfl,rfl⟩
theorem qFd {a b:List UInt8} (h:a.length<1000000000∧b.length<1000000000):kQ.fs [.t (.sl (a.map qA)),.t (.sl (b.map qA))] []=some (.t (.bool (decide (a=b))),[]):=kQ.eq (a,b) h
def zTs (l:List (List UInt8)):Prop:=l.length<1000000000 ∧ ∀ x∈l,x.length<1000000000
theorem qR1 {l:List (List UInt8)} (h:zTs l) (i:Nat):(l.getD i []).length<1000000000:=by
 by_cases hi:i<l.length
 ·have:l.getD i []=l[i]:=by simp[List.getD,hi]
  rw[this];exact h.2 _ (List.getElem_mem hi)
 ·simp[List.getD,List.getElem?_eq_none (Nat.le_of_not_lt hi)]
def xE:Ct where
 α:=Nat×List (List UInt8)
 as x:=[.t (.int .i64 x.1),.t (.sl (x.2.map bsT))]
 ins _:=[]
 pre x:=x.1<256∧(zK x.1 x.2).length<1000000000
 r x:= .sl 0 0 (zK x.1 x.2).length
 outs x:=[.live 1 (((zK x.1 x.2).map qA).map V.t) true false]
 inj:=by
  rintro⟨a,b⟩ ⟨c,d⟩ h _
  simp[qCz,Int.natCast_inj] at h
  obtain⟨rfl,rfl⟩:=h
  exact⟨rfl,rfl⟩
theorem qLq {t:Nat} {fs:List (List UInt8)} (h:t<256∧(zK t fs).length<1000000000):xE.fs [.t (.int .i64 t),.t (.sl (fs.map bsT))] []=some (.sl 0 0 (zK t fs).length,[.live 1 (((zK t fs).map qA).map V.t) true false]):=xE.eq (t,fs) h
def qBo (t:Nat) (fs:List (List UInt8)):List UInt8:=zS (zK t fs)
def qAe:Ct where
 α:=Nat×List UInt8
 as x:=[.t (.int .i64 x.1),.t (.sl (x.2.map qA))]
 ins _:=[]
 pre x:=x.1<2∧x.2.length<1000000000
 r x:= .sl 0 0 (szA x.1)
 outs x:=[.live 1 (((zCn x.1 x.2).map qA).map V.t) true false]
 inj:=by
  rintro⟨a,b⟩ ⟨c,d⟩ h _
  simp[qP,Int.natCast_inj] at h
  obtain⟨rfl,rfl⟩:=h
  exact⟨rfl,rfl⟩
theorem zU {bs:List UInt8} (h:bs.length<1000000000):qAe.fs [.t (.int .i64 0),.t (.sl (bs.map qA))] []=some (.sl 0 0 20,[.live 1 (((qTd bs).map qA).map V.t) true false]):=qAe.eq (0,bs) ⟨by simp,h⟩
theorem zO {bs:List UInt8} (h:bs.length<1000000000):qAe.fs [.t (.int .i64 1),.t (.sl (bs.map qA))] []=some (.sl 0 0 32,[.live 1 (((zS bs).map qA).map V.t) true false]):=qAe.eq (1,bs) ⟨by simp,h⟩
theorem qSt (tab:Tab) (gl:Gl) (n1 n2:Nat) (h1:tab.look n1=some xE.fs) (h2:tab.look n2=some qAe.fs) (t:Nat) (fs:List (List UInt8)) (ht:t<256) (hb:(zK t fs).length<1000000000) :
  (qFu n1 n2).wp tab gl (qE 0 [.t (.int .i64 t),.t (.sl (fs.map bsT))]) (qE 0 []) (qAg [] [(4,none)] 0 (fun r o=>r = .sl 0 0 32∧o=[.live 1 (((qBo t fs).map qA).map V.t) true false])):=by
 simp (disch:=omega) only [go_sem,seval,qFu,h1,h2,qLq,zO,qBo]
theorem qYm (tab:Tab) (gl:Gl) (n1 n2:Nat) (h1:tab.look n1=some xE.fs) (h2:tab.look n2=some (qKq 32 zS).fs) (t:Nat) (fs:List (List UInt8)) (ht:t<256) (hb:(zK t fs).length<1000000000) :
  (qJ8 n1 n2).wp tab gl (qE 0 [.t (.int .i64 t),.t (.sl (fs.map bsT))]) (qE 0 []) (qAg [] [(4,none)] 0 (fun r o=>r = .sl 0 0 32∧o=[.live 1 (((qBo t fs).map qA).map V.t) true false])):=by
 simp (disch:=omega) only [go_sem,seval,qJ8,h1,h2,qLq,zAw,qBo]
theorem qVr (tab:Tab) (gl:Gl) (n1 n2 n3 n4:Nat) (h1:tab.look n1=some qGa.fs) (h2:tab.look n2=some (vP 5 qDc).fs) (h3:tab.look n3=some wH.fs) (h4:tab.look n4=some (vP 8 yX).fs) (a:Nat) (ha:a<2) (bs:List UInt8) (hb:bs.length<1000000000) :
  (wW n1 n2 n3 n4).wp tab gl (qE 0 [.t (.int .i64 a),.t (.sl (bs.map qA))]) (qE 0 []) (qAg [] [(4,none)] 0 (fun r o=>r = .sl 0 0 (szA a)∧o=[.live 1 (((zCn a bs).map qA).map V.t) true false])):=by
 rcases (show a=0∨a=1 by omega) with rfl | rfl
 ·exact qPp tab gl n1 n2 n3 n4 h1 h3 h2 bs hb
 ·exact qK7 tab gl n1 n2 n3 n4 h1 h3 h4 bs hb
end Go.Eng
end
section
namespace Go.Eng
def qA2:AC:=
 (.seq
 (.seq
 (rG 24576 [mv 20 8,bN 21 .geq 20 0])
 (.cond (.tmp 21)
 .skip
 (.exit 0)))
 (.seq
 (.block 1
 (rG 32768 [mv 24 7,mv 25 2,oO 26 (.conv .u64) [.tmp 25],mv 27 8,oO 28 (.bin .mul) [.cst (.t (.int .i64 8)),.tmp 27],oO 29 (.conv .u64) [.tmp 28],bT 30 .shr 26 29,oO 31 (.conv .u8) [.tmp 30],oO 32 (.bslice 1 1 (.t (qA 0)) [0]) [.tmp 31],oO 33 (.append 1 1) [.tmp 24,.tmp 32],mv 7 33]))
 (rG 28672 [mv 22 8,bN 23 .sub 22 1,mv 8 23])))
def qKi:AC:=
 (.seq
 (rG 4096 [mC 6 .nil])
 (.seq
 (rG 8192 [mv 9 0,oO 10 (.append 1 1) [.cst .nil,.tmp 9],mv 7 10])
 (.seq
 (.seq
 (rG 12288 [mv 11 1,bN 12 .lss 11 1,mv 13 12,mF 14 1 13,oF 15 13 (.bin .gtr) [.tmp 14,.cst (.t (.int .i64 8))],oO 16 .pick [.tmp 13,.cst (.t (.bool true)),.tmp 15]])
 (.cond (.tmp 16)
 (.seq
 (rG 16384 [mv 17 7,mv 6 17])
 .ret)
 .skip))
 (.seq
 (.seq
 (rG 20480 [mv 18 1,bN 19 .sub 18 1,mv 8 19])
 (.block 0
 (.loop qA2)))
 (.seq
 (rG 36864 [mv 34 7,mv 6 34])
 .ret)))))
def qMe:AC:=
 (.seq
 (rG 4096 [mC 2 (.t .pnil)])
 (.seq
 (rG 8192 [mv 3 0,oO 4 (.append 1 1) [.cst .nil,.tmp 3],oO 5 (.build [.nil,(.t (.int .i64 0)),(.t (.int .i64 0))] [(0,1)]) [.tmp 4],oO 6 .box [.tmp 5],mv 2 6])
 .ret))
def yD:AC:=
 (.seq
 (rG 4096 [mC 6 .nil,mC 7 (.t (.int .i64 0))])
 (.seq
 (.seq
 (rG 8192 [mv 8 2,mv 9 0,oO 10 .nilchk [.tmp 9],oO 11 (.faddr 0) [.tmp 10],oO 12 (.load 1 false) [.tmp 11],oO 13 .len [.tmp 12],mv 14 1,bT 15 .sub 13 14,bT 16 .gtr 8 15])
 (.cond (.tmp 16)
 (.seq
 (rG 12288 [mC 6 .nil,mC 7 (.t (.int .i64 2))])
 .ret)
 .skip))
 (.seq
 (rG 16384 [mv 17 0,oO 18 .nilchk [.tmp 17],oO 19 (.faddr 0) [.tmp 18],oO 20 (.load 1 false) [.tmp 19],mv 21 1,mv 22 1,mv 23 2,bT 24 .add 22 23,oO 25 (.slice 1 true true false) [.tmp 20,.tmp 21,.tmp 24],mv 6 25,mC 7 (.t (.int .i64 0))])
 .ret)))
def qA1:AC:=
 (rG 4096 [mv 4 0,mv 5 1,oO 6 .nilchk [.tmp 4],oO 7 (.faddr 2) [.tmp 6],oS 1 7 5])
def vL (n_wire_Reader_fail n_wire_Reader_take:Nat):AC:=
 (.seq
 (rG 4096 [mC 4 .nil])
 (.seq
 (.seq
 (rG 8192 [mv 7 0,oO 8 .nilchk [.tmp 7],oO 9 (.faddr 2) [.tmp 8],oO 10 (.load 1 false) [.tmp 9],bN 11 .neq 10 0])
 (.cond (.tmp 11)
 (.seq
 (rG 12288 [mC 4 .nil])
 .ret)
 .skip))
 (.seq
 (.seq
 (rG 16384 [mv 12 1,bN 13 .lss 12 0])
 (.cond (.tmp 13)
 (.seq
 (rG 20480 [mv 14 0,cL 15 n_wire_Reader_fail true [.tmp 14,.cst (.t (.int .i64 1))]])
 (.seq
 (rG 24576 [mC 4 .nil])
 .ret))
 .skip))
 (.seq
 (rG 28672 [mv 17 0,mv 18 0,oO 19 .nilchk [.tmp 18],oO 20 (.faddr 1) [.tmp 19],oO 21 (.load 1 false) [.tmp 20],mv 22 1,cL 23 n_wire_Reader_take true [.tmp 17,.tmp 21,.tmp 22],mv 16 23,oO 24 (.extract 0) [.tmp 16],oO 25 (.extract 1) [.tmp 16],mv 5 24,mv 6 25])
 (.seq
 (.seq
 (rG 32768 [mv 26 6,bN 27 .neq 26 0])
 (.cond (.tmp 27)
 (.seq
 (rG 36864 [mv 28 0,mv 29 6,cL 30 n_wire_Reader_fail true [.tmp 28,.tmp 29]])
 (.seq
 (rG 40960 [mC 4 .nil])
 .ret))
 .skip))
 (.seq
 (rG 45056 [mv 31 0,oO 32 .nilchk [.tmp 31],oO 33 (.faddr 1) [.tmp 32],oO 34 (.load 1 false) [.tmp 33],mv 35 1,bT 36 .add 34 35,oO 37 .nilchk [.tmp 31],oO 38 (.faddr 1) [.tmp 37],oS 1 38 36])
 (.seq
 (rG 49152 [mv 39 5,oO 40 (.append 1 1) [.cst .nil,.tmp 39],mv 4 40])
 .ret)))))))
def qA0:AC:=
 (.seq
 (rG 4096 [mC 2 (.t (.int .i64 0))])
 (.seq
 (.reg 8192 (some [0,1,3,7,15,0,32,96,224,511,1023]) [mv 3 0,oO 4 .nilchk [.tmp 3],oO 5 (.faddr 0) [.tmp 4],oO 6 (.load 1 false) [.tmp 5],oO 7 .len [.tmp 6],mv 8 0,oO 9 .nilchk [.tmp 8],oO 10 (.faddr 1) [.tmp 9],oO 11 (.load 1 false) [.tmp 10],bT 12 .sub 7 11,mv 2 12])
 .ret))
def vK (n_wire_Reader_Left:Nat):AC:=
 (.seq
 (rG 4096 [mC 2 (.t (.int .i64 0))])
 (.seq
 (.seq
 (rG 8192 [mv 3 0,oO 4 .nilchk [.tmp 3],oO 5 (.faddr 2) [.tmp 4],oO 6 (.load 1 false) [.tmp 5],bN 7 .eql 6 0,mv 8 7,mG 9 0 8,cG 10 8 n_wire_Reader_Left true [.tmp 9],oG 11 8 (.bin .gtr) [.tmp 10,.cst (.t (.int .i64 0))],oO 12 .pick [.tmp 8,.tmp 11,.cst (.t (.bool false))]])
 (.cond (.tmp 12)
 (.seq
 (rG 12288 [mC 2 (.t (.int .i64 3))])
 .ret)
 .skip))
 (.seq
 (rG 16384 [mv 13 0,oO 14 .nilchk [.tmp 13],oO 15 (.faddr 2) [.tmp 14],oO 16 (.load 1 false) [.tmp 15],mv 2 16])
 .ret)))
def qAx:AC:=
 (.seq
 (.seq
 (rG 24576 [mv 21 8,bN 22 .geq 21 0])
 (.cond (.tmp 22)
 .skip
 (.exit 0)))
 (.seq
 (.block 1
 (rG 32768 [mv 25 7,mv 26 2,oO 27 (.conv .u64) [.tmp 26],mv 28 8,oO 29 (.conv .u64) [.tmp 28],oO 30 (.bin .mul) [.cst (.t (.int .u64 8)),.tmp 29],bT 31 .shr 27 30,oO 32 (.conv .u8) [.tmp 31],oO 33 (.bslice 1 1 (.t (qA 0)) [0]) [.tmp 32],oO 34 (.append 1 1) [.tmp 25,.tmp 33],mv 7 34]))
 (rG 28672 [mv 23 8,bN 24 .sub 23 1,mv 8 24])))
def qKd:AC:=
 (.seq
 (rG 4096 [mC 6 .nil])
 (.seq
 (rG 8192 [oO 9 (.bslice 1 0 (.t (qA 0)) []) [],mv 10 0,oO 11 (.append 1 1) [.tmp 9,.tmp 10],mv 7 11])
 (.seq
 (.seq
 (rG 12288 [mv 12 1,bN 13 .lss 12 1,mv 14 13,mF 15 1 14,oF 16 14 (.bin .gtr) [.tmp 15,.cst (.t (.int .i64 8))],oO 17 .pick [.tmp 14,.cst (.t (.bool true)),.tmp 16]])
 (.cond (.tmp 17)
 (.seq
 (rG 16384 [mv 18 7,mv 6 18])
 .ret)
 .skip))
 (.seq
 (.seq
 (rG 20480 [mv 19 1,bN 20 .sub 19 1,mv 8 20])
 (.block 0
 (.loop qAx)))
 (.seq
 (rG 36864 [mv 35 7,mv 6 35])
 .ret)))))
def qMc:AC:=
 (.seq
 (rG 4096 [mC 2 (.t .pnil)])
 (.seq
 (rG 8192 [mv 3 0,oO 4 (.build [.nil,(.t (.int .i64 0)),(.t (.int .i64 0))] [(0,1)]) [.tmp 3],oO 5 .box [.tmp 4],mv 2 5])
 .ret))
def yB:AC:=
 (.seq
 (rG 4096 [mC 4 (.t (.bool false))])
 (.seq
 (.seq
 (.reg 8192 (some [0,1,3,7,15,31,63,127,255,511,1023,63,2111,6207,14399,32767,63,131071,262143]) [mv 5 0,oO 6 .nilchk [.tmp 5],oO 7 (.faddr 2) [.tmp 6],oO 8 (.load 1 false) [.tmp 7],bN 9 .eql 8 0,mv 10 9,mG 11 0 10,oG 12 10 .nilchk [.tmp 11],oG 13 10 (.faddr 0) [.tmp 12],oG 14 10 (.load 1 false) [.tmp 13],oG 15 10 .len [.tmp 14],mG 16 0 10,oG 17 10 .nilchk [.tmp 16],oG 18 10 (.faddr 1) [.tmp 17],oG 19 10 (.load 1 false) [.tmp 18],oG 20 10 (.bin .sub) [.tmp 15,.tmp 19],mG 21 1 10,oG 22 10 (.bin .lss) [.tmp 20,.tmp 21],oO 23 .pick [.tmp 10,.tmp 22,.cst (.t (.bool false))]])
 (.cond (.tmp 23)
 (rG 12288 [mv 24 0,oO 25 .nilchk [.tmp 24],oO 26 (.faddr 2) [.tmp 25],⟨none,(.op (.store 1)),[.tmp 26,.cst (.t (.int .i64 2))],none⟩])
 .skip))
 (.seq
 (rG 16384 [mv 27 0,oO 28 .nilchk [.tmp 27],oO 29 (.faddr 2) [.tmp 28],oO 30 (.load 1 false) [.tmp 29],bN 31 .eql 30 0,mv 4 31])
 .ret)))
def vI (n_ref3_Reader_need:Nat):AC:=
 (.seq
 (rG 4096 [mC 4 .nil])
 (.seq
 (.seq
 (rG 8192 [mv 5 0,oO 6 .nilchk [.tmp 5],oO 7 (.faddr 2) [.tmp 6],oO 8 (.load 1 false) [.tmp 7],bN 9 .eql 8 0,mv 10 9,mG 11 1 10,oG 12 10 (.bin .lss) [.tmp 11,.cst (.t (.int .i64 0))],oO 13 .pick [.tmp 10,.tmp 12,.cst (.t (.bool false))]])
 (.cond (.tmp 13)
 (rG 12288 [mv 14 0,oO 15 .nilchk [.tmp 14],oO 16 (.faddr 2) [.tmp 15],⟨none,(.op (.store 1)),[.tmp 16,.cst (.t (.int .i64 1))],none⟩])
 .skip))
 (.seq
 (.seq
 (rG 16384 [mv 17 0,oO 18 .nilchk [.tmp 17],oO 19 (.faddr 2) [.tmp 18],oO 20 (.load 1 false) [.tmp 19],bN 21 .neq 20 0,mv 22 21,mF 23 0 22,mF 24 1 22,cF 25 22 n_ref3_Reader_need true [.tmp 23,.tmp 24],oF 26 22 (.un .not) [.tmp 25],oO 27 .pick [.tmp 22,.cst (.t (.bool true)),.tmp 26]])
 (.cond (.tmp 27)
 (.seq
 (rG 20480 [mC 4 .nil])
 .ret)
 .skip))
 (.seq
 (rG 24576 [mv 28 0,oO 29 .nilchk [.tmp 28],oO 30 (.faddr 1) [.tmp 29],oO 31 (.load 1 false) [.tmp 30],mv 32 1,bT 33 .add 31 32,oO 34 .nilchk [.tmp 28],oO 35 (.faddr 1) [.tmp 34],oS 1 35 33])
 (.seq
 (.reg 28672 (some [0,0,2,6,14,0,32,96,224,0,992,0,2048,6144,14336,32766,65535,131071]) [oO 36 (.bslice 1 0 (.t (qA 0)) []) [],mv 37 0,oO 38 .nilchk [.tmp 37],oO 39 (.faddr 0) [.tmp 38],oO 40 (.load 1 false) [.tmp 39],mv 41 0,oO 42 .nilchk [.tmp 41],oO 43 (.faddr 1) [.tmp 42],oO 44 (.load 1 false) [.tmp 43],mv 45 1,bT 46 .sub 44 45,mv 47 0,oO 48 .nilchk [.tmp 47],oO 49 (.faddr 1) [.tmp 48],oO 50 (.load 1 false) [.tmp 49],oO 51 (.slice 1 true true false) [.tmp 40,.tmp 46,.tmp 50],oO 52 (.append 1 1) [.tmp 36,.tmp 51],mv 4 52])
 .ret)))))
def qAw:AC:=
 (.seq
 (rG 4096 [mC 2 (.t (.int .i64 0))])
 (.seq
 (.reg 8192 (some [0,1,3,7,15,0,32,96,224,511,1023]) [mv 3 0,oO 4 .nilchk [.tmp 3],oO 5 (.faddr 0) [.tmp 4],oO 6 (.load 1 false) [.tmp 5],oO 7 .len [.tmp 6],mv 8 0,oO 9 .nilchk [.tmp 8],oO 10 (.faddr 1) [.tmp 9],oO 11 (.load 1 false) [.tmp 10],bT 12 .sub 7 11,mv 2 12])
 .ret))
def vH (n_ref3_Reader_Left:Nat):AC:=
 (.seq
 (rG 4096 [mC 2 (.t (.int .i64 0))])
 (.seq
 (.seq
 (rG 8192 [mv 3 0,oO 4 .nilchk [.tmp 3],oO 5 (.faddr 2) [.tmp 4],oO 6 (.load 1 false) [.tmp 5],bN 7 .eql 6 0,mv 8 7,mG 9 0 8,cG 10 8 n_ref3_Reader_Left true [.tmp 9],oG 11 8 (.bin .gtr) [.tmp 10,.cst (.t (.int .i64 0))],oO 12 .pick [.tmp 8,.tmp 11,.cst (.t (.bool false))]])
 (.cond (.tmp 12)
 (.seq
 (rG 12288 [mC 2 (.t (.int .i64 3))])
 .ret)
 .skip))
 (.seq
 (rG 16384 [mv 13 0,oO 14 .nilchk [.tmp 13],oO 15 (.faddr 2) [.tmp 14],oO 16 (.load 1 false) [.tmp 15],mv 2 16])
 .ret)))
def qC9:AC:=
 (.seq
 (rG 4096 [mC 4 (.t (.int .i64 0))])
 (.seq
 (.seq
 (rG 8192 [mv 6 1,bN 7 .lss 6 1])
 (.cond (.tmp 7)
 (.seq
 (rG 12288 [mC 4 (.t (.int .i64 0))])
 .ret)
 .skip))
 (.seq
 (rG 16384 [mv 8 0,mv 9 1,bT 10 .rem 8 9,mv 5 10])
 (.seq
 (.seq
 (rG 20480 [mv 11 5,bN 12 .lss 11 0])
 (.cond (.tmp 12)
 (rG 24576 [mv 13 5,mv 14 1,bT 15 .add 13 14,mv 5 15])
 .skip))
 (.seq
 (rG 28672 [mv 16 5,mv 4 16])
 .ret)))))
def vF:AC:=
 (.seq
 (.seq
 (rG 77824 [mv 61 10,mv 62 7,bT 63 .lss 61 62])
 (.cond (.tmp 63)
 .skip
 (.exit 0)))
 (.block 1
 (.seq
 (rG 81920 [mv 64 10,mv 65 8,oO 66 .min [.tmp 64,.tmp 65],mv 11 66])
 (.reg 86016 (some [0,0,0,6,0,0,48,126,255,511]) [mv 67 10,mv 68 9,mv 69 10,oO 70 (.slice 1 true false false) [.tmp 68,.tmp 69],mv 71 9,mv 72 11,oO 73 (.slice 1 false true false) [.tmp 71,.tmp 72],oO 74 (.copy 1) [.tmp 70,.tmp 73],bT 75 .add 67 74,mv 10 75]))))
def qEe (n_bits_Mul n_bytealg_MakeNoZero:Nat):AC:=
 (.seq
 (rG 4096 [mC 4 .nil])
 (.seq
 (.seq
 (rG 8192 [mv 12 1,bN 13 .eql 12 0])
 (.cond (.tmp 13)
 (.seq
 (rG 12288 [oO 14 (.bslice 1 0 (.t (qA 0)) []) [],mv 4 14])
 .ret)
 .skip))
 (.seq
 (.seq
 (rG 16384 [mv 15 1,bN 16 .lss 15 0])
 (.cond (.tmp 16)
 (rG 20480 [oO 17 .bad [],⟨none,(.op .bad),[],none⟩])
 .skip))
 (.seq
 (rG 24576 [mv 19 0,oO 20 .len [.tmp 19],oO 21 (.conv .u64) [.tmp 20],mv 22 1,oO 23 (.conv .u64) [.tmp 22],cL 24 n_bits_Mul false [.tmp 21,.tmp 23],mv 18 24,oO 25 (.extract 0) [.tmp 18],oO 26 (.extract 1) [.tmp 18],mv 5 25,mv 6 26])
 (.seq
 (.seq
 (rG 28672 [mv 27 5,oO 28 (.bin .gtr) [.tmp 27,.cst (.t (.int .u64 0))],mv 29 28,mF 30 6 29,oF 31 29 (.bin .gtr) [.tmp 30,.cst (.t (.int .u64 9223372036854775807))],oO 32 .pick [.tmp 29,.cst (.t (.bool true)),.tmp 31]])
 (.cond (.tmp 32)
 (rG 32768 [oO 33 .bad [],⟨none,(.op .bad),[],none⟩])
 .skip))
 (.seq
 (rG 36864 [mv 34 6,oO 35 (.conv .i64) [.tmp 34],mv 7 35])
 (.seq
 (.seq
 (rG 40960 [mv 36 0,oO 37 .len [.tmp 36],bN 38 .eql 37 0])
 (.cond (.tmp 38)
 (.seq
 (rG 45056 [oO 39 (.bslice 1 0 (.t (qA 0)) []) [],mv 4 39])
 .ret)
 .skip))
 (.seq
 (rG 49152 [mv 40 7,mv 8 40])
 (.seq
 (.seq
 (rG 53248 [mv 41 8,bN 42 .gtr 41 8192])
 (.cond (.tmp 42)
 (.seq
 (rG 57344 [mv 43 0,oO 44 .len [.tmp 43],oO 45 (.bin .quo) [.cst (.t (.int .i64 8192)),.tmp 44],mv 46 0,oO 47 .len [.tmp 46],bT 48 .mul 45 47,mv 8 48])
 (.seq
 (rG 61440 [mv 49 8,bN 50 .eql 49 0])
 (.cond (.tmp 50)
 (rG 65536 [mv 51 0,oO 52 .len [.tmp 51],mv 8 52])
 .skip)))
 .skip))
 (.seq
 (rG 69632 [mv 53 7,cL 54 n_bytealg_MakeNoZero false [.tmp 53],mv 55 7,mv 56 7,oO 57 (.slice 1 false true true) [.tmp 54,.tmp 55,.tmp 56],mv 9 57])
 (.seq
 (rG 73728 [mv 58 9,mv 59 0,oO 60 (.copy 1) [.tmp 58,.tmp 59],mv 10 60])
 (.seq
 (.block 0
 (.loop vF))
 (.seq
 (rG 90112 [mv 76 9,mv 4 76])
 .ret)))))))))))))
def qL6 (n_bits_Mul32 n_bits_Mul64:Nat):AC:=
 (.seq
 (rG 4096 [mC 4 (.t (.int .u64 0)),mC 5 (.t (.int .u64 0))])
 (.seq
 (.cond (.cst (.t (.bool false)))
 (.seq
 (rG 8192 [mv 11 0,oO 12 (.conv .u32) [.tmp 11],mv 13 1,oO 14 (.conv .u32) [.tmp 13],cL 15 n_bits_Mul32 false [.tmp 12,.tmp 14],mv 10 15,oO 16 (.extract 0) [.tmp 10],oO 17 (.extract 1) [.tmp 10],mv 6 16,mv 7 17])
 (.seq
 (rG 12288 [mv 18 6,oO 19 (.conv .u64) [.tmp 18],mv 20 7,oO 21 (.conv .u64) [.tmp 20],mv 4 19,mv 5 21])
 .ret))
 .skip)
 (.seq
 (rG 16384 [mv 23 0,mv 24 1,cL 25 n_bits_Mul64 false [.tmp 23,.tmp 24],mv 22 25,oO 26 (.extract 0) [.tmp 22],oO 27 (.extract 1) [.tmp 22],mv 8 26,mv 9 27])
 (.seq
 (rG 20480 [mv 28 8,mv 29 9,mv 4 28,mv 5 29])
 .ret))))
def qC7:AC:=
 (.seq
 (rG 4096 [mC 4 (.t (.int .u64 0)),mC 5 (.t (.int .u64 0))])
 (.seq
 (rG 8192 [mv 14 0,oO 15 (.bin .and) [.tmp 14,.cst (.t (.int .u64 4294967295))],mv 6 15])
 (.seq
 (rG 12288 [mv 16 0,oO 17 (.bin .shr) [.tmp 16,.cst (.t (.int .u64 32))],mv 7 17])
 (.seq
 (rG 16384 [mv 18 1,oO 19 (.bin .and) [.tmp 18,.cst (.t (.int .u64 4294967295))],mv 8 19])
 (.seq
 (rG 20480 [mv 20 1,oO 21 (.bin .shr) [.tmp 20,.cst (.t (.int .u64 32))],mv 9 21])
 (.seq
 (rG 24576 [mv 22 6,mv 23 8,bT 24 .mul 22 23,mv 10 24])
 (.seq
 (rG 28672 [mv 25 7,mv 26 8,bT 27 .mul 25 26,mv 28 10,oO 29 (.bin .shr) [.tmp 28,.cst (.t (.int .u64 32))],bT 30 .add 27 29,mv 11 30])
 (.seq
 (rG 32768 [mv 31 11,oO 32 (.bin .and) [.tmp 31,.cst (.t (.int .u64 4294967295))],mv 12 32])
 (.seq
 (rG 36864 [mv 33 11,oO 34 (.bin .shr) [.tmp 33,.cst (.t (.int .u64 32))],mv 13 34])
 (.seq
 (rG 40960 [mv 35 12,mv 36 6,mv 37 9,bT 38 .mul 36 37,bT 39 .add 35 38,mv 12 39])
 (.seq
 (rG 45056 [mv 40 7,mv 41 9,bT 42 .mul 40 41,mv 43 13,bT 44 .add 42 43,mv 45 12,oO 46 (.bin .shr) [.tmp 45,.cst (.t (.int .u64 32))],bT 47 .add 44 46,mv 4 47])
 (.seq
 (rG 49152 [mv 48 0,mv 49 1,bT 50 .mul 48 49,mv 5 50])
 .ret))))))))))))
end Go.Eng
end
section
set_option maxRecDepth 20000
set_option maxHeartbeats 8000000
namespace Go.Eng
def m64 (n:Int):Nat:=(n%18446744073709551616).toNat
def beI (size:Nat) (n:Int) (k:Nat):List UInt8:=(List.range k).map fun i=>UInt8.ofNat (m64 n/2^(8*(size-1-i)))
theorem qZd {size:Nat} {n:Int}:beI size n 0=[]:=rfl
theorem qQd {size:Nat} {n:Int} {k:Nat}:(beI size n k).length=k:=by simp[beI]
theorem qRk {size:Nat} {n:Int} {k:Nat}:beI size n (k+1)=beI size n k++[UInt8.ofNat (m64 n/2^(8*(size-1-k)))]:=by simp[beI,List.range_succ]
theorem qZ1 {n:Int}:IntKind.u64.wrap n=(m64 n:Int):=by rw[qL4,m64];omega
theorem qYy (tab:Tab) (gl:Gl) (b:List UInt8) (size:Nat) (n:Int) (hb:b.length<1000000000) (hs:1≤size∧size≤8):qKi.wp tab gl (qE 0 [.t (.sl (b.map qA)),.t (.int .i64 size),.t (.int .i64 n)]) (qE 0 []) (qAg [] [(6,none)] 0 (fun r o=>r = .sl 0 0 (b.length+size)∧o=[.live 1 (((b++beI size n size).map qA).map V.t) true false])):=by
 have hw:=qZ1 (n:=n)
 simp (disch:=omega) only [go_sem,seval,qKi]
 refine qD size (fun k=>[(2,.t (.int .i64 n)),(7,.sl 8208 0 (b.length+k)),(8,.t (.int .i64 ((size:Int)-1-k)))]) (fun k=>[(8208,.live 1 (((b++beI size n k).map qA).map V.t) true false)]) ?_ (fun k hk=>?_)
 ·refine qQ.rd id ?_ ?_ rfl
  all_goals simp (disch:=omega) only [go_sem,seval,id,qZd,List.append_nil]
  all_goals omega
 ·have hl:(beI size n k).length=k:=qQd
  by_cases hlt:k<size
  ·simp (disch:=omega) only [go_sem,seval,qA2,hl,hw]
   refine⟨hlt,qQ.rd (fun _=>32912) ?_ ?_ rfl⟩
   all_goals simp (disch:=omega) only [go_sem,seval,qRk,List.append_assoc,Nat.add_assoc]
   all_goals first | omega | rfl
  ·have e:k=size:=by omega
   subst e
   simp (disch:=omega) only [go_sem,seval,qA2,hl]
theorem qYs (tab:Tab) (gl:Gl) (b:List UInt8) (size:Nat) (n:Int) (hb:b.length<1000000000) (hs:1≤size∧size≤8):qKd.wp tab gl (qE 0 [.t (.sl (b.map qA)),.t (.int .i64 size),.t (.int .i64 n)]) (qE 0 []) (qAg [] [(6,none)] 0 (fun r o=>r = .sl 0 0 (b.length+size)∧o=[.live 1 (((b++beI size n size).map qA).map V.t) true false])):=by
 have hw:=qZ1 (n:=n)
 simp (disch:=omega) only [go_sem,seval,qKd]
 refine qD size (fun k=>[(2,.t (.int .i64 n)),(7,.sl 8224 0 (b.length+k)),(8,.t (.int .i64 ((size:Int)-1-k)))]) (fun k=>[(8224,.live 1 (((b++beI size n k).map qA).map V.t) true false)]) ?_ (fun k hk=>?_)
 ·refine qQ.rd id ?_ ?_ rfl
  all_goals simp (disch:=omega) only [go_sem,seval,id,qZd,List.append_nil]
  all_goals omega
 ·have hl:(beI size n k).length=k:=qQd
  by_cases hlt:k<size
  ·simp (disch:=omega) only [go_sem,seval,qAx,hl,hw]
   refine⟨hlt,qQ.rd (fun _=>32912) ?_ ?_ rfl⟩
   all_goals simp (disch:=omega) only [go_sem,seval,qRk,List.append_assoc,Nat.add_assoc]
   all_goals first | omega | rfl
  ·have e:k=size:=by omega
   subst e
   simp (disch:=omega) only [go_sem,seval,qAx,hl]
abbrev Rd:=List UInt8×Nat×Int
def rdT (s:Rd):T:= .agg [bsT s.1,.int .i64 (s.2.1:Int),.int .i64 s.2.2]
def qBg (s:Rd):Ob:= .live 3 [.t (rdT s)] true true
def qGd (s:Rd):Prop:=s.2.1≤s.1.length∧s.1.length<1000000000
theorem zC7 (tab:Tab) (gl:Gl) (b:List UInt8) (hb:b.length<1000000000):qMe.wp tab gl (qE 0 [.t (.sl (b.map qA))]) (qE 0 []) (qAg [8208] [(2,none)] 0 (fun r o=>r = .ref 0 0 0∧o=[qBg (b,0,0)])):=by
 simp (disch:=omega) only [go_sem,seval,qMe]
 rfl
theorem zC5 (tab:Tab) (gl:Gl) (b:List UInt8) (hb:b.length<1000000000):qMc.wp tab gl (qE 0 [.t (.sl (b.map qA))]) (qE 0 []) (qAg [] [(2,none)] 0 (fun r o=>r = .ref 0 0 0∧o=[qBg (b,0,0)])):=by
 simp (disch:=omega) only [go_sem,seval,qMc]
 rfl
theorem qY0 (tab:Tab) (gl:Gl) (s:Rd) (hs:qGd s) (p n:Nat) (h:p+n≤s.1.length):yD.wp tab gl (qE 0 [.ref 0 0 0,.t (.int .i64 p),.t (.int .i64 n)]) (qE 0 [qBg s]) (jK [(6,none),(7,none)] 1 (fun r o=>r = .tup [.t (.sl (((s.1.drop p).take n).map qA)),.t (.int .i64 0)]∧o=[qBg s])):=by
 obtain⟨b,at_,e⟩:=s
 simp only[qGd] at hs h ⊢
 simp (disch:=omega) only [go_sem,seval,yD,qBg,rdT]
theorem qYz (tab:Tab) (gl:Gl) (s:Rd) (hs:qGd s) (n:Int):qA1.wp tab gl (qE 0 [.ref 0 0 0,.t (.int .i64 n)]) (qE 0 [qBg s]) (jK [] 1 (fun r o=>r = .tup []∧o=[qBg (s.1,s.2.1,n)])):=by
 obtain⟨b,at_,e⟩:=s
 simp (disch:=omega) only [go_sem,seval,qA1,qBg,rdT]
end Go.Eng
end
section
namespace Go.Eng
def zN (s:List UInt8):T:= .str ⟨s.toArray⟩
theorem zMr {s:List UInt8}:T.str ⟨s.toArray⟩=zN s:=Eq.trans (Eq.refl _) rfl
theorem qMl (b:ByteArray) : ∀ (n i:Nat) (r:List UInt8),n=b.size-i→ByteArray.toList.loop b i r=r.reverse++b.data.toList.drop i
 | 0,i,r,h=>by
  unfold ByteArray.toList.loop
  rw[if_neg (by omega)]
  have:b.data.toList.drop i=[]:=List.drop_eq_nil_of_le (by have:b.data.toList.length=b.size:=rfl;omega)
  rw[this,List.append_nil]
 | n+1,i,r,h=>by
  unfold ByteArray.toList.loop
  have hi:i<b.size:=by omega
  have hl:b.data.toList.length=b.size:=rfl
  rw[if_pos hi,qMl b n (i+1) _ (by omega)]
  have e:b.data.toList.drop i=b.data.toList[i]'(by omega)::b.data.toList.drop (i+1):=List.drop_eq_getElem_cons (by omega)
  rw[e]
  have e2:b.get! i=b.data.toList[i]'(by omega):=by
   show b.data[i]! = _
   have hi':i<b.data.size:=hi
   rw[getElem!_pos b.data i hi'];simp
  rw[e2];simp
theorem qZc {s:List UInt8}:(ByteArray.mk s.toArray).toList=s:=by
 unfold ByteArray.toList
 rw[qMl _ _ 0 [] rfl];simp
theorem zJc {a b:List UInt8}:qEq .eql (zN a) (zN b)=some (.bool (decide (a=b))):=by
 show some (T.bool ((ByteArray.mk a.toArray).toList==(ByteArray.mk b.toArray).toList))=_
 rw[qZc,qZc]
 by_cases h:a=b<;>simp[h]
theorem zJd {a b:List UInt8}:qEq .neq (zN a) (zN b)=some (.bool (!decide (a=b))):=by
 show some (T.bool (!((ByteArray.mk a.toArray).toList==(ByteArray.mk b.toArray).toList)))=_
 rw[qZc,qZc]
 by_cases h:a=b<;>simp[h]
theorem qMm {a b:List UInt8} (h:a.length+b.length≤9223372036854775807):qEq .add (zN a) (zN b)=some (zN (a++b)):=by
 show (if (ByteArray.mk a.toArray).size+(ByteArray.mk b.toArray).size≤maxLen then some (T.str (ByteArray.mk a.toArray++ByteArray.mk b.toArray)) else none)=_
 have h1:(ByteArray.mk a.toArray).size=a.length:=rfl
 have h2:(ByteArray.mk b.toArray).size=b.length:=rfl
 have h3:maxLen=9223372036854775807:=by decide
 rw[h1,h2,h3,if_pos h]
 have e:ByteArray.mk a.toArray++ByteArray.mk b.toArray=⟨(a++b).toArray⟩:=by
  apply ByteArray.ext
  simp[ByteArray.data_append]
 rw[e];rfl
theorem zHk {a:List UInt8}:qJn [.t (zN a)] = .ret (.t (.int .i64 a.length),[]):=Eq.trans (Eq.refl _) rfl
theorem qX3 {a:List UInt8} {k:IntKind} {i:Nat} (h:i<a.length):qC3 [.t (zN a),.t (.int k (i:Nat))] = .ret (.t (qA (a.getD i 0)),[]):=by
 have e:(ByteArray.mk a.toArray).data.toList[(i:Int).toNat]?=some (a.getD i 0):=by simp[List.getD,h]
 simp only[zN,qC3,yL,Q.of,Q.bind,Q.assert,e]
 rw[if_pos (by omega)]
theorem zL0 {a:List UInt8} {nb:Nat}:qQz nb [.t (zN a)]=Q.assert (qAj a.length 1) (.free nb (.ret (.sl nb 0 a.length,[(nb,.live 1 ((a.map qA).map V.t) true false)]))):=by
 have h1:(ByteArray.mk a.toArray).size=a.length:=rfl
 have h2:((ByteArray.mk a.toArray).data.toList.map fun b=>V.t (qA b))=(a.map qA).map V.t:=by simp[List.map_map,Function.comp_def]
 simp only[zN,qQz,h1,h2]
theorem qTk {bs:List UInt8}:qDb ((bs.map qA).map V.t)=some bs:=by
 have:=qHz (bs:=bs)
 rw[List.map_map];exact this
theorem qL1 {a b:List UInt8}:(zN a=zN b)=(a=b):=by
 apply propext
 constructor
 ·intro h
  have h1:=congrArg (fun x=>match x with | T.str s=>s.data.toList | _=>[]) h
  simpa [zN] using h1
 ·rintro rfl;rfl
theorem zSv {s:List UInt8}:(zN s).cells=[zN s]:=Eq.trans (Eq.refl _) rfl
theorem zS6 {s:List UInt8}:(V.t (zN s)).cells=[V.t (zN s)]:=Eq.trans (Eq.refl _) rfl
theorem zTc {s:List UInt8}:(V.t (zN s)).plain=true:=Eq.trans (Eq.refl _) rfl
theorem qX6 {s:List UInt8}:(V.t (zN s)).single=true:=Eq.trans (Eq.refl _) rfl
theorem zE8 {s:List UInt8}:(zN s).flat=true:=Eq.trans (Eq.refl _) rfl
attribute [go_sem ↓] zJc zJd qMm zHk qX3 zL0
attribute [go_sem] zMr qTk qL1 zSv zS6 zTc qX6 zE8
end Go.Eng
end
section
namespace Go.Eng
variable {tab:Tab} {gl:Gl} {fs:Fs} {hs:Hs} {Qx:qBs}
def zBp {σ:Type} (Inv:σ→Prop) (μ:σ→Nat) (fI:σ→Fs) (hI:σ→Hs) (s:σ) (fs:Fs) (hs:Hs):Prop := ∃ t,Inv t∧μ t<μ s∧qQ fs hs (fI t) (hI t)
def zU9 {σ:Type} (Inv:σ→Prop) (μ:σ→Nat) (fI:σ→Fs) (hI:σ→Hs) (s:σ) (Qx:qBs):qBs:=fun e fs' hs'=>match e with | .normal=>zBp Inv μ fI hI s fs' hs' | e=>Qx e fs' hs'
theorem qXe {σ:Type} {Inv:σ→Prop} {μ:σ→Nat} {fI:σ→Fs} {hI:σ→Hs} {s:σ}:zU9 Inv μ fI hI s Qx .normal fs hs=zBp Inv μ fI hI s fs hs:=Eq.trans (Eq.refl _) rfl
theorem zFt {σ:Type} {Inv:σ→Prop} {μ:σ→Nat} {fI:σ→Fs} {hI:σ→Hs} {s:σ} {id:Nat}:zU9 Inv μ fI hI s Qx (.exit id) fs hs=Qx (.exit id) fs hs:=Eq.trans (Eq.refl _) rfl
theorem zKc {σ:Type} {Inv:σ→Prop} {μ:σ→Nat} {fI:σ→Fs} {hI:σ→Hs} {s:σ}:zU9 Inv μ fI hI s Qx .ret fs hs=Qx .ret fs hs:=Eq.trans (Eq.refl _) rfl
attribute [go_sem] qXe zFt zKc
theorem zBp.of {σ:Type} {Inv:σ→Prop} {μ:σ→Nat} {fI:σ→Fs} {hI:σ→Hs} {s:σ} (t:σ) (h1:Inv t) (h2:μ t<μ s) (h3:qQ fs hs (fI t) (hI t)):zBp Inv μ fI hI s fs hs:=⟨t,h1,h2,h3⟩
theorem qDl {a:AC} {σ:Type} (Inv:σ→Prop) (μ:σ→Nat) (fI:σ→Fs) (hI:σ→Hs) (s0:σ) (hP:Inv s0) (h0:qQ fs hs (fI s0) (hI s0)) (h : ∀ s,Inv s→a.wp tab gl (fI s) (hI s) (zU9 Inv μ fI hI s Qx)):qN2 tab gl a fs hs Qx:=by
 refine qE9 (ι := { s:σ // Inv s }) (fun i=>(fI i.1,hI i.1)) (fun i=>μ i.1) ⟨s0,hP⟩ h0 (fun i=>?_)
 refine qCa (fun e f g hq=>?_) (h i.1 i.2)
 cases e with
 | normal=>
  obtain⟨t,h1,h2,h3⟩:=hq
  exact⟨⟨t,h1⟩,h2,h3⟩
 | exit id=>exact hq
 | ret=>exact hq
end Go.Eng
end
section
namespace Go.Eng
def qL9:AC:=
 (.seq
 (rG 4096 [mC 2 .nil])
 (.seq
 (rG 8192 [mv 3 0,oO 4 (.bin .shr) [.tmp 3,.cst (.t (.int .u64 24))],oO 5 (.conv .u8) [.tmp 4],mv 6 0,oO 7 (.bin .shr) [.tmp 6,.cst (.t (.int .u64 16))],oO 8 (.conv .u8) [.tmp 7],mv 9 0,oO 10 (.bin .shr) [.tmp 9,.cst (.t (.int .u64 8))],oO 11 (.conv .u8) [.tmp 10],mv 12 0,oO 13 (.conv .u8) [.tmp 12],oO 14 (.bslice 1 4 (.t (qA 0)) [0,1,2,3]) [.tmp 5,.tmp 8,.tmp 11,.tmp 13],mv 2 14])
 .ret))
def qAt:AC:=
 (.seq
 (rG 20480 [bN 11 .lss 10 64])
 (.seq
 (.cond (.tmp 11)
 .skip
 (.exit 0))
 (.seq
 (.block 1
 (.seq
 (rG 24576 [mv 12 10,mv 5 12])
 (rG 28672 [mv 13 4,mv 14 5,oO 15 (.iaddr 1) [.tmp 13,.tmp 14],oO 16 (.load 1 false) [.tmp 15],mv 17 0,bT 18 .xor 16 17,oO 19 (.iaddr 1) [.tmp 13,.tmp 14],oS 1 19 18])))
 (rG 32768 [bN 20 .add 10 1,mv 10 20]))))
def qJ5:AC:=
 (.seq
 (rG 4096 [mC 3 .nil])
 (.seq
 (rG 8192 [oO 6 (.mkslice 1 1 (.t (qA 0))) [.cst (.t (.int .i64 64)),.cst (.t (.int .i64 64))],mv 4 6])
 (.seq
 (rG 12288 [mv 7 4,oO 8 (.load 1 false) [.tmp 1],oO 9 (.copy 1) [.tmp 7,.tmp 8]])
 (.seq
 (.seq
 (rG 16384 [mC 10 (.t (.int .i64 0))])
 (.block 0
 (.loop qAt)))
 (.seq
 (rG 36864 [mv 21 4,mv 3 21])
 .ret)))))
def qP8 (n_digest_Sum n_mac_Mac_1:Nat):AC:=
 (.seq
 (rG 4096 [oO 2 .box [.tmp 0],mC 4 .nil])
 (.seq
 (.seq
 (rG 8192 [oO 7 (.load 1 false) [.tmp 2],oO 8 .len [.tmp 7],bN 9 .gtr 8 64])
 (.cond (.tmp 9)
 (rG 12288 [oO 10 (.load 1 false) [.tmp 2],cL 11 n_digest_Sum false [.cst (.t (.int .i64 1)),.tmp 10],oS 1 2 11])
 .skip))
 (.seq
 (rG 16384 [oO 12 (.mkfn n_mac_Mac_1) [.tmp 2],mv 5 12])
 (.seq
 (rG 20480 [mv 13 5,⟨some 14,(.callv true),[.tmp 13,.cst (.t (qA 54))],none⟩,mv 15 1,oO 16 (.append 1 1) [.tmp 14,.tmp 15],cL 17 n_digest_Sum false [.cst (.t (.int .i64 1)),.tmp 16],mv 6 17])
 (.seq
 (rG 24576 [mv 18 5,⟨some 19,(.callv true),[.tmp 18,.cst (.t (qA 92))],none⟩,mv 20 6,oO 21 (.append 1 1) [.tmp 19,.tmp 20],cL 22 n_digest_Sum false [.cst (.t (.int .i64 1)),.tmp 21],mv 4 22])
 .ret)))))
def xY (n_mac_four n_mac_Mac:Nat):AC:=
 (.seq
 (.seq
 (rG 32768 [mv 29 10,oO 30 .len [.tmp 29],mv 31 3,bT 32 .lss 30 31])
 (.cond (.tmp 32)
 .skip
 (.exit 0)))
 (.seq
 (.block 1
 (rG 40960 [mv 35 10,mv 36 0,mv 37 11,cL 38 n_mac_four false [.tmp 37],mv 39 9,oO 40 (.append 1 1) [.tmp 38,.tmp 39],cL 41 n_mac_Mac false [.tmp 36,.tmp 40],oO 42 (.append 1 1) [.tmp 35,.tmp 41],mv 10 42]))
 (rG 36864 [mv 33 11,bN 34 .add 33 1,mv 11 34])))
def qHp (n_mac_four n_mac_Mac:Nat):AC:=
 (.seq
 (rG 4096 [mC 8 .nil])
 (.seq
 (.seq
 (rG 8192 [mv 12 3,bN 13 .lss 12 1,mv 14 13,mF 15 3 14,oF 16 14 (.bin .gtr) [.tmp 15,.cst (.t (.int .i64 1024))],oO 17 .pick [.tmp 14,.cst (.t (.bool true)),.tmp 16]])
 (.cond (.tmp 17)
 (.seq
 (rG 12288 [mC 8 .nil])
 .ret)
 .skip))
 (.seq
 (rG 16384 [mv 18 1,oO 19 .s2b [.tmp 18],oO 20 (.bslice 1 1 (.t (qA 0)) [0]) [.cst (.t (qA 0))],oO 21 (.append 1 1) [.tmp 19,.tmp 20],mv 22 2,oO 23 (.append 1 1) [.tmp 21,.tmp 22],mv 9 23])
 (.seq
 (rG 20480 [mv 24 9,mv 25 3,oO 26 (.bin .mul) [.cst (.t (.int .i64 8)),.tmp 25],cL 27 n_mac_four false [.tmp 26],oO 28 (.append 1 1) [.tmp 24,.tmp 27],mv 9 28])
 (.seq
 (rG 24576 [mC 10 .nil])
 (.seq
 (.seq
 (rG 28672 [mC 11 (.t (.int .i64 1))])
 (.block 0
 (.loop (xY n_mac_four n_mac_Mac))))
 (.seq
 (rG 45056 [mv 43 10,mv 44 3,mv 45 3,oO 46 (.slice 1 false true true) [.tmp 43,.tmp 44,.tmp 45],mv 8 46])
 .ret)))))))
def qKb:AC:=
 (.seq
 (rG 4096 [mC 2 .nil])
 (.seq
 (rG 8192 [mv 3 0,oO 4 (.bin .shr) [.tmp 3,.cst (.t (.int .u64 24))],oO 5 (.conv .u8) [.tmp 4],mv 6 0,oO 7 (.bin .shr) [.tmp 6,.cst (.t (.int .u64 16))],oO 8 (.conv .u8) [.tmp 7],mv 9 0,oO 10 (.bin .shr) [.tmp 9,.cst (.t (.int .u64 8))],oO 11 (.conv .u8) [.tmp 10],mv 12 0,oO 13 (.conv .u8) [.tmp 12],oO 14 (.bslice 1 4 (.t (qA 0)) [0,1,2,3]) [.tmp 5,.tmp 8,.tmp 11,.tmp 13],mv 2 14])
 .ret))
def xD:AC:=
 (.seq
 (.seq
 (rG 24576 [mv 16 7,bN 17 .lss 16 64])
 (.cond (.tmp 17)
 .skip
 (.exit 0)))
 (.seq
 (.block 1
 (.seq
 (rG 32768 [mC 8 (.t (qA 0))])
 (.seq
 (.seq
 (rG 36864 [mv 20 7,mv 21 0,oO 22 .len [.tmp 21],bT 23 .lss 20 22])
 (.cond (.tmp 23)
 (rG 40960 [mv 24 0,mv 25 7,oO 26 (.iaddr 1) [.tmp 24,.tmp 25],oO 27 (.load 1 false) [.tmp 26],mv 8 27])
 .skip))
 (rG 45056 [mv 28 5,mv 29 7,mv 30 6,mv 31 7,mv 32 8,oO 33 (.bin .xor) [.tmp 32,.cst (.t (qA 54))],mv 34 8,oO 35 (.bin .xor) [.tmp 34,.cst (.t (qA 92))],oO 36 (.iaddr 1) [.tmp 28,.tmp 29],oS 1 36 33,oO 37 (.iaddr 1) [.tmp 30,.tmp 31],oS 1 37 35]))))
 (rG 28672 [mv 18 7,bN 19 .add 18 1,mv 7 19])))
def qMb (n_ref1_Sum256:Nat):AC:=
 (.seq
 (rG 4096 [mC 4 .nil])
 (.seq
 (.seq
 (rG 8192 [mv 9 0,oO 10 .len [.tmp 9],bN 11 .gtr 10 64])
 (.cond (.tmp 11)
 (rG 12288 [mv 12 0,cL 13 n_ref1_Sum256 false [.tmp 12],mv 0 13])
 .skip))
 (.seq
 (.reg 16384 (some [0,0,1,7]) [oO 14 (.mkslice 1 1 (.t (qA 0))) [.cst (.t (.int .i64 64)),.cst (.t (.int .i64 64))],oO 15 (.mkslice 1 1 (.t (qA 0))) [.cst (.t (.int .i64 64)),.cst (.t (.int .i64 64))],mv 5 14,mv 6 15])
 (.seq
 (.seq
 (rG 20480 [mC 7 (.t (.int .i64 0))])
 (.block 0
 (.loop xD)))
 (.seq
 (rG 49152 [mv 38 6,mv 39 5,mv 40 1,oO 41 (.append 1 1) [.tmp 39,.tmp 40],cL 42 n_ref1_Sum256 false [.tmp 41],oO 43 (.append 1 1) [.tmp 38,.tmp 42],cL 44 n_ref1_Sum256 false [.tmp 43],mv 4 44])
 .ret)))))
def kN (n_ref2_four n_ref2_Mac:Nat):AC:=
 (.seq
 (.seq
 (rG 24576 [mv 18 9,oO 19 .len [.tmp 18],mv 20 3,bT 21 .lss 19 20])
 (.cond (.tmp 21)
 .skip
 (.exit 0)))
 (.seq
 (.block 1
 (.seq
 (rG 32768 [mv 24 10,cL 25 n_ref2_four false [.tmp 24],mv 26 1,oO 27 .appstr [.tmp 25,.tmp 26],mv 11 27])
 (.seq
 (rG 36864 [mv 28 11,oO 29 (.bslice 1 1 (.t (qA 0)) [0]) [.cst (.t (qA 0))],oO 30 (.append 1 1) [.tmp 28,.tmp 29],mv 31 2,oO 32 (.append 1 1) [.tmp 30,.tmp 31],mv 33 3,oO 34 (.bin .mul) [.cst (.t (.int .i64 8)),.tmp 33],cL 35 n_ref2_four false [.tmp 34],oO 36 (.append 1 1) [.tmp 32,.tmp 35],mv 11 36])
 (rG 40960 [mv 37 9,mv 38 0,mv 39 11,cL 40 n_ref2_Mac false [.tmp 38,.tmp 39],oO 41 (.append 1 1) [.tmp 37,.tmp 40],mv 9 41]))))
 (rG 28672 [mv 22 10,bN 23 .add 22 1,mv 10 23])))
def qF0 (n_ref2_four n_ref2_Mac:Nat):AC:=
 (.seq
 (rG 4096 [mC 8 .nil])
 (.seq
 (.seq
 (rG 8192 [mv 12 3,bN 13 .lss 12 1,mv 14 13,mF 15 3 14,oF 16 14 (.bin .gtr) [.tmp 15,.cst (.t (.int .i64 1024))],oO 17 .pick [.tmp 14,.cst (.t (.bool true)),.tmp 16]])
 (.cond (.tmp 17)
 (.seq
 (rG 12288 [mC 8 .nil])
 .ret)
 .skip))
 (.seq
 (rG 16384 [mC 9 .nil])
 (.seq
 (.seq
 (rG 20480 [mC 10 (.t (.int .i64 1))])
 (.block 0
 (.loop (kN n_ref2_four n_ref2_Mac))))
 (.seq
 (rG 45056 [mv 42 9,mv 43 3,oO 44 (.slice 1 false true false) [.tmp 42,.tmp 43],mv 8 44])
 .ret)))))
end Go.Eng
end
section
set_option maxRecDepth 20000
set_option maxHeartbeats 64000000
namespace Go.Eng
def qJi (w:UInt8) (k:List UInt8):List UInt8:=(k++List.replicate (64-k.length) 0).map (· ^^^ w)
def qXd (k b:List UInt8):List UInt8:=zS (qJi 92 k++zS (qJi 54 k++b))
theorem qDn {w:UInt8} {k:List UInt8} (h:k.length≤64):(qJi w k).length=64:=by simp[qJi];omega
theorem qUo {k b:List UInt8}:List.take 32 (qXd k b)=qXd k b:=List.take_of_length_le (by rw[qXd,qH];omega)
theorem qDj {k b:List UInt8}:(qXd k b).length=32:=qH
def xk (w:UInt8) (z:List UInt8) (k:Nat):List UInt8:=(z.take k).map (· ^^^ w)++z.drop k
theorem jE2 {w:UInt8} {z:List UInt8}:xk w z 0=z:=by simp[xk]
theorem jE3 {w:UInt8} {z:List UInt8} {n:Nat} (h:z.length=n):xk w z n=z.map (· ^^^ w):=by subst h;simp[xk]
theorem zIe {w:UInt8} {z:List UInt8} {k:Nat}:(xk w z k).length=z.length:=by simp[xk];omega
theorem zYm {w:UInt8} {z:List UInt8} {k:Nat} (h:k<z.length):(xk w z k).getD k 0=z.getD k 0:=by
 have hl:((z.take k).map (· ^^^ w)).length=k:=by simp;omega
 rw[xk,List.getD_eq_getElem?_getD,List.getElem?_append_right (by omega),hl,Nat.sub_self,List.getElem?_drop,List.getD_eq_getElem?_getD];rfl
theorem zYn {w:UInt8} {z:List UInt8} {k:Nat} (h:k<z.length):(xk w z k).set k (z.getD k 0 ^^^ w)=xk w z (k+1):=by
 have hl:((z.take k).map (· ^^^ w)).length=k:=by simp;omega
 have hd:z.drop k=z.getD k 0::z.drop (k+1):=by
  rw[List.drop_eq_getElem_cons h];simp[List.getD,List.getElem?_eq_getElem h]
 rw[xk,xk,List.set_append_right _ _ (by omega),hl,Nat.sub_self,hd,List.set_cons_zero,qGh (d:=0) h,List.map_append,List.append_assoc];rfl
theorem qYj (tab:Tab) (gl:Gl) (w:UInt8) (key:List UInt8) (hk:key.length≤64) :
  qJ5.wp tab gl (qE 0 [.t (qA w),.ref 0 0 0]) (qE 0 [.live 1 [.t (.sl (key.map qA))] true true]) (qAg [] [(3,none)] 1 (fun r o=>r = .sl 1 0 64∧o=[.live 1 [.t (.sl (key.map qA))] true true,.live 1 (((qJi w key).map qA).map V.t) true false])):=by
 simp (config := { maxSteps:=2000000 }) (disch:=(first | omega | (simp only[qBq,qBp];omega))) only [go_sem,↓reduceIte,Nat.reduceAdd,Nat.reduceEqDiff,Nat.reduceSub,Nat.reduceMul,Nat.reduceLT,Nat.reduceLeDiff,Nat.reduceBEq,Int.reduceEq,Int.reduceLT,Int.reduceLE,Int.reduceToNat,Int.reduceNeg,Int.reduceAdd,Int.reduceSub,Int.reduceMul,Int.reduceMod,Int.reduceDiv,reduceCtorEq,Nat.reducePow,Int.reducePow,qJ5]
 have hz:(List.take 64 key++List.replicate (64-key.length) 0).length=64:=by simp;omega
 have hp:qJi w key=(List.take 64 key++List.replicate (64-key.length) 0).map (· ^^^ w):=by rw[qJi,List.take_of_length_le hk]
 rw[hp]
 generalize List.take 64 key++List.replicate (64-key.length) 0=z at *
 refine qD 64 (fun k=>[(0,.t (qA w)),(4,.sl 8192 0 64),(10,.t (.int .i64 (k:Nat)))]) (fun k=>[(8192,.live 1 (((xk w z k).map qA).map V.t) true false),(0,.live 1 [.t (.sl (key.map qA))] true true)]) ?_ (fun k hk=>?_)
 ·refine qQ.rd id ?_ ?_ rfl
  all_goals simp (config := { maxSteps:=2000000 }) (disch:=(first | omega | (simp only[qBq,qBp];omega))) only [go_sem,↓reduceIte,Nat.reduceAdd,Nat.reduceEqDiff,Nat.reduceSub,Nat.reduceMul,Nat.reduceLT,Nat.reduceLeDiff,Nat.reduceBEq,Int.reduceEq,Int.reduceLT,Int.reduceLE,Int.reduceToNat,Int.reduceNeg,Int.reduceAdd,Int.reduceSub,Int.reduceMul,Int.reduceMod,Int.reduceDiv,reduceCtorEq,Nat.reducePow,Int.reducePow,id,jE2]
  all_goals rfl
 ·have hx:(xk w z k).length=64:=by rw[zIe,hz]
  by_cases hlt:k<64
  ·have hg:=zYm (w:=w) (z:=z) (k:=k) (by omega)
   have hs:=zYn (w:=w) (z:=z) (k:=k) (by omega)
   simp (config := { maxSteps:=2000000 }) (disch:=(first | omega | (simp only[qBq,qBp];omega))) only [go_sem,↓reduceIte,Nat.reduceAdd,Nat.reduceEqDiff,Nat.reduceSub,Nat.reduceMul,Nat.reduceLT,Nat.reduceLeDiff,Nat.reduceBEq,Int.reduceEq,Int.reduceLT,Int.reduceLE,Int.reduceToNat,Int.reduceNeg,Int.reduceAdd,Int.reduceSub,Int.reduceMul,Int.reduceMod,Int.reduceDiv,reduceCtorEq,Nat.reducePow,Int.reducePow,qAt,hx,hg,hs]
   refine⟨hlt,qQ.rd id ?_ ?_ rfl⟩
   all_goals simp (config := { maxSteps:=2000000 }) (disch:=(first | omega | (simp only[qBq,qBp];omega))) only [go_sem,↓reduceIte,Nat.reduceAdd,Nat.reduceEqDiff,Nat.reduceSub,Nat.reduceMul,Nat.reduceLT,Nat.reduceLeDiff,Nat.reduceBEq,Int.reduceEq,Int.reduceLT,Int.reduceLE,Int.reduceToNat,Int.reduceNeg,Int.reduceAdd,Int.reduceSub,Int.reduceMul,Int.reduceMod,Int.reduceDiv,reduceCtorEq,Nat.reducePow,Int.reducePow,id]
   all_goals first | omega | rfl
  ·have e:k=64:=by omega
   subst e
   have hn:=jE3 (w:=w) hz
   have ht:List.take 64 z=z:=List.take_of_length_le (by omega)
   simp (config := { maxSteps:=2000000 }) (disch:=(first | omega | (simp only[qBq,qBp];omega))) only [go_sem,↓reduceIte,Nat.reduceAdd,Nat.reduceEqDiff,Nat.reduceSub,Nat.reduceMul,Nat.reduceLT,Nat.reduceLeDiff,Nat.reduceBEq,Int.reduceEq,Int.reduceLT,Int.reduceLE,Int.reduceToNat,Int.reduceNeg,Int.reduceAdd,Int.reduceSub,Int.reduceMul,Int.reduceMod,Int.reduceDiv,reduceCtorEq,Nat.reducePow,Int.reducePow,qAt,hn,hz,ht]
def qM7:Ct where
 α:=UInt8×List UInt8
 as x:=[.t (qA x.1),.ref 0 0 0]
 ins x:=[.live 1 [.t (.sl (x.2.map qA))] true true]
 pre x:=x.2.length≤64
 r _:= .sl 1 0 64
 outs x:=[.live 1 [.t (.sl (x.2.map qA))] true true,.live 1 (((qJi x.1 x.2).map qA).map V.t) true false]
 inj:=by
  rintro⟨a,b⟩ ⟨c,d⟩ h h2
  simp only[List.cons.injEq,V.t.injEq,qLn,and_true,bsT,Ob.live.injEq,T.sl.injEq,qP,true_and] at h h2
  subst h h2
  exact⟨rfl,rfl⟩
theorem zF4 {w:UInt8} {k:List UInt8} (h:k.length≤64):qM7.fs [.t (qA w),.ref 0 0 0] [.live 1 [.t (.sl (k.map qA))] true true]=some (.sl 1 0 64,[.live 1 [.t (.sl (k.map qA))] true true,.live 1 (((qJi w k).map qA).map V.t) true false]):=qM7.eq (w,k) h
theorem zH4 (tab:Tab) (gl:Gl) (n1 n2:Nat) (h1:tab.look n1=some qAe.fs) (h2:tab.look n2=some qM7.fs) (key b:List UInt8) (hk:key.length≤64) (hb:b.length<500000000) :
  (qP8 n1 n2).wp tab gl (qE 0 [.t (bsT key),.t (bsT b)]) (qE 0 []) (qAg [] [(4,none)] 0 (fun r o=>r = .sl 0 0 32∧o=[.live 1 (((qXd key b).map qA).map V.t) true false])):=by
 have m1:=zF4 (w:=54) hk
 have m2:=zF4 (w:=92) hk
 have l1:=qDn (w:=54) hk
 have t1:List.take (64+b.length) (qJi 54 key++b)=qJi 54 key++b:=List.take_of_length_le (by simp[l1])
 have l2:=qDn (w:=92) hk
 have t2 : ∀ x,List.take 32 (zS x)=zS x:=fun x=>List.take_of_length_le (by rw[qH];omega)
 have t3 : ∀ x,List.take 96 (qJi 92 key++zS x)=qJi 92 key++zS x:=fun x=>List.take_of_length_le (by rw[List.length_append,l2,qH];omega)
 have hl:(qJi 54 key++b).length=64+b.length:=by simp[l1]
 have hl2:(qJi 92 key++zS (qJi 54 key++b)).length=96:=by rw[List.length_append,l2,qH]
 simp (disch:=omega) only [go_sem,seval,qP8,h1,h2,m1,m2,l1,l2,qH,hl,t1,t2,t3,zO,qXd]
theorem zAd {w:UInt8} {key:List UInt8} {k:Nat} (h:key.length≤64) (hk:k<64):(qJi w key).getD k 0=key.getD k 0 ^^^ w:=by
 rw[qJi,List.getD_eq_getElem?_getD,List.getElem?_map]
 by_cases hl:k<key.length
 ·rw[List.getElem?_append_left hl,List.getElem?_eq_getElem hl];simp[List.getD,List.getElem?_eq_getElem hl]
 ·rw[List.getElem?_append_right (by omega),List.getElem?_replicate,if_pos (by omega)];simp[List.getD,List.getElem?_eq_none (show key.length≤k by omega)]
theorem zAu {d:List UInt8} {j n:Nat} {x:UInt8} (h:d.length=j) (hj:j<n):(d++List.replicate (n-j) 0).set j x=d++[x]++List.replicate (n-(j+1)) 0:=by
 rw[List.set_append_right _ _ (by omega),h,Nat.sub_self,show n-j=(n-(j+1))+1 by omega,List.replicate_succ,List.set_cons_zero]
 simp
def upZ (p:List UInt8) (k:Nat):List UInt8:=p.take k++List.replicate (64-k) 0
theorem jBd {p:List UInt8}:upZ p 0=List.replicate 64 0:=rfl
theorem zXh {p:List UInt8} (h:p.length=64):upZ p 64=p:=by
 simp[upZ];exact List.take_of_length_le (by omega)
theorem qQ2 {p:List UInt8} {k:Nat} (h:p.length=64) (hk:k≤64):(upZ p k).length=64:=by simp[upZ];omega
theorem zHu {p:List UInt8} {k:Nat} {x:UInt8} (h:p.length=64) (hk:k<64) (hx:p.getD k 0=x):(upZ p k).set k x=upZ p (k+1):=by
 rw[upZ,zAu (by simp;omega) hk,upZ,qGh (d:=0) (by omega),hx]
theorem zC4 (tab:Tab) (gl:Gl) (n1:Nat) (h1:tab.look n1=some (qKq 32 zS).fs) (key b:List UInt8) (hk:key.length≤64) (hb:b.length<500000000) :
  (qMb n1).wp tab gl (qE 0 [.t (bsT key),.t (bsT b)]) (qE 0 []) (qAg [] [(4,none)] 0 (fun r o=>r = .sl 0 0 32∧o=[.live 1 (((qXd key b).map qA).map V.t) true false])):=by
 have l1:=qDn (w:=54) hk
 have l2:=qDn (w:=92) hk
 simp (disch:=omega) only [go_sem,seval,qMb]
 refine And.intro rfl ?_
 refine qD 64 (fun k=>[(0,.t (.sl (key.map qA))),(1,.t (.sl (b.map qA))),(5,.sl 16384 0 64),(6,.sl 16400 0 64),(7,.t (.int .i64 (k:Nat)))]) (fun k=>[(16384,.live 1 (((upZ (qJi 54 key) k).map qA).map V.t) true false),(16400,.live 1 (((upZ (qJi 92 key) k).map qA).map V.t) true false)]) ?_ (fun k hk'=>?_)
 ·refine qQ.rd id ?_ ?_ rfl
  all_goals simp (disch:=omega) only [go_sem,seval,id,jBd]
 ·have u1:=qQ2 (k:=k) l1 hk'
  have u2:=qQ2 (k:=k) l2 hk'
  by_cases hlt:k<64
  ·have g1:=zAd (w:=54) hk hlt
   have g2:=zAd (w:=92) hk hlt
   have s1:=zHu l1 hlt g1
   have s2:=zHu l2 hlt g2
   by_cases hin:k<key.length
   ·simp (disch:=omega) only [go_sem,seval,xD,hin,u1,u2,s1,s2]
    refine⟨hlt,qQ.rd id ?_ ?_ rfl⟩
    all_goals simp (disch:=omega) only [go_sem,seval,id]
    all_goals first | omega | rfl
   ·rw[show key.getD k 0=0 by simp[List.getD,List.getElem?_eq_none (show key.length≤k by omega)]] at s1 s2
    simp (disch:=omega) only [go_sem,seval,xD,hin,u1,u2,s1,s2]
    refine⟨hlt,qQ.rd id ?_ ?_ rfl⟩
    all_goals simp (disch:=omega) only [go_sem,seval,id]
    all_goals first | omega | rfl
  ·have e:k=64:=by omega
   subst e
   have t1:List.take (64+b.length) (qJi 54 key++b)=qJi 54 key++b:=List.take_of_length_le (by simp[l1])
   have t2 : ∀ x,List.take 32 (zS x)=zS x:=fun x=>List.take_of_length_le (by rw[qH];omega)
   have t3 : ∀ x,List.take 96 (qJi 92 key++zS x)=qJi 92 key++zS x:=fun x=>List.take_of_length_le (by rw[List.length_append,l2,qH];omega)
   have hl:(qJi 54 key++b).length=64+b.length:=by simp[l1]
   have hl2:(qJi 92 key++zS (qJi 54 key++b)).length=96:=by rw[List.length_append,l2,qH]
   simp (disch:=omega) only [go_sem,seval,xD,zXh l1,zXh l2,h1,l1,l2,qH,hl,t1,t2,t3,zAw,qXd]
def qF9:Ct where
 α:=List UInt8×List UInt8
 as x:=[.t (.sl (x.1.map qA)),.t (.sl (x.2.map qA))]
 ins _:=[]
 pre x:=x.1.length≤64∧x.2.length<500000000
 r _:= .sl 0 0 32
 outs x:=[.live 1 (((qXd x.1 x.2).map qA).map V.t) true false]
 inj:=by
  rintro⟨a,b⟩ ⟨c,d⟩ h _
  simp[qP] at h
  obtain⟨rfl,rfl⟩:=h
  exact⟨rfl,rfl⟩
theorem qZ2 {k b:List UInt8} (h:k.length≤64∧b.length<500000000):qF9.fs [.t (.sl (k.map qA)),.t (.sl (b.map qA))] []=some (.sl 0 0 32,[.live 1 (((qXd k b).map qA).map V.t) true false]):=qF9.eq (k,b) h
def xM (n:Nat):List UInt8:=[UInt8.ofNat (n/16777216),UInt8.ofNat (n/65536),UInt8.ofNat (n/256),UInt8.ofNat n]
theorem vR {n:Nat}:(xM n).length=4:=rfl
theorem zC2 (tab:Tab) (gl:Gl) (n:Nat):qL9.wp tab gl (qE 0 [.t (.int .i64 n)]) (qE 0 []) (qAg [] [(2,none)] 0 (fun r o=>r = .sl 0 0 4∧o=[.live 1 (((xM n).map qA).map V.t) true true])):=by
 simp (disch:=omega) only [go_sem,seval,qL9,qX2,xM,List.map_cons,List.map_nil]
theorem qYq (tab:Tab) (gl:Gl) (n:Nat):qKb.wp tab gl (qE 0 [.t (.int .i64 n)]) (qE 0 []) (qAg [] [(2,none)] 0 (fun r o=>r = .sl 0 0 4∧o=[.live 1 (((xM n).map qA).map V.t) true true])):=by
 simp (disch:=omega) only [go_sem,seval,qKb,qX2,xM,List.map_cons,List.map_nil]
def qEv:Ct where
 α:=Nat
 as x:=[.t (.int .i64 x)]
 ins _:=[]
 pre _:=True
 r _:= .sl 0 0 4
 outs x:=[.live 1 (((xM x).map qA).map V.t) true true]
 inj:=by
  intro a b h _
  simp only[List.cons.injEq,V.t.injEq,T.int.injEq,true_and,and_true,Int.natCast_inj] at h
  subst h
  exact⟨rfl,rfl⟩
theorem qW6 {n:Nat}:qEv.fs [.t (.int .i64 n)] []=some (.sl 0 0 4,[.live 1 (((xM n).map qA).map V.t) true true]):=qEv.eq n trivial
theorem qWl {nb id n:Nat} {a:List UInt8}:xQ nb [.sl id 0 n,.t (zN a)]=Q.get id fun x=>match x with
  | .live z' es true full=>Q.assert (z'=1∧es.length=n∧qAj (n+a.length) 1∧100≤id) (.free nb (.ret (.sl nb 0 (n+a.length),[(id,.dead),(nb,.live 1 (es++(a.map qA).map V.t) true false)])))
  | x=> .fail:=by
 have e : ∀ st:ByteArray,st.size=a.length→(st.data.toList.map fun b=>V.t (qA b))=(a.map qA).map V.t→xQ nb [.sl id 0 n,.t (.str st)]=Q.get id fun x=>match x with
  | .live z' es true full=>Q.assert (z'=1∧es.length=n∧qAj (n+a.length) 1∧100≤id) (.free nb (.ret (.sl nb 0 (n+a.length),[(id,.dead),(nb,.live 1 (es++(a.map qA).map V.t) true false)])))
  | x=> .fail:=fun st h1 h2=>by
  simp only[xQ,h1,h2]
  congr 1
 exact e _ (by simp[ByteArray.size]) (by simp)
attribute [go_sem ↓] qWl
def drT (label ctx:List UInt8) (n:Nat):List UInt8:=label++[0]++ctx++xM (8*n)
def drR (key rest:List UInt8) (k:Nat):List UInt8:=(List.range k).flatMap fun i=>qXd key (xM (i+1)++rest)
def drv (key label ctx:List UInt8) (n:Nat):List UInt8:=(drR key (drT label ctx n) ((n+31)/32)).take n
theorem qFi {key rest:List UInt8} : ∀ {k:Nat},(drR key rest k).length=32*k
 | 0=>rfl
 | k+1=>by
  have:=qFi (key:=key) (rest:=rest) (k:=k)
  simp only[drR] at this ⊢
  rw[List.range_succ,List.flatMap_append,List.length_append,this];simp[qDj];omega
theorem qZp {key rest:List UInt8} {k:Nat}:drR key rest (k+1)=drR key rest k++qXd key (xM (k+1)++rest):=by
 simp[drR,List.range_succ]
theorem jT {key label ctx:List UInt8} {n:Nat}:(drv key label ctx n).length=n:=by
 rw[drv,List.length_take,qFi];omega
theorem qVx (tab:Tab) (gl:Gl) (n1 n2:Nat) (h1:tab.look n1=some qEv.fs) (h2:tab.look n2=some qF9.fs) (key label ctx:List UInt8) (n:Nat) (hk:key.length≤64) (hl:label.length<100000000) (hc:ctx.length<100000000) (hn:1≤n∧n≤1024) :
  (qHp n1 n2).wp tab gl (qE 0 [.t (.sl (key.map qA)),.t (zN label),.t (.sl (ctx.map qA)),.t (.int .i64 n)]) (qE 0 []) (jK [(8,none)] 0 (fun r o=>r = .t (.sl ((drv key label ctx n).map qA))∧o=[])):=by
 have t4:List.take 4 (xM (8*n))=xM (8*n):=rfl
 have lD:(drT label ctx n).length=label.length+1+ctx.length+4:=by simp[drT,xM];omega
 simp (disch:=omega) only [go_sem,seval,qHp,h1,h2,qW6,vR,t4]
 have hD:label++[0]++ctx++xM (8*n)=drT label ctx n:=rfl
 rw[hD]
 generalize hr:drT label ctx n=rest at *
 have hm:label.length+1+ctx.length+4<300000000:=by omega
 generalize label.length+1+ctx.length+4=m at *
 refine qD ((n+31)/32) (fun k=>[(0,.t (.sl (key.map qA))),(3,.t (.int .i64 n)),(9,.sl 20544 0 m),(10,.sl 9000 0 (32*k)),(11,.t (.int .i64 ((k+1:Nat):Int)))]) (fun k=>[(9000,.live 1 (((drR key rest k).map qA).map V.t) true false),(20544,.live 1 ((rest.map qA).map V.t) true false)]) ?_ (fun k hk'=>?_)
 ·refine qQ.cv0 (hv:=[(9000,.live 1 [] true false)]) (ho:=[(20544,.live 1 ((rest.map qA).map V.t) true false)]) id ?_ ?_ rfl rfl
  all_goals simp (disch:=omega) only [go_sem,seval,id]
  all_goals rfl
 ·have hR:=qFi (key:=key) (rest:=rest) (k:=k)
  by_cases hlt:32*k<n
  ·have t5:List.take m rest=rest:=List.take_of_length_le (by omega)
   have t6:List.take (4+m) (xM (k+1)++rest)=xM (k+1)++rest:=List.take_of_length_le (by rw[List.length_append,vR];omega)
   have hM:=qZ2 (k:=key) (b:=xM (k+1)++rest) ⟨hk,by rw[List.length_append,vR];omega⟩
   simp (disch:=omega) only [go_sem,seval,xY,h1,h2,qW6,vR,hR,t5,t6,lD,hM,qDj,qUo]
   refine⟨by omega,qQ.rd (fun j=>if j=9000 then 41072 else j) ?_ ?_ rfl⟩
   all_goals simp (disch:=omega) only [go_sem,seval,id,qZp]
   all_goals first | omega | rfl
  ·have e:k=(n+31)/32:=by omega
   subst e
   simp (disch:=omega) only [go_sem,seval,xY,hR,drv,hr]
def wG:Ct where
 α:=List UInt8×List UInt8×List UInt8×Nat
 as x:=[.t (.sl (x.1.map qA)),.t (zN x.2.1),.t (.sl (x.2.2.1.map qA)),.t (.int .i64 x.2.2.2)]
 ins _:=[]
 pre x:=x.1.length≤64∧x.2.1.length<100000000∧x.2.2.1.length<100000000∧1≤x.2.2.2∧x.2.2.2≤1024
 r x:= .t (.sl ((drv x.1 x.2.1 x.2.2.1 x.2.2.2).map qA))
 outs _:=[]
 inj:=by
  rintro⟨a,b,c,d⟩ ⟨e,f,g,h⟩ hh _
  simp only[List.cons.injEq,V.t.injEq,T.int.injEq,T.sl.injEq,true_and,and_true,qP,qL1,Int.natCast_inj] at hh
  obtain⟨rfl,rfl,rfl,rfl⟩:=hh
  exact⟨rfl,rfl⟩
theorem qQi {k l c:List UInt8} {n:Nat} (h:k.length≤64∧l.length<100000000∧c.length<100000000∧1≤n∧n≤1024):wG.fs [.t (.sl (k.map qA)),.t (zN l),.t (.sl (c.map qA)),.t (.int .i64 n)] []=some (.t (.sl ((drv k l c n).map qA)),[]):=wG.eq (k,l,c,n) h
theorem qS0 (tab:Tab) (gl:Gl) (n1 n2:Nat) (h1:tab.look n1=some qEv.fs) (h2:tab.look n2=some qF9.fs) (key label ctx:List UInt8) (n:Nat) (hk:key.length≤64) (hl:label.length<100000000) (hc:ctx.length<100000000) (hn:1≤n∧n≤1024) :
  (qF0 n1 n2).wp tab gl (qE 0 [.t (.sl (key.map qA)),.t (zN label),.t (.sl (ctx.map qA)),.t (.int .i64 n)]) (qE 0 []) (jK [(8,none)] 0 (fun r o=>r = .t (.sl ((drv key label ctx n).map qA))∧o=[])):=by
 simp (disch:=omega) only [go_sem,seval,qF0]
 have lD:(drT label ctx n).length=label.length+1+ctx.length+4:=by simp[drT,xM];omega
 obtain⟨rest,hr⟩ : ∃ rest,drT label ctx n=rest:=⟨_,rfl⟩
 have lR:rest.length=label.length+1+ctx.length+4:=by rw[←hr,lD]
 refine qD ((n+31)/32) (fun k=>[(0,.t (.sl (key.map qA))),(1,.t (zN label)),(2,.t (.sl (ctx.map qA))),(3,.t (.int .i64 n)),(9,.sl 9000 0 (32*k)),(10,.t (.int .i64 ((k+1:Nat):Int)))]) (fun k=>[(9000,.live 1 (((drR key rest k).map qA).map V.t) true false)]) ?_ (fun k hk'=>?_)
 ·refine qQ.cv0 (hv:=[(9000,.live 1 [] true false)]) (ho:=[]) id ?_ ?_ rfl rfl
  all_goals simp (disch:=omega) only [go_sem,seval,id]
  all_goals rfl
 ·have hR:=qFi (key:=key) (rest:=rest) (k:=k)
  by_cases hlt:32*k<n
  ·have t4:List.take 4 (xM (8*n))=xM (8*n):=rfl
   have hM:=qZ2 (k:=key) (b:=xM (k+1)++rest) ⟨hk,by rw[List.length_append,vR];omega⟩
   have hA:xM (k+1)++label++[0]++ctx++xM (8*n)=xM (k+1)++rest:=by rw[←hr,drT];simp only[List.append_assoc]
   have t5:List.take (4+label.length+1+ctx.length+4) (xM (k+1)++rest)=xM (k+1)++rest:=List.take_of_length_le (by rw[List.length_append,vR];omega)
   simp (disch:=omega) only [go_sem,seval,kN,h1,h2,qW6,vR,hR,t4,t5,hA,hM,qDj,qUo]
   refine⟨by omega,qQ.rd (fun j=>if j=9000 then 41024 else j) ?_ ?_ rfl⟩
   all_goals simp (disch:=omega) only [go_sem,seval,id,qZp]
   all_goals first | omega | rfl
  ·have e:k=(n+31)/32:=by omega
   subst e
   simp (disch:=omega) only [go_sem,seval,kN,hR,drv,hr]
end Go.Eng
end
section
set_option maxRecDepth 20000
set_option maxHeartbeats 8000000
namespace Go.Eng
theorem zZ {b:List UInt8} {a:Nat} {e:Int}:qBg (b,a,e) = .live 3 [.t (.agg [.sl (b.map qA),.int .i64 (a:Int),.int .i64 e])] true true:=rfl
theorem qDq {s t:Rd} (h:qBg s=qBg t):s=t:=by
 obtain⟨b,a,e⟩:=s
 obtain⟨b',a',e'⟩:=t
 simp only[zZ,Ob.live.injEq,List.cons.injEq,V.t.injEq,T.agg.injEq,T.sl.injEq,T.int.injEq,qP,Int.natCast_inj] at h
 simp only[Prod.mk.injEq]
 exact⟨h.2.1.1.1,h.2.1.1.2.1.2,h.2.1.1.2.2.1.2⟩
def yY:Ct where
 α:=Rd×Nat×Nat
 as x:=[.ref 0 0 0,.t (.int .i64 x.2.1),.t (.int .i64 x.2.2)]
 ins x:=[qBg x.1]
 pre x:=qGd x.1∧x.2.1≤x.1.1.length∧x.2.2≤1000000000
 r x:=if x.2.1+x.2.2≤x.1.1.length then .tup [.t (.sl (((x.1.1.drop x.2.1).take x.2.2).map qA)),.t (.int .i64 0)] else .tup [.t (.sl []),.t (.int .i64 2)]
 outs x:=[qBg x.1]
 inj:=by
  rintro⟨s,a,b⟩ ⟨t,c,d⟩ h1 h2
  simp[Int.natCast_inj] at h1
  simp only[List.cons.injEq,and_true] at h2
  obtain⟨rfl,rfl⟩:=h1
  cases qDq h2
  exact⟨rfl,rfl⟩
theorem qYb {b:List UInt8} {a p n:Nat} {e:Int} (h:a≤b.length∧b.length<1000000000∧p+n≤b.length):yY.fs [.ref 0 0 0,.t (.int .i64 p),.t (.int .i64 n)] [.live 3 [.t (.agg [.sl (b.map qA),.int .i64 (a:Int),.int .i64 e])] true true] =
  some (.tup [.t (.sl (((b.drop p).take n).map qA)),.t (.int .i64 0)],[.live 3 [.t (.agg [.sl (b.map qA),.int .i64 (a:Int),.int .i64 e])] true true]):=by
 refine (yY.eq ((b,a,e),p,n) ⟨⟨h.1,h.2.1⟩,?_,?_⟩).trans ?_
 ·simp only;omega
 ·simp only;omega
 ·simp only[yY,if_pos h.2.2,zZ]
theorem qYa {b:List UInt8} {a p n:Nat} {e:Int} (h:a≤b.length∧b.length<1000000000∧p≤b.length∧n≤1000000000∧b.length<p+n):yY.fs [.ref 0 0 0,.t (.int .i64 p),.t (.int .i64 n)] [.live 3 [.t (.agg [.sl (b.map qA),.int .i64 (a:Int),.int .i64 e])] true true] =
  some (.tup [.t (.sl []),.t (.int .i64 2)],[.live 3 [.t (.agg [.sl (b.map qA),.int .i64 (a:Int),.int .i64 e])] true true]):=by
 refine (yY.eq ((b,a,e),p,n) ⟨⟨h.1,h.2.1⟩,h.2.2.1,h.2.2.2.1⟩).trans ?_
 simp only[yY,zZ]
 rw[if_neg (by omega)]
def qI9:Ct where
 α:=Rd×Int
 as x:=[.ref 0 0 0,.t (.int .i64 x.2)]
 ins x:=[qBg x.1]
 pre x:=qGd x.1
 r x:= .tup []
 outs x:=[qBg (x.1.1,x.1.2.1,x.2)]
 inj:=by
  rintro⟨s,a⟩ ⟨t,c⟩ h1 h2
  simp at h1
  simp only[List.cons.injEq,and_true] at h2
  subst h1
  cases qDq h2
  exact⟨rfl,rfl⟩
theorem qNr {b:List UInt8} {a:Nat} {e n:Int} (h:a≤b.length∧b.length<1000000000):qI9.fs [.ref 0 0 0,.t (.int .i64 n)] [.live 3 [.t (.agg [.sl (b.map qA),.int .i64 (a:Int),.int .i64 e])] true true] =
  some (.tup [],[.live 3 [.t (.agg [.sl (b.map qA),.int .i64 (a:Int),.int .i64 n])] true true]):=qI9.eq ((b,a,e),n) h
def beV (bs:List UInt8):Nat:=bs.foldl (fun n x=>256*n+x.toNat) 0
def zOe (s:Rd) (k:Nat):Int×Rd:=
 if s.2.2≠0 then (0,s) else if s.1.length<s.2.1+k then (0,(s.1,s.2.1,2))
 else if 9223372036854775808≤beV ((s.1.drop s.2.1).take k) then (0,(s.1,s.2.1,4)) else (beV ((s.1.drop s.2.1).take k),(s.1,s.2.1+k,0))
def kW (s:Rd) (k:Nat):List UInt8×Rd:=
 if s.2.2≠0 then ([],s) else if s.1.length<s.2.1+k then ([],(s.1,s.2.1,2)) else ((s.1.drop s.2.1).take k,(s.1,s.2.1+k,0))
def qAn (s:Rd):Int:=if s.2.2=0∧s.2.1<s.1.length then 3 else s.2.2
theorem qJ0 (tab:Tab) (gl:Gl) (n1 n2:Nat) (h1:tab.look n1=some qI9.fs) (h2:tab.look n2=some yY.fs) (s:Rd) (hs:qGd s) (k:Nat) (hk:k≤1000000000) :
  (vL n1 n2).wp tab gl (qE 0 [.ref 0 0 0,.t (.int .i64 k)]) (qE 0 [qBg s]) (jK [(4,none)] 1 (fun r o=>r = .t (.sl ((kW s k).1.map qA))∧o=[qBg (kW s k).2])):=by
 obtain⟨b,a,e⟩:=s
 have ha:a≤b.length∧b.length<1000000000:=hs
 by_cases he:e=0
 ·subst he
  by_cases hl:b.length<a+k
  ·simp (disch:=omega) only [go_sem,seval,vL,zZ,h1,h2,qYa,qNr,kW,ne_eq,hl]
  ·have hc:(List.take k (List.drop a b)).length=k:=by simp only[List.length_take,List.length_drop];omega
   have ht:List.take k (List.take k (List.drop a b))=List.take k (List.drop a b):=List.take_of_length_le (by omega)
   simp (disch:=omega) only [go_sem,seval,vL,zZ,h1,h2,qYb,kW,ne_eq,hl,ht]
 ·simp (disch:=omega) only [go_sem,seval,vL,zZ,kW,ne_eq,he]
theorem qPz (tab:Tab) (gl:Gl) (b:List UInt8) (a:Nat) (e:Int) (k:Nat) (ha:a≤b.length∧b.length<1000000000) (hk:k≤1000000000) :
  yB.wp tab gl (qE 0 [.ref 0 0 0,.t (.int .i64 k)]) (qE 0 [qBg (b,a,e)]) (jK [(4,none)] 1 (fun r o=>r = .t (.bool (decide (e=0) && !decide (b.length<a+k)))∧o=[qBg (b,a,if e=0∧b.length<a+k then 2 else e)])):=by
 by_cases he:e=0
 ·subst he
  by_cases hl:b.length<a+k
  ·simp (disch:=omega) only [go_sem,seval,yB,zZ,hl]
   repeat refine And.intro rfl ?_
   trivial
  ·simp (disch:=omega) only [go_sem,seval,yB,zZ,hl]
   repeat refine And.intro rfl ?_
   trivial
 ·simp (disch:=omega) only [go_sem,seval,yB,zZ,he]
  repeat refine And.intro rfl ?_
  trivial
end Go.Eng
end
section
set_option maxRecDepth 20000
set_option maxHeartbeats 8000000
namespace Go.Eng
def vQ:Ct where
 α:=Rd×Nat
 as x:=[.ref 0 0 0,.t (.int .i64 x.2)]
 ins x:=[qBg x.1]
 pre x:=qGd x.1∧x.2≤1000000000
 r x:= .t (.bool (decide (x.1.2.2=0) && !decide (x.1.1.length<x.1.2.1+x.2)))
 outs x:=[qBg (x.1.1,x.1.2.1,if x.1.2.2=0∧x.1.1.length<x.1.2.1+x.2 then 2 else x.1.2.2)]
 inj:=by
  rintro⟨s,a⟩ ⟨t,c⟩ h1 h2
  simp[Int.natCast_inj] at h1
  simp only[List.cons.injEq,and_true] at h2
  subst h1
  cases qDq h2
  exact⟨rfl,rfl⟩
theorem qXl {b:List UInt8} {a k:Nat} (h:a≤b.length∧b.length<1000000000∧a+k≤b.length):vQ.fs [.ref 0 0 0,.t (.int .i64 k)] [.live 3 [.t (.agg [.sl (b.map qA),.int .i64 (a:Int),.int .i64 0])] true true] =
  some (.t (.bool true),[.live 3 [.t (.agg [.sl (b.map qA),.int .i64 (a:Int),.int .i64 0])] true true]):=by
 refine (vQ.eq ((b,a,0),k) ⟨⟨h.1,h.2.1⟩,?_⟩).trans ?_
 ·simp only;omega
 ·have : ¬ b.length<a+k:=by omega
  simp[vQ,zZ,this]
theorem qXk {b:List UInt8} {a k:Nat} (h:a≤b.length∧b.length<1000000000∧k≤1000000000∧b.length<a+k):vQ.fs [.ref 0 0 0,.t (.int .i64 k)] [.live 3 [.t (.agg [.sl (b.map qA),.int .i64 (a:Int),.int .i64 0])] true true] =
  some (.t (.bool false),[.live 3 [.t (.agg [.sl (b.map qA),.int .i64 (a:Int),.int .i64 2])] true true]):=by
 refine (vQ.eq ((b,a,0),k) ⟨⟨h.1,h.2.1⟩,h.2.2.1⟩).trans ?_
 have:=h.2.2.2
 simp[vQ,zZ,this]
theorem qJu (tab:Tab) (gl:Gl) (n1:Nat) (h1:tab.look n1=some vQ.fs) (s:Rd) (hs:qGd s) (k:Nat) (hk:k≤1000000000) :
  (vI n1).wp tab gl (qE 0 [.ref 0 0 0,.t (.int .i64 k)]) (qE 0 [qBg s]) (jK [(4,none)] 1 (fun r o=>r = .t (.sl ((kW s k).1.map qA))∧o=[qBg (kW s k).2])):=by
 obtain⟨b,a,e⟩:=s
 have ha:a≤b.length∧b.length<1000000000:=hs
 by_cases he:e=0
 ·subst he
  by_cases hl:b.length<a+k
  ·simp (disch:=omega) only [go_sem,seval,vI,zZ,h1,qXk,kW,ne_eq,hl]
   repeat refine And.intro rfl ?_
   all_goals trivial
  ·have hc:(List.take k (List.drop a b)).length=k:=by simp only[List.length_take,List.length_drop];omega
   have ht:List.take k (List.take k (List.drop a b))=List.take k (List.drop a b):=List.take_of_length_le (by omega)
   simp (disch:=omega) only [go_sem,seval,vI,zZ,h1,qXl,kW,ne_eq,hl,ht]
   repeat refine And.intro rfl ?_
   all_goals trivial
 ·simp (disch:=omega) only [go_sem,seval,vI,zZ,kW,ne_eq,he]
  repeat refine And.intro rfl ?_
  all_goals trivial
theorem qI4 (tab:Tab) (gl:Gl) (s:Rd) (hs:qGd s):qA0.wp tab gl (qE 0 [.ref 0 0 0]) (qE 0 [qBg s]) (jK [(2,none)] 1 (fun r o=>r = .t (.int .i64 (s.1.length-s.2.1:Nat))∧o=[qBg s])):=by
 obtain⟨b,a,e⟩:=s
 have ha:a≤b.length∧b.length<1000000000:=hs
 simp (disch:=omega) only [go_sem,seval,qA0,zZ]
 repeat refine And.intro rfl ?_
 all_goals trivial
theorem qIz (tab:Tab) (gl:Gl) (s:Rd) (hs:qGd s):qAw.wp tab gl (qE 0 [.ref 0 0 0]) (qE 0 [qBg s]) (jK [(2,none)] 1 (fun r o=>r = .t (.int .i64 (s.1.length-s.2.1:Nat))∧o=[qBg s])):=by
 obtain⟨b,a,e⟩:=s
 have ha:a≤b.length∧b.length<1000000000:=hs
 simp (disch:=omega) only [go_sem,seval,qAw,zZ]
 repeat refine And.intro rfl ?_
 all_goals trivial
def qEx:Ct where
 α:=Rd
 as _:=[.ref 0 0 0]
 ins x:=[qBg x]
 pre x:=qGd x
 r x:= .t (.int .i64 (x.1.length-x.2.1:Nat))
 outs x:=[qBg x]
 inj:=by
  intro s t _ h2
  simp only[List.cons.injEq,and_true] at h2
  cases qDq h2
  exact⟨rfl,rfl⟩
theorem qRy {b:List UInt8} {a:Nat} {e:Int} (h:a≤b.length∧b.length<1000000000):qEx.fs [.ref 0 0 0] [.live 3 [.t (.agg [.sl (b.map qA),.int .i64 (a:Int),.int .i64 e])] true true] =
  some (.t (.int .i64 (b.length-a:Nat)),[.live 3 [.t (.agg [.sl (b.map qA),.int .i64 (a:Int),.int .i64 e])] true true]):=qEx.eq (b,a,e) h
theorem qJz (tab:Tab) (gl:Gl) (n1:Nat) (h1:tab.look n1=some qEx.fs) (s:Rd) (hs:qGd s):(vK n1).wp tab gl (qE 0 [.ref 0 0 0]) (qE 0 [qBg s]) (jK [(2,none)] 1 (fun r o=>r = .t (.int .i64 (qAn s))∧o=[qBg s])):=by
 obtain⟨b,a,e⟩:=s
 have ha:a≤b.length∧b.length<1000000000:=hs
 by_cases he:e=0
 ·subst he
  by_cases hl:a<b.length
  ·simp (disch:=omega) only [go_sem,seval,vK,zZ,h1,qRy,qAn,hl]
   repeat refine And.intro rfl ?_
   all_goals trivial
  ·simp (disch:=omega) only [go_sem,seval,vK,zZ,h1,qRy,qAn,hl]
   repeat refine And.intro rfl ?_
   all_goals trivial
 ·simp (disch:=omega) only [go_sem,seval,vK,zZ,qAn,he]
  repeat refine And.intro rfl ?_
  all_goals trivial
theorem qJt (tab:Tab) (gl:Gl) (n1:Nat) (h1:tab.look n1=some qEx.fs) (s:Rd) (hs:qGd s):(vH n1).wp tab gl (qE 0 [.ref 0 0 0]) (qE 0 [qBg s]) (jK [(2,none)] 1 (fun r o=>r = .t (.int .i64 (qAn s))∧o=[qBg s])):=by
 obtain⟨b,a,e⟩:=s
 have ha:a≤b.length∧b.length<1000000000:=hs
 by_cases he:e=0
 ·subst he
  by_cases hl:a<b.length
  ·simp (disch:=omega) only [go_sem,seval,vH,zZ,h1,qRy,qAn,hl]
   repeat refine And.intro rfl ?_
   all_goals trivial
  ·simp (disch:=omega) only [go_sem,seval,vH,zZ,h1,qRy,qAn,hl]
   repeat refine And.intro rfl ?_
   all_goals trivial
 ·simp (disch:=omega) only [go_sem,seval,vH,zZ,qAn,he]
  repeat refine And.intro rfl ?_
  all_goals trivial
def qPe (n m:Int):Int:=if m<1 then 0 else n%m
theorem zC0 (tab:Tab) (gl:Gl) (n m:Int) (hn : -9223372036854775808≤n∧n<9223372036854775808) (hm : -9223372036854775808≤m∧m<9223372036854775808):qC9.wp tab gl (qE 0 [.t (.int .i64 n),.t (.int .i64 m)]) (qE 0 []) (jK [(4,none)] 0 (fun r o=>r = .t (.int .i64 (qPe n m))∧o=[])):=by
 by_cases h1:m<1
 ·simp (disch:=omega) only [go_sem,seval,qC9,qPe,h1]
 ·have ht:n.tmod m=n%m∨n.tmod m=n%m-m:=by
   rcases Int.lt_or_le n 0 with h | h
   ·by_cases hz:n%m=0
    ·left
     rw[Int.tmod_eq_emod];simp[hz,Int.dvd_of_emod_eq_zero hz]
    ·right
     rw[Int.tmod_eq_emod]
     have : ¬ m ∣ n:=fun hd=>hz (Int.emod_eq_zero_of_dvd hd)
     rw[if_neg (by omega)];omega
   ·left;exact Int.tmod_eq_emod_of_nonneg h
  have p1:=Int.emod_nonneg n (b:=m) (by omega)
  have p2:=Int.emod_lt_of_pos n (b:=m) (by omega)
  rcases ht with ht | ht
  ·simp (disch:=omega) only [go_sem,seval,qC9,qPe,h1,ht]
  ·simp (disch:=omega) only [go_sem,seval,qC9,qPe,h1,ht]
   omega
end Go.Eng
end
section
namespace Go.Eng
def zY:AC:=
 (.seq
 (rG 16384 [bT 9 .lss 8 7])
 (.seq
 (.cond (.tmp 9)
 .skip
 (.exit 0))
 (.seq
 (.block 1
 (.seq
 (rG 20480 [mv 10 8,mv 4 10])
 (.seq
 (rG 24576 [mv 11 4,bN 12 .lss 11 2,mv 13 12,oG 14 13 (.faddr 0) [.tmp 1],oG 15 13 (.load 1 false) [.tmp 14],mG 16 4 13,oG 17 13 (.iaddr 1) [.tmp 15,.tmp 16],oG 18 13 (.load 1 false) [.tmp 17],oG 19 13 .len [.tmp 18],oG 20 13 (.bin .eql) [.tmp 19,.cst (.t (.int .i64 16))],oO 21 .pick [.tmp 13,.tmp 20,.cst (.t (.bool false))]])
 (.cond (.tmp 21)
 (rG 28672 [mv 22 3,mv 23 4,oO 24 (.conv .u64) [.tmp 23],oO 25 (.bin .shl) [.cst (.t (.int .i64 1)),.tmp 24],bT 26 .or 22 25,mv 3 26])
 .skip))))
 (rG 32768 [bN 27 .add 8 1,mv 8 27]))))
def yC:AC:=
 (.seq
 (rG 4096 [oO 1 .box [.tmp 0],mC 2 (.t (.int .i64 0))])
 (.seq
 (rG 8192 [mC 3 (.t (.int .i64 0))])
 (.seq
 (.seq
 (rG 12288 [oO 5 (.faddr 0) [.tmp 1],oO 6 (.load 1 false) [.tmp 5],oO 7 .len [.tmp 6],mC 8 (.t (.int .i64 0))])
 (.block 0
 (.loop zY)))
 (.seq
 (rG 36864 [mv 28 3,mv 2 28])
 .ret))))
def qEo (n_registers_active:Nat):AC:=
 (.seq
 (rG 4096 [oO 2 .box [.tmp 0],mC 4 (.t (.bool false))])
 (.seq
 (rG 8192 [oO 5 (.load 2 true) [.tmp 2],cL 6 n_registers_active false [.tmp 5],mv 7 1,oO 8 (.conv .u64) [.tmp 7],bT 9 .shr 6 8,bN 10 .and 9 1,bN 11 .eql 10 1,mv 4 11])
 .ret))
def jY:AC:=
 (.seq
 (rG 32768 [bT 22 .lss 21 20])
 (.seq
 (.cond (.tmp 22)
 .skip
 (.exit 2))
 (.seq
 (.block 3
 (.seq
 (rG 36864 [oO 23 (.iaddr 1) [.tmp 19,.tmp 21],oO 24 (.load 1 false) [.tmp 23],mv 8 24])
 (rG 40960 [mv 25 6,mv 26 8,oO 27 (.append 1 1) [.cst .nil,.tmp 26],oO 28 (.bslice 1 1 .nil [0]) [.tmp 27],oO 29 (.append 1 24) [.tmp 25,.tmp 28],mv 6 29])))
 (rG 45056 [bN 30 .add 21 1,mv 21 30]))))
def jX:AC:=
 (.seq
 (rG 16384 [bT 16 .lss 15 14])
 (.seq
 (.cond (.tmp 16)
 .skip
 (.exit 0))
 (.seq
 (.block 1
 (.seq
 (rG 20480 [oO 17 (.iaddr 1) [.tmp 13,.tmp 15],oO 18 (.load 1 false) [.tmp 17],mv 5 18])
 (.seq
 (rG 24576 [mC 6 .nil])
 (.seq
 (.seq
 (rG 28672 [mv 19 5,oO 20 .len [.tmp 19],mC 21 (.t (.int .i64 0))])
 (.block 2
 (.loop jY)))
 (rG 49152 [oO 31 (.faddr 0) [.tmp 3],oO 32 (.load 1 false) [.tmp 31],mv 33 6,oO 34 (.bslice 1 1 .nil [0]) [.tmp 33],oO 35 (.append 1 24) [.tmp 32,.tmp 34],oO 36 (.faddr 0) [.tmp 3],oS 1 36 35])))))
 (rG 53248 [bN 37 .add 15 1,mv 15 37]))))
def yS:AC:=
 (.seq
 (rG 4096 [oO 1 .box [.tmp 0],oO 2 (.new 2 [(.agg [.nil,(.t (.int .i64 0))])]) []])
 (.seq
 (rG 8192 [oO 9 (.faddr 1) [.tmp 1],oO 10 (.load 1 false) [.tmp 9],oO 11 (.build [.nil,(.t (.int .i64 0))] [(1,1)]) [.tmp 10],oO 3 (.new 2 [(.agg [.nil,(.t (.int .i64 0))])]) [],oS 2 3 11])
 (.seq
 (.seq
 (rG 12288 [oO 12 (.faddr 0) [.tmp 1],oO 13 (.load 1 false) [.tmp 12],oO 14 .len [.tmp 13],mC 15 (.t (.int .i64 0))])
 (.block 0
 (.loop jX)))
 (.seq
 (rG 57344 [oO 38 (.load 2 true) [.tmp 3],oS 2 2 38])
 .ret))))
def qCs (n_bytes_Repeat:Nat):AC:=
 (.seq
 (rG 4096 [mC 4 .nil])
 (.seq
 (rG 8192 [mv 5 1,oO 6 (.bslice 1 1 (.t (qA 0)) [0]) [.tmp 5],mv 7 0,cL 8 n_bytes_Repeat false [.tmp 6,.tmp 7],mv 4 8])
 .ret))
def vJ:AC:=
 (.seq
 (rG 4096 [mC 2 (.t (.bool false))])
 (.seq
 (rG 8192 [mv 3 0,bN 4 .geq 3 0,mv 5 4,mG 6 0 5,oG 7 5 (.bin .lss) [.tmp 6,.cst (.t (.int .i64 16))],oO 8 .pick [.tmp 5,.tmp 7,.cst (.t (.bool false))],mv 2 8])
 .ret))
def qM (n_digest_Size n_registers_fill:Nat):AC:=
 (.seq
 (.seq
 (rG 40960 [mv 15 6,bN 16 .lss 15 16,mv 17 16,mG 18 0 17,mG 19 4 17,oG 20 17 (.conv .u64) [.tmp 19],oG 21 17 (.bin .shr) [.tmp 18,.tmp 20],oG 22 17 (.bin .and) [.tmp 21,.cst (.t (.int .i64 1))],oG 23 17 (.bin .eql) [.tmp 22,.cst (.t (.int .i64 1))],oO 24 .pick [.tmp 17,.tmp 23,.cst (.t (.bool false))]])
 (.cond (.tmp 24)
 .skip
 (.exit 2)))
 (.seq
 (.block 3
 (.seq
 (rG 49152 [mC 7 (.t (qA 0))])
 (.seq
 (.seq
 (rG 53248 [mv 27 6,bN 28 .geq 27 12])
 (.cond (.tmp 28)
 (rG 57344 [mC 7 (.t (qA 255))])
 .skip))
 (rG 61440 [mv 29 5,mv 30 4,cL 31 n_digest_Size false [.tmp 30],mv 32 7,cL 33 n_registers_fill false [.tmp 31,.tmp 32],oO 34 (.bslice 1 1 .nil [0]) [.tmp 33],oO 35 (.append 1 24) [.tmp 29,.tmp 34],mv 5 35]))))
 (rG 45056 [mv 25 6,bN 26 .add 25 1,mv 6 26])))
def zD (n_digest_Size n_registers_fill:Nat):AC:=
 (.seq
 (rG 24576 [bN 13 .lss 12 2])
 (.seq
 (.cond (.tmp 13)
 .skip
 (.exit 0))
 (.seq
 (.block 1
 (.seq
 (rG 28672 [mv 14 12,mv 4 14])
 (.seq
 (rG 32768 [mC 5 .nil])
 (.seq
 (.seq
 (rG 36864 [mC 6 (.t (.int .i64 0))])
 (.block 2
 (.loop (qM n_digest_Size n_registers_fill))))
 (rG 65536 [oO 36 (.faddr 0) [.tmp 3],oO 37 (.load 1 false) [.tmp 36],mv 38 5,oO 39 (.bslice 1 1 .nil [0]) [.tmp 38],oO 40 (.append 1 24) [.tmp 37,.tmp 39],oO 41 (.faddr 0) [.tmp 3],oS 1 41 40])))))
 (rG 69632 [bN 42 .add 12 1,mv 12 42]))))
def jJ (n_digest_Size n_registers_fill:Nat):AC:=
 (.seq
 (rG 4096 [oO 2 (.new 2 [(.agg [.nil,(.t (.int .i64 0))])]) []])
 (.seq
 (.seq
 (rG 8192 [mv 8 0,bN 9 .and 8 3,bN 10 .eql 9 0])
 (.cond (.tmp 10)
 (.seq
 (rG 12288 [oO 11 (.build [.nil,(.t (.int .i64 0))] []) [],oS 2 2 11])
 .ret)
 .skip))
 (.seq
 (rG 16384 [oO 3 (.new 2 [(.agg [.nil,(.t (.int .i64 0))])]) []])
 (.seq
 (.seq
 (rG 20480 [mC 12 (.t (.int .i64 0))])
 (.block 0
 (.loop (zD n_digest_Size n_registers_fill))))
 (.seq
 (rG 73728 [oO 43 (.load 2 true) [.tmp 3],oS 2 2 43])
 .ret)))))
def qBz:AC:=
 (.seq
 (rG 4096 [mC 4 (.t (.int .i64 0))])
 (.seq
 (.block 0
 (.seq
 (rG 8192 [mv 6 1,mv 7 6,mG 8 0 7,oG 9 7 (.bin .lss) [.tmp 8,.cst (.t (.int .i64 12))],oO 10 .pick [.tmp 7,.tmp 9,.cst (.t (.bool false))],mv 5 10])
 (.cond (.tmp 5)
 (.seq
 (rG 12288 [mC 4 (.t (.int .i64 5))])
 .ret)
 (.seq
 (rG 16384 [mv 12 0,bN 13 .eql 12 14,mv 11 13])
 (.cond (.tmp 11)
 (.seq
 (.seq
 (rG 20480 [mv 14 1])
 (.cond (.tmp 14)
 (.seq
 (rG 24576 [mC 4 (.t (.int .i64 3))])
 .ret)
 .skip))
 (.seq
 (rG 28672 [mC 4 (.t (.int .i64 2))])
 .ret))
 (.seq
 (rG 32768 [mv 16 0,bN 17 .eql 16 15,mv 15 17])
 (.cond (.tmp 15)
 (.seq
 (.seq
 (rG 36864 [mv 18 1])
 (.cond (.tmp 18)
 (.seq
 (rG 40960 [mC 4 (.t (.int .i64 4))])
 .ret)
 .skip))
 (.seq
 (rG 45056 [mC 4 (.t (.int .i64 3))])
 .ret))
 .skip)))))))
 (.seq
 (rG 49152 [mC 4 (.t (.int .i64 0))])
 .ret)))
def qR (n_registers_on:Nat):AC:=
 (.seq
 (rG 28672 [bT 41 .lss 40 39])
 (.seq
 (.cond (.tmp 41)
 .skip
 (.exit 0))
 (.seq
 (.block 1
 (.seq
 (rG 32768 [mv 42 40,oO 43 (.iaddr 1) [.tmp 38,.tmp 40],oO 44 (.load 1 false) [.tmp 43],mv 10 42,mv 11 44])
 (.seq
 (rG 36864 [oO 45 (.load 2 true) [.tmp 4],mv 46 10,cL 47 n_registers_on false [.tmp 45,.tmp 46],oO 48 (.un .not) [.tmp 47],mv 49 48,mG 50 11 49,oG 51 49 .len [.tmp 50],oG 52 49 (.bin .gtr) [.tmp 51,.cst (.t (.int .i64 0))],oO 53 .pick [.tmp 49,.tmp 52,.cst (.t (.bool false))]])
 (.cond (.tmp 53)
 (.seq
 (rG 40960 [oO 54 (.build [.nil,(.t (.int .i64 0))] []) [],oS 2 8 54,mC 9 (.t (.int .i64 27))])
 .ret)
 .skip))))
 (rG 45056 [bN 55 .add 40 1,mv 40 55]))))
def qY (n_registers_on n_digest_Size:Nat):AC:=
 (.seq
 (rG 53248 [bT 59 .lss 58 57])
 (.seq
 (.cond (.tmp 59)
 .skip
 (.exit 2))
 (.seq
 (.block 3
 (.seq
 (rG 57344 [mv 60 58,oO 61 (.iaddr 1) [.tmp 56,.tmp 58],oO 62 (.load 1 false) [.tmp 61],mv 12 60,mv 13 62])
 (.seq
 (rG 61440 [oO 63 (.load 2 true) [.tmp 4],mv 64 12,cL 65 n_registers_on false [.tmp 63,.tmp 64],mv 66 65,mG 67 13 66,oG 68 66 .len [.tmp 67],mG 69 12 66,cG 70 66 n_digest_Size false [.tmp 69],oG 71 66 (.bin .neq) [.tmp 68,.tmp 70],oO 72 .pick [.tmp 66,.tmp 71,.cst (.t (.bool false))]])
 (.cond (.tmp 72)
 (.seq
 (rG 65536 [oO 73 (.build [.nil,(.t (.int .i64 0))] []) [],oS 2 8 73,mC 9 (.t (.int .i64 24))])
 .ret)
 .skip))))
 (rG 69632 [bN 74 .add 58 1,mv 58 74]))))
def qJ (n_registers_on n_digest_Sum:Nat):AC:=
 (.seq
 (rG 81920 [bT 81 .lss 80 79])
 (.seq
 (.cond (.tmp 81)
 .skip
 (.exit 4))
 (.seq
 (.block 5
 (.seq
 (rG 86016 [mv 82 80,mv 15 82])
 (.seq
 (rG 90112 [oO 83 (.load 2 true) [.tmp 4],mv 84 15,cL 85 n_registers_on false [.tmp 83,.tmp 84]])
 (.cond (.tmp 85)
 (.reg 94208 (some [0,1,0,7,15,0,0,0,128,0,896,1920,0,8064,16256,32640,0,0,196608,458752,1048448,2097088,4194303,8388607]) [oO 86 (.faddr 0) [.tmp 14],oO 87 (.load 1 false) [.tmp 86],mv 88 15,oO 89 (.iaddr 1) [.tmp 87,.tmp 88],oO 90 (.load 1 false) [.tmp 89],mv 91 2,mv 92 15,oO 93 (.faddr 0) [.tmp 4],oO 94 (.load 1 false) [.tmp 93],mv 95 15,oO 96 (.iaddr 1) [.tmp 94,.tmp 95],oO 97 (.load 1 false) [.tmp 96],mv 98 2,oO 99 (.iaddr 1) [.tmp 97,.tmp 98],oO 100 (.load 1 false) [.tmp 99],oO 101 (.append 1 1) [.cst .nil,.tmp 100],mv 102 3,mv 103 15,oO 104 (.iaddr 1) [.tmp 102,.tmp 103],oO 105 (.load 1 false) [.tmp 104],oO 106 (.append 1 1) [.tmp 101,.tmp 105],cL 107 n_digest_Sum false [.tmp 92,.tmp 106],oO 108 (.iaddr 1) [.tmp 90,.tmp 91],oS 1 108 107])
 .skip))))
 (rG 98304 [bN 109 .add 80 1,mv 80 109]))))
def qZ (n_registers_index n_registers_least n_registers_on n_digest_Size n_registers_twin n_digest_Sum:Nat):AC:=
 (.seq
 (rG 4096 [oO 4 .box [.tmp 0],oO 8 (.new 2 [(.agg [.nil,(.t (.int .i64 0))])]) [],mC 9 (.t (.int .i64 0))])
 (.seq
 (.seq
 (rG 8192 [mv 16 1,bN 17 .lss 16 0,mv 18 17,mF 19 1 18,oF 20 18 (.bin .gtr) [.tmp 19,.cst (.t (.int .i64 4))],oO 21 .pick [.tmp 18,.cst (.t (.bool true)),.tmp 20],mv 22 21,mF 23 2 22,cF 24 22 n_registers_index false [.tmp 23],oF 25 22 (.un .not) [.tmp 24],oO 26 .pick [.tmp 22,.cst (.t (.bool true)),.tmp 25],mv 27 26,mF 28 3 27,oF 29 27 .len [.tmp 28],oF 30 27 (.bin .neq) [.tmp 29,.cst (.t (.int .i64 2))],oO 31 .pick [.tmp 27,.cst (.t (.bool true)),.tmp 30]])
 (.cond (.tmp 31)
 (.seq
 (rG 12288 [oO 32 (.build [.nil,(.t (.int .i64 0))] []) [],oS 2 8 32,mC 9 (.t (.int .i64 1))])
 .ret)
 .skip))
 (.seq
 (.seq
 (rG 16384 [mv 33 1,mv 34 2,cL 35 n_registers_least false [.tmp 34,.cst (.t (.bool false))],bT 36 .lss 33 35])
 (.cond (.tmp 36)
 (.seq
 (rG 20480 [oO 37 (.build [.nil,(.t (.int .i64 0))] []) [],oS 2 8 37,mC 9 (.t (.int .i64 13))])
 .ret)
 .skip))
 (.seq
 (.seq
 (rG 24576 [mv 38 3,oO 39 .len [.tmp 38],mC 40 (.t (.int .i64 0))])
 (.block 0
 (.loop (qR n_registers_on))))
 (.seq
 (.seq
 (rG 49152 [mv 56 3,oO 57 .len [.tmp 56],mC 58 (.t (.int .i64 0))])
 (.block 2
 (.loop (qY n_registers_on n_digest_Size))))
 (.seq
 (rG 73728 [oO 75 (.load 2 true) [.tmp 4],cL 76 n_registers_twin true [.tmp 75],oO 14 (.new 2 [(.agg [.nil,(.t (.int .i64 0))])]) [],oS 2 14 76])
 (.seq
 (.seq
 (rG 77824 [oO 77 (.faddr 0) [.tmp 14],oO 78 (.load 1 false) [.tmp 77],oO 79 .len [.tmp 78],mC 80 (.t (.int .i64 0))])
 (.block 4
 (.loop (qJ n_registers_on n_digest_Sum))))
 (.seq
 (rG 102400 [oO 110 (.faddr 1) [.tmp 14],oO 111 (.load 1 false) [.tmp 110],bN 112 .add 111 1,oO 113 (.faddr 1) [.tmp 14],oS 1 113 112])
 (.seq
 (rG 106496 [oO 114 (.load 2 true) [.tmp 14],oS 2 8 114,mC 9 (.t (.int .i64 0))])
 .ret)))))))))
def zG (n_wire_Uint:Nat):AC:=
 (.seq
 (rG 16384 [bN 15 .lss 14 2])
 (.seq
 (.cond (.tmp 15)
 .skip
 (.exit 0))
 (.seq
 (.block 1
 (.seq
 (rG 20480 [oO 16 (.index 2 1 false) [.tmp 13,.tmp 14],mv 9 16])
 (.seq
 (.seq
 (rG 24576 [mv 17 9,bN 18 .lss 17 0,mv 19 18,mF 20 9 19,oF 21 19 (.bin .gtr) [.tmp 20,.cst (.t (.int .i64 65535))],oO 22 .pick [.tmp 19,.cst (.t (.bool true)),.tmp 21]])
 (.cond (.tmp 22)
 (.seq
 (rG 28672 [mC 4 .nil,mC 5 (.t (.int .i64 1))])
 .ret)
 .skip))
 (rG 32768 [mv 23 6,mv 24 9,cL 25 n_wire_Uint false [.tmp 23,.cst (.t (.int .i64 2)),.tmp 24],mv 6 25]))))
 (rG 36864 [bN 26 .add 14 1,mv 14 26]))))
def qT:AC:=
 (.seq
 (rG 65536 [bN 41 .lss 40 16])
 (.seq
 (.cond (.tmp 41)
 .skip
 (.exit 4))
 (.seq
 (.block 5
 (.seq
 (rG 69632 [mv 42 40,mv 12 42])
 (.seq
 (rG 73728 [mv 43 11,mv 44 12,oO 45 (.conv .u64) [.tmp 44],bT 46 .shr 43 45,bN 47 .and 46 1,bN 48 .eql 47 1])
 (.cond (.tmp 48)
 (rG 77824 [mv 49 7,oO 50 (.faddr 0) [.tmp 2],oO 51 (.load 1 false) [.tmp 50],mv 52 10,oO 53 (.iaddr 1) [.tmp 51,.tmp 52],oO 54 (.load 1 false) [.tmp 53],mv 55 12,oO 56 (.iaddr 1) [.tmp 54,.tmp 55],oO 57 (.load 1 false) [.tmp 56],oO 58 (.append 1 1) [.tmp 49,.tmp 57],mv 7 58])
 .skip))))
 (rG 81920 [bN 59 .add 40 1,mv 40 59]))))
def zH (n_registers_on:Nat):AC:=
 (.seq
 (rG 45056 [bN 29 .lss 28 2])
 (.seq
 (.cond (.tmp 29)
 .skip
 (.exit 2))
 (.seq
 (.block 3
 (.seq
 (rG 49152 [mv 30 28,oO 31 (.index 2 1 false) [.tmp 27,.tmp 28],mv 10 30,mv 11 31])
 (.seq
 (.seq
 (rG 53248 [mv 32 11,bN 33 .neq 32 0,mv 34 33,oG 35 34 (.load 2 true) [.tmp 2],mG 36 10 34,cG 37 34 n_registers_on false [.tmp 35,.tmp 36],oG 38 34 (.un .not) [.tmp 37],oO 39 .pick [.tmp 34,.tmp 38,.cst (.t (.bool false))]])
 (.cond (.tmp 39)
 (.seq
 (rG 57344 [mC 4 .nil,mC 5 (.t (.int .i64 27))])
 .ret)
 .skip))
 (.seq
 (rG 61440 [mC 40 (.t (.int .i64 0))])
 (.block 4
 (.loop qT))))))
 (rG 86016 [bN 60 .add 28 1,mv 28 60]))))
def qAy (n_wire_Uint n_registers_on n_digest_Hash:Nat):AC:=
 (.seq
 (rG 4096 [oO 2 .box [.tmp 0],oO 3 .boxArr [.tmp 1],mC 4 .nil,mC 5 (.t (.int .i64 0))])
 (.seq
 (rG 8192 [mC 6 .nil,mC 7 .nil])
 (.seq
 (.seq
 (rG 12288 [oO 13 (.load 2 true) [.tmp 3],mC 14 (.t (.int .i64 0))])
 (.block 0
 (.loop (zG n_wire_Uint))))
 (.seq
 (.seq
 (rG 40960 [oO 27 (.load 2 true) [.tmp 3],mC 28 (.t (.int .i64 0))])
 (.block 2
 (.loop (zH n_registers_on))))
 (.seq
 (rG 90112 [mv 61 6,mv 62 7,oO 63 (.bslice 1 2 .nil [0,1]) [.tmp 61,.tmp 62],cL 64 n_digest_Hash false [.cst (.t (.int .i64 5)),.tmp 63],mv 4 64,mC 5 (.t (.int .i64 0))])
 .ret)))))
end Go.Eng
end
section
set_option maxRecDepth 20000
set_option maxHeartbeats 8000000
namespace Go.Eng
theorem qVp (tab:Tab) (gl:Gl) (n:Int) (hn:n=20∨n=32):qC7.wp tab gl (qE 0 [.t (.int .u64 1),.t (.int .u64 n)]) (qE 0 []) (jK [(4,none),(5,none)] 0 (fun r o=>r = .tup [.t (.int .u64 0),.t (.int .u64 n)]∧o=[])):=by
 rcases hn with rfl | rfl
 ·simp (disch:=omega) only [go_sem,seval,qC7,BitVec.reduceOfInt,BitVec.reduceAnd,BitVec.reduceToNat,Int.reduceFDiv]
 ·simp (disch:=omega) only [go_sem,seval,qC7,BitVec.reduceOfInt,BitVec.reduceAnd,BitVec.reduceToNat,Int.reduceFDiv]
def qB3:Ct where
 α:=Int
 as x:=[.t (.int .u64 1),.t (.int .u64 x)]
 ins _:=[]
 pre x:=x=20∨x=32
 r x:= .tup [.t (.int .u64 0),.t (.int .u64 x)]
 outs _:=[]
 inj:=by
  intro a b h _
  simp at h
  subst h;exact⟨rfl,rfl⟩
theorem qZ5 {n:Int} (h:n=20∨n=32):qB3.fs [.t (.int .u64 1),.t (.int .u64 n)] []=some (.tup [.t (.int .u64 0),.t (.int .u64 n)],[]):=qB3.eq n h
theorem zCv (tab:Tab) (gl:Gl) (n1 n2:Nat) (h2:tab.look n2=some qB3.fs) (n:Int) (hn:n=20∨n=32):(qL6 n1 n2).wp tab gl (qE 0 [.t (.int .u64 1),.t (.int .u64 n)]) (qE 0 []) (jK [(4,none),(5,none)] 0 (fun r o=>r = .tup [.t (.int .u64 0),.t (.int .u64 n)]∧o=[])):=by
 simp (disch:=omega) only [go_sem,seval,qL6,h2,qZ5]
def qTz:Ct where
 α:=Int
 as x:=[.t (.int .i64 x)]
 ins _:=[]
 pre x:=x=20∨x=32
 r x:= .sl 0 0 x.toNat
 outs _:=[.live 1 [] true false]
 inj:=by
  intro a b h _
  simp at h
  subst h;exact⟨rfl,rfl⟩
theorem zVu {n:Int} (h:n=20∨n=32):qTz.fs [.t (.int .i64 n)] []=some (.sl 0 0 n.toNat,[.live 1 [] true false]):=qTz.eq n h
theorem qVj {α:Type} {l xs:List α}:zT l l.length xs=l++xs:=by simp[zT]
theorem qPn (tab:Tab) (gl:Gl) (n1 n2:Nat) (h1:tab.look n1=some qB3.fs) (h2:tab.look n2=some qTz.fs) (x:UInt8) (n:Nat) (hn:n=20∨n=32) :
  (qEe n1 n2).wp tab gl (qE 0 [.t (.sl ([x].map qA)),.t (.int .i64 n)]) (qE 0 []) (qAg [] [(4,none)] 0 (fun r o=>r = .sl 0 0 n∧o=[.live 1 (((List.replicate n x).map qA).map V.t) true false])):=by
 have hn2:(n:Int)=20∨(n:Int)=32:=by omega
 have ht1 : ∀ v:V,List.take n [v]=[v]:=fun v=>List.take_of_length_le (by simp only[List.length_cons,List.length_nil];omega)
 simp (disch:=omega) only [go_sem,seval,qEe,h1,h2,qZ5,zVu,ht1]
 refine qE9 (ι := { p:Nat // 1≤p∧p≤n }) (fun p=>([(7,.t (.int .i64 n)),(8,.t (.int .i64 n)),(9,.sl 69648 0 n),(10,.t (.int .i64 p.1))],[(69648,.live 1 (((List.replicate p.1 x).map qA).map V.t) true false)])) (fun p=>n-p.1) ⟨1,by omega⟩ ?_ (fun p=>?_)
 ·refine qQ.rd id ?_ ?_ rfl
  all_goals simp (disch:=omega) only [go_sem,seval,id,List.map_cons,List.map_nil]
 ·obtain⟨p,hp1,hp2⟩:=p
  by_cases hlt:p<n
  ·have hse : ∀ xs,zT (List.map V.t (List.map qA (List.replicate p x))) p xs=List.map V.t (List.map qA (List.replicate p x))++xs:=by
    intro xs
    have:=qVj (l:=List.map V.t (List.map qA (List.replicate p x))) (xs:=xs)
    simpa using this
   have hm:(if (n:Int)<(p:Int) then (n:Int) else (p:Int))=p:=if_neg (by omega)
   by_cases hd:p≤n-p
   ·simp (disch:=omega) only [go_sem,seval,vF,hse,List.take_replicate,hm]
    refine⟨rfl,⟨p+p,by omega⟩,by simp only;omega,qQ.rd id ?_ ?_ rfl⟩
    all_goals simp (disch:=omega) only [go_sem,seval,id,List.replicate_append_replicate]
   ·simp (disch:=omega) only [go_sem,seval,vF,hse,List.take_replicate,hm]
    refine⟨rfl,⟨p+(n-p),by omega⟩,by simp only;omega,qQ.rd id ?_ ?_ rfl⟩
    all_goals simp (disch:=omega) only [go_sem,seval,id,List.replicate_append_replicate]
  ·have e:p=n:=by omega
   subst e
   simp (disch:=omega) only [go_sem,seval,vF]
def qE0:Ct where
 α:=UInt8×Nat
 as x:=[.t (.sl ([x.1].map qA)),.t (.int .i64 x.2)]
 ins _:=[]
 pre x:=x.2=20∨x.2=32
 r x:= .sl 0 0 x.2
 outs x:=[.live 1 (((List.replicate x.2 x.1).map qA).map V.t) true false]
 inj:=by
  rintro⟨a,b⟩ ⟨c,d⟩ h _
  simp[qLn,Int.natCast_inj] at h
  obtain⟨rfl,rfl⟩:=h
  exact⟨rfl,rfl⟩
theorem zGu {x:UInt8} {n:Nat} (h:n=20∨n=32):qE0.fs [.t (.sl [qA x]),.t (.int .i64 n)] []=some (.sl 0 0 n,[.live 1 (((List.replicate n x).map qA).map V.t) true false]):=qE0.eq (x,n) h
theorem qLd (tab:Tab) (gl:Gl) (n1:Nat) (h1:tab.look n1=some qE0.fs) (x:UInt8) (n:Nat) (hn:n=20∨n=32):(qCs n1).wp tab gl (qE 0 [.t (.int .i64 n),.t (qA x)]) (qE 0 []) (qAg [] [(4,none)] 0 (fun r o=>r = .sl 0 0 n∧o=[.live 1 (((List.replicate n x).map qA).map V.t) true false])):=by
 simp (disch:=omega) only [go_sem,seval,qCs,h1,zGu]
end Go.Eng
end
section
set_option maxRecDepth 20000
set_option maxHeartbeats 8000000
namespace Go.Eng
abbrev jI:=List (List UInt8)
def qBn (b:jI):T:= .sl (b.map bsT)
def xT (bk:List jI) (u:Int):T:= .agg [.sl (bk.map qBn),.int .i64 u]
theorem zDu {b:jI}:qBn b = .sl (b.map bsT):=Eq.trans (Eq.refl _) rfl
theorem zLm {bk:List jI} {u:Int}:xT bk u = .agg [.sl (bk.map qBn),.int .i64 u]:=Eq.trans (Eq.refl _) rfl
attribute [go_sem] zDu zLm
def qTj (b:jI):Prop:=b.length=0∨b.length=16
def zIv (b0 b1:jI):Int:=(if b0.length=16 then 1 else 0)+(if b1.length=16 then 2 else 0)
theorem qHc (tab:Tab) (gl:Gl) (u:Int):yC.wp tab gl (qE 0 [.t (xT [] u)]) (qE 0 []) (jK [(2,none)] 0 (fun r o=>r = .t (.int .i64 0)∧o=[])):=by
 simp (disch:=omega) only [go_sem,seval,yC,List.map_nil,List.map_cons]
 refine qU 1 ?_
 simp (disch:=omega) only [go_sem,seval,qG,zY]
theorem qHd (tab:Tab) (gl:Gl) (b0 b1:jI) (h0:b0.length<1000000000) (h1:b1.length<1000000000) (u:Int):yC.wp tab gl (qE 0 [.t (xT [b0,b1] u)]) (qE 0 []) (jK [(2,none)] 0 (fun r o=>r = .t (.int .i64 (zIv b0 b1))∧o=[])):=by
 simp (disch:=omega) only [go_sem,seval,yC,List.map_nil,List.map_cons]
 refine qU 3 ?_
 by_cases e0:b0.length=16
 ·by_cases e1:b1.length=16
  ·simp (disch:=omega) only [go_sem,seval,qG,zY,zIv,e0,e1,BitVec.reduceOfInt,BitVec.reduceOr,BitVec.reduceToNat]
  ·simp (disch:=omega) only [go_sem,seval,qG,zY,zIv,e0,e1,BitVec.reduceOfInt,BitVec.reduceOr,BitVec.reduceToNat]
 ·by_cases e1:b1.length=16
  ·simp (disch:=omega) only [go_sem,seval,qG,zY,zIv,e0,e1,BitVec.reduceOfInt,BitVec.reduceOr,BitVec.reduceToNat]
  ·simp (disch:=omega) only [go_sem,seval,qG,zY,zIv,e0,e1,BitVec.reduceOfInt,BitVec.reduceOr,BitVec.reduceToNat]
inductive RK:List jI→Prop
 | nil:RK []
 | two (b0 b1:jI) (h0:qTj b0) (h1:qTj b1):RK [b0,b1]
def zDo:List jI→Int
 | [b0,b1]=>zIv b0 b1
 | _=>0
theorem zDv {a b:jI} (h:qBn a=qBn b):a=b:=by
 simpa [qBn,qCz] using h
theorem qIh {a b:List jI} {u v:Int} (h:xT a u=xT b v):a=b∧u=v:=by
 simp only[xT,T.agg.injEq,List.cons.injEq,T.sl.injEq,T.int.injEq,true_and,and_true] at h
 exact⟨wB (fun _ _=>zDv) h.1,h.2⟩
def vD:Ct where
 α:=List jI×Int
 as x:=[.t (xT x.1 x.2)]
 ins _:=[]
 pre x:=RK x.1
 r x:= .t (.int .i64 (zDo x.1))
 outs _:=[]
 inj:=by
  rintro⟨a,u⟩ ⟨b,v⟩ h _
  simp only[List.cons.injEq,V.t.injEq,and_true] at h
  obtain⟨rfl,rfl⟩:=qIh h
  exact⟨rfl,rfl⟩
theorem zDp {bk:List jI} {u:Int} (h:RK bk):vD.fs [.t (.agg [.sl (bk.map qBn),.int .i64 u])] []=some (.t (.int .i64 (zDo bk)),[]):=vD.eq (bk,u) h
def onB (bk:List jI) (a:Nat):Bool:=decide ((bk.getD a []).length=16)
theorem qP0 (tab:Tab) (gl:Gl) (n1:Nat) (h1:tab.look n1=some vD.fs) (bk:List jI) (u:Int) (hk:RK bk) (a:Nat) (ha:a<2):(qEo n1).wp tab gl (qE 0 [.t (xT bk u),.t (.int .i64 a)]) (qE 0 []) (jK [(4,none)] 0 (fun r o=>r = .t (.bool (onB bk a))∧o=[])):=by
 have he:=zDp (u:=u) hk
 have hv:zDo bk=0∨zDo bk=1∨zDo bk=2∨zDo bk=3:=by
  cases hk with
  | nil=>left;rfl
  | two b0 b1 h0 h1=>simp only[zDo,zIv];split<;>split<;>simp
 have hon:onB bk a=decide ((zDo bk).toNat/2^a%2=1):=by
  cases hk with
  | nil=>
   rcases (show a=0∨a=1 by omega) with rfl | rfl<;>simp[onB,zDo]
  | two b0 b1 h0 h1=>
   rcases (show a=0∨a=1 by omega) with rfl | rfl
   ·simp only[onB,zDo,zIv,List.getD_cons_zero];split<;>split<;>simp_all
   ·simp only[onB,zDo,zIv,List.getD_cons_succ,List.getD_cons_zero];split<;>split<;>simp_all
 rw[hon]
 rcases (show a=0∨a=1 by omega) with rfl | rfl<;>rcases hv with hv | hv | hv | hv<;>rw[hv] at he<;>simp only[hv]
 all_goals simp (disch:=omega) only [go_sem,seval,qEo,h1,he,Int.reduceFDiv,Int.reduceToNat,Nat.reduceDiv,Nat.reduceMod,Int.reduceBEq]
theorem qJv (tab:Tab) (gl:Gl) (i:Int):vJ.wp tab gl (qE 0 [.t (.int .i64 i)]) (qE 0 []) (jK [(2,none)] 0 (fun r o=>r = .t (.bool (decide (0≤i∧i<16)))∧o=[])):=by
 by_cases h:0≤i
 ·by_cases h2:i<16
  ·simp (disch:=omega) only [go_sem,seval,vJ,h,h2]
  ·simp (disch:=omega) only [go_sem,seval,vJ,h,h2]
 ·simp (disch:=omega) only [go_sem,seval,vJ,h]
def qBc (i:Int) (reset:Bool):Int:=if reset=true∧i<12 then 5 else if i=14 then (if reset then 3 else 2) else if i=15 then (if reset then 4 else 3) else 0
theorem qJw (tab:Tab) (gl:Gl) (i:Int) (rs:Bool):qBz.wp tab gl (qE 0 [.t (.int .i64 i),.t (.bool rs)]) (qE 0 []) (jK [(4,none)] 0 (fun r o=>r = .t (.int .i64 (qBc i rs))∧o=[])):=by
 cases rs<;>by_cases h12:i<12<;>by_cases h14:i=14<;>by_cases h15:i=15
 all_goals try omega
 all_goals simp (disch:=omega) only [go_sem,seval,qBz,qBc,h12,h14,h15]
def zT4 (bk:List jI) (a:Nat):Bool:=decide (a<bk.length)&&decide (0<(bk.getD a []).length)
end Go.Eng
end
section
set_option maxRecDepth 20000
set_option maxHeartbeats 8000000
namespace Go.Eng
theorem qJx (tab:Tab) (gl:Gl) (u:Int):yS.wp tab gl (qE 0 [.t (xT [] u)]) (qE 0 []) (qAg [] [(2,some (2,true))] 0 (fun r o=>r = .agg [.nil,.t (.int .i64 u)]∧o=[])):=by
 simp (disch:=omega) only [go_sem,seval,yS,List.map_nil,Int.natCast_zero]
 refine qU 1 ?_
 simp (disch:=omega) only [go_sem,seval,qG,jX]
theorem qJy (tab:Tab) (gl:Gl) (b0 b1:jI) (u:Int) (m0:zTs b0) (m1:zTs b1):yS.wp tab gl (qE 0 [.t (xT [b0,b1] u)]) (qE 0 []) (qAg [] [(2,some (2,true))] 0 (fun r o=>r = .agg [.sl 0 0 2,.t (.int .i64 u)]∧o=[.live 1 [.sl 1 0 b0.length,.sl 2 0 b1.length] true false,.live 1 ((b0.map bsT).map V.t) true false,.live 1 ((b1.map bsT).map V.t) true false])):=by
 simp (disch:=omega) only [go_sem,seval,yS,List.map_nil,List.map_cons]
 have hl0:=m0.1
 have hl1:=m1.1
 refine qD 2 (fun k=>match k with | 0=>[(2,.ref 4112 0 0),(3,.ref 8240 0 0),(15,.t (.int .i64 0)),(13,.t (T.sl [T.sl (List.map bsT b0),T.sl (List.map bsT b1)])),(14,.t (.int .i64 2))] | 1=>[(2,.ref 4112 0 0),(3,.ref 8240 0 0),(15,.t (.int .i64 1)),(13,.t (T.sl [T.sl (List.map bsT b0),T.sl (List.map bsT b1)])),(14,.t (.int .i64 2))] | _=>[(2,.ref 4112 0 0),(3,.ref 8240 0 0),(15,.t (.int .i64 2)),(13,.t (T.sl [T.sl (List.map bsT b0),T.sl (List.map bsT b1)])),(14,.t (.int .i64 2))]) (fun k=>match k with | 0=>[(8240,.live 2 [.agg [.nil,.t (.int .i64 u)]] true true),(4112,.live 2 [.agg [.nil,.t (.int .i64 0)]] true true)] | 1=>[(8240,.live 2 [.agg [.sl 9000 0 1,.t (.int .i64 u)]] true true),(9000,.live 1 [.sl 9001 0 b0.length] true false),(9001,.live 1 ((b0.map bsT).map V.t) true false),(4112,.live 2 [.agg [.nil,.t (.int .i64 0)]] true true)] | _=>[(8240,.live 2 [.agg [.sl 9000 0 2,.t (.int .i64 u)]] true true),(9000,.live 1 [.sl 9001 0 b0.length,.sl 9002 0 b1.length] true false),(9001,.live 1 ((b0.map bsT).map V.t) true false),(9002,.live 1 ((b1.map bsT).map V.t) true false),(4112,.live 2 [.agg [.nil,.t (.int .i64 0)]] true true)]) ?_ (fun k hk=>?_)
 ·refine qQ.rd id ?_ ?_ rfl
  all_goals simp (disch:=omega) only [go_sem,seval,id]
 ·rcases (show k=0∨k=1∨k=2 by omega) with rfl | rfl | rfl
  ·simp (disch:=omega) only [go_sem,seval,jX]
   refine qD b0.length (fun i=>[(2,.ref 4112 0 0),(3,.ref 8240 0 0),(15,.t (.int .i64 0)),(13,.t (T.sl [T.sl (List.map bsT b0),T.sl (List.map bsT b1)])),(14,.t (.int .i64 2)),(6,.sl 9100 0 i),(21,.t (.int .i64 (i:Nat))),(19,.t (.sl (b0.map bsT))),(20,.t (.int .i64 b0.length))]) (fun i=>[(9100,.live 1 (((b0.take i).map bsT).map V.t) true false),(8240,.live 2 [.agg [.nil,.t (.int .i64 u)]] true true),(4112,.live 2 [.agg [.nil,.t (.int .i64 0)]] true true)]) ?_ (fun i hi=>?_)
   ·refine qQ.cv0 (hv:=[(9100,.live 1 [] true false)]) (ho:=[(8240,.live 2 [.agg [.nil,.t (.int .i64 u)]] true true),(4112,.live 2 [.agg [.nil,.t (.int .i64 0)]] true true)]) id ?_ ?_ rfl rfl
    all_goals simp (disch:=omega) only [go_sem,seval,id,List.map_cons,List.map_nil]
   ·have hm:=qR1 m0 i
    by_cases hlt:i<b0.length
    ·simp (disch:=omega) only [go_sem,seval,jY]
     refine⟨hlt,qQ.cv (hv:=[]) [40992] (fun j=>if j=9100 then 41024 else j) ?_ rfl⟩
     simp (disch:=omega) only [go_sem,seval,qGh (d:=[]) hlt]
     rfl
    ·have e:i=b0.length:=by omega
     subst e
     simp (disch:=omega) only [go_sem,seval,jY]
     refine qQ.rd (fun j=>if j=9000 then 49216 else if j=9001 then 9100 else j) ?_ ?_ rfl
     all_goals simp (disch:=omega) only [go_sem,seval]
  ·simp (disch:=omega) only [go_sem,seval,jX]
   refine qD b1.length (fun i=>[(2,.ref 4112 0 0),(3,.ref 8240 0 0),(15,.t (.int .i64 1)),(13,.t (T.sl [T.sl (List.map bsT b0),T.sl (List.map bsT b1)])),(14,.t (.int .i64 2)),(6,.sl 9100 0 i),(21,.t (.int .i64 (i:Nat))),(19,.t (.sl (b1.map bsT))),(20,.t (.int .i64 b1.length))]) (fun i=>[(9100,.live 1 (((b1.take i).map bsT).map V.t) true false),(8240,.live 2 [.agg [.sl 9000 0 1,.t (.int .i64 u)]] true true),(9000,.live 1 [.sl 9001 0 b0.length] true false),(9001,.live 1 ((b0.map bsT).map V.t) true false),(4112,.live 2 [.agg [.nil,.t (.int .i64 0)]] true true)]) ?_ (fun i hi=>?_)
   ·refine qQ.cv0 (hv:=[(9100,.live 1 [] true false)]) (ho:=[(8240,.live 2 [.agg [.sl 9000 0 1,.t (.int .i64 u)]] true true),(9000,.live 1 [.sl 9001 0 b0.length] true false),(9001,.live 1 ((b0.map bsT).map V.t) true false),(4112,.live 2 [.agg [.nil,.t (.int .i64 0)]] true true)]) id ?_ ?_ rfl rfl
    all_goals simp (disch:=omega) only [go_sem,seval,id,List.map_cons,List.map_nil]
   ·have hm:=qR1 m1 i
    by_cases hlt:i<b1.length
    ·simp (disch:=omega) only [go_sem,seval,jY]
     refine⟨hlt,qQ.cv (hv:=[]) [40992] (fun j=>if j=9100 then 41024 else j) ?_ rfl⟩
     simp (disch:=omega) only [go_sem,seval,qGh (d:=[]) hlt]
     rfl
    ·have e:i=b1.length:=by omega
     subst e
     simp (disch:=omega) only [go_sem,seval,jY]
     refine qQ.rd (fun j=>if j=9000 then 49216 else if j=9002 then 9100 else j) ?_ ?_ rfl
     all_goals simp (disch:=omega) only [go_sem,seval]
  ·simp (disch:=omega) only [go_sem,seval,jX]
def qM0:Ct where
 α:=List UInt8
 as x:=[.t (.sl (x.map qA))]
 ins _:=[]
 pre x:=x.length<1000000000
 r x:= .sl 0 0 x.length
 outs x:=[.live 1 ((x.map qA).map V.t) true false]
 inj:=by
  intro a b h _
  simp[qP] at h
  subst h;exact⟨rfl,rfl⟩
theorem zPk {bs:List UInt8} (h:bs.length<1000000000):qM0.fs [.t (.sl (bs.map qA))] []=some (.sl 0 0 bs.length,[.live 1 ((bs.map qA).map V.t) true false]):=qM0.eq bs h
def twR (bk:List jI) (u:Int):V:=match bk with
 | [_,_]=> .agg [.sl 0 0 2,.t (.int .i64 u)]
 | _=> .agg [.nil,.t (.int .i64 u)]
def twO (bk:List jI):List Ob:=match bk with
 | [b0,b1]=>[.live 1 [.sl 1 0 b0.length,.sl 2 0 b1.length] true false,.live 1 ((b0.map bsT).map V.t) true false,.live 1 ((b1.map bsT).map V.t) true false]
 | _=>[]
def RM (bk:List jI):Prop:=RK bk ∧ ∀ b∈bk,zTs b
def wE:Ct where
 α:=List jI×Int
 as x:=[.t (xT x.1 x.2)]
 ins _:=[]
 pre x:=RM x.1
 r x:=twR x.1 x.2
 outs x:=twO x.1
 inj:=by
  rintro⟨a,u⟩ ⟨b,v⟩ h _
  simp only[List.cons.injEq,V.t.injEq,and_true] at h
  obtain⟨rfl,rfl⟩:=qIh h
  exact⟨rfl,rfl⟩
theorem zMt {u:Int}:wE.fs [.t (.agg [.sl [],.int .i64 u])] []=some (.agg [.nil,.t (.int .i64 u)],[]):=wE.eq ([],u) ⟨.nil,by simp⟩
theorem jD {b0 b1:jI} {u:Int} (h:RM [b0,b1]):wE.fs [.t (.agg [.sl [.sl (b0.map bsT),.sl (b1.map bsT)],.int .i64 u])] [] =
  some (.agg [.sl 0 0 2,.t (.int .i64 u)],[.live 1 [.sl 1 0 b0.length,.sl 2 0 b1.length] true false,.live 1 ((b0.map bsT).map V.t) true false,.live 1 ((b1.map bsT).map V.t) true false]):=wE.eq ([b0,b1],u) h
end Go.Eng
end
section
set_option maxRecDepth 20000
set_option maxHeartbeats 16000000
namespace Go.Eng
def zYy (i:Nat):UInt8:=if 12≤i then 255 else 0
theorem qZ7 {i:Nat} (h:i<12):zYy i=0:=if_neg (by omega)
theorem qZ8 {i:Nat} (h : ¬ i<12):zYy i=255:=if_pos (by omega)
def qFp (a:Nat):jI:=(List.range 16).map fun i=>List.replicate (szA a) (zYy i)
theorem xO {a i:Nat} (h:i<16):(qFp a).take (i+1)=(qFp a).take i++[List.replicate (szA a) (zYy i)]:=by
 rw[qGh (d:=[]) (by simp[qFp];omega)]
 congr 2
 simp[qFp,List.getD,h]
theorem qLt {a:Nat}:(qFp a).take 16=qFp a:=List.take_of_length_le (by simp[qFp])
theorem qX {a:Nat}:List.length (qFp a)=16:=by simp[qFp]
def qBr (s:Int):List jI:=if s%4=0 then [] else [if s%2=1 then qFp 0 else [],if s/2%2=1 then qFp 1 else []]
theorem qLu {s:Int} (h : ¬ s%4=0):qBr s=[if s%2=1 then qFp 0 else [],if s/2%2=1 then qFp 1 else []]:=if_neg h
def qBb:Ct where
 α:=Int
 as x:=[.t (.int .i64 x)]
 ins _:=[]
 pre _:=True
 r x:= .t (.int .i64 (if x=0 then 20 else if x=1 then 32 else 0))
 outs _:=[]
 inj:=by
  intro a b h _
  simp at h
  subst h;exact⟨rfl,rfl⟩
theorem qN:qBb.fs [.t (.int .i64 0)] []=some (.t (.int .i64 20),[]):=qBb.eq (0:Int) trivial
theorem qO:qBb.fs [.t (.int .i64 1)] []=some (.t (.int .i64 32),[]):=qBb.eq (1:Int) trivial
def qEu:Ct where
 α:=Nat×UInt8
 as x:=[.t (.int .i64 x.1),.t (qA x.2)]
 ins _:=[]
 pre x:=x.1=20∨x.1=32
 r x:= .sl 0 0 x.1
 outs x:=[.live 1 (((List.replicate x.1 x.2).map qA).map V.t) true false]
 inj:=by
  rintro⟨a,b⟩ ⟨c,d⟩ h _
  simp[qLn,Int.natCast_inj] at h
  obtain⟨rfl,rfl⟩:=h
  exact⟨rfl,rfl⟩
theorem zQ {x:UInt8}:qEu.fs [.t (.int .i64 20),.t (qA x)] []=some (.sl 0 0 20,[.live 1 (((List.replicate 20 x).map qA).map V.t) true false]):=qEu.eq (20,x) (.inl rfl)
theorem zR {x:UInt8}:qEu.fs [.t (.int .i64 32),.t (qA x)] []=some (.sl 0 0 32,[.live 1 (((List.replicate 32 x).map qA).map V.t) true false]):=qEu.eq (32,x) (.inr rfl)
theorem qLc (tab:Tab) (gl:Gl) (n1 n2:Nat) (s:Int) (h3:s%4=0):(jJ n1 n2).wp tab gl (qE 0 [.t (.int .i64 s)]) (qE 0 []) (qAg [] [(2,some (2,true))] 0 (fun r o=>r = .agg [.nil,.t (.int .i64 0)]∧o=[])):=by
 simp (disch:=omega) only [go_sem,↓reduceIte,Nat.reduceAdd,Nat.reduceEqDiff,Nat.reduceLeDiff,reduceCtorEq,jJ,h3]
theorem qO0 (tab:Tab) (gl:Gl) (n1 n2:Nat) (h1:tab.look n1=some qBb.fs) (h2:tab.look n2=some qEu.fs) (s:Int) (h3 : ¬ s%4=0):(jJ n1 n2).wp tab gl (qE 0 [.t (.int .i64 s)]) (qE 0 []) (qAg [] [(2,some (2,true))] 0 (fun r o=>r=twR (qBr s) 0∧o=twO (qBr s))):=by
 have h4:(s%4==0)=false:=by simpa using h3
 have hf1:s.fdiv 1=s:=Int.fdiv_one s
 have hf2:s.fdiv 2=s/2:=Int.fdiv_eq_ediv_of_nonneg s (by omega)
 have hc0:s%2=0∨s%2=1:=by omega
 have hc1:s/2%2=0∨s/2%2=1:=by omega
 rcases hc0 with c0 | c0<;>rcases hc1 with c1 | c1
 ·exact absurd (by omega) h3
 ·rw[qLu h3,if_neg (by omega),if_pos (by omega)]
  simp (disch:=omega) only [go_sem,↓reduceIte,Nat.reduceAdd,Nat.reduceEqDiff,reduceCtorEq,jJ,h4,hf1,hf2]
  refine qD 2 (fun k=>match k with | 0=>[(0,.t (.int .i64 s)),(2,.ref 4096 0 0),(3,.ref 16384 0 0),(12,.t (.int .i64 0))] | 1=>[(0,.t (.int .i64 s)),(2,.ref 4096 0 0),(3,.ref 16384 0 0),(12,.t (.int .i64 1))] | _=>[(0,.t (.int .i64 s)),(2,.ref 4096 0 0),(3,.ref 16384 0 0),(12,.t (.int .i64 2))]) (fun k=>match k with | 0=>[(16384,.live 2 [.agg [.nil,.t (.int .i64 0)]] true true),(4096,.live 2 [.agg [.nil,.t (.int .i64 0)]] true true)] | 1=>[(16384,.live 2 [.agg [.sl 9000 0 1,.t (.int .i64 0)]] true true),(9000,.live 1 [.sl 9001 0 0] true false),(9001,.live 1 ((([]:jI).map bsT).map V.t) true false),(4096,.live 2 [.agg [.nil,.t (.int .i64 0)]] true true)] | _=>[(16384,.live 2 [.agg [.sl 9000 0 2,.t (.int .i64 0)]] true true),(9000,.live 1 [.sl 9001 0 0,.sl 9002 0 16] true false),(9001,.live 1 ((([]:jI).map bsT).map V.t) true false),(9002,.live 1 (((qFp 1:jI).map bsT).map V.t) true false),(4096,.live 2 [.agg [.nil,.t (.int .i64 0)]] true true)]) ?_ (fun k hk=>?_)
  ·refine qQ.rd id ?_ ?_ rfl
   all_goals simp (disch:=omega) only [go_sem,↓reduceIte,Nat.reduceEqDiff,Nat.reduceBEq,reduceCtorEq,id]
  ·rcases (show k=0∨k=1∨k=2 by omega) with rfl | rfl | rfl
   ·simp (disch:=omega) only [go_sem,↓reduceIte,Nat.reduceAdd,Nat.reduceEqDiff,Int.reduceLT,reduceCtorEq,zD,c0,c1,qX,h1,h2,qN,qO,zQ,zR,hf1,hf2]
    refine qU 1 ?_
    simp (disch:=omega) only [go_sem,↓reduceIte,Nat.reduceAdd,Nat.reduceEqDiff,Nat.reduceLT,Nat.reduceLeDiff,Int.reduceLT,Int.reduceAdd,reduceCtorEq,Int.reducePow,qG,qM,c0,c1,qX,h1,h2,qN,qO,zQ,zR,hf1,hf2]
    refine qQ.trans (fs':=[(0,.t (.int .i64 s)),(2,.ref 4096 0 0),(3,.ref 16384 0 0),(12,.t (.int .i64 1))]) (qQ.cv0 (hv:=[(9001,.live 1 [] true false)]) (ho:=[(16384,.live 2 [.agg [.sl 9000 0 1,.t (.int .i64 0)]] true true),(9000,.live 1 [.sl 9001 0 0] true false),(4096,.live 2 [.agg [.nil,.t (.int .i64 0)]] true true)]) (fun j=>if j=9000 then 65600 else j) ?_ ?_ rfl rfl) (qQ.rd id ?_ ?_ rfl)
    all_goals simp (disch:=omega) only [go_sem,↓reduceIte,Nat.reduceAdd,Nat.reduceEqDiff,Nat.reduceBEq,reduceCtorEq,List.map_cons,List.map_nil,id]
   ·simp (disch:=omega) only [go_sem,↓reduceIte,Nat.reduceAdd,Nat.reduceEqDiff,Int.reduceLT,reduceCtorEq,zD,c0,c1,qX,h1,h2,qN,qO,zQ,zR,hf1,hf2]
    refine qD 16 (fun i=>[(0,.t (.int .i64 s)),(2,.ref 4096 0 0),(3,.ref 16384 0 0),(12,.t (.int .i64 1)),(4,.t (.int .i64 1)),(5,.sl 9100 0 i),(6,.t (.int .i64 (i:Nat)))]) (fun i=>[(9100,.live 1 ((((qFp 1).take i).map bsT).map V.t) true false),(16384,.live 2 [.agg [.sl 9000 0 1,.t (.int .i64 0)]] true true),(9000,.live 1 [.sl 9001 0 0] true false),(9001,.live 1 ((([]:jI).map bsT).map V.t) true false),(4096,.live 2 [.agg [.nil,.t (.int .i64 0)]] true true)]) ?_ (fun i hi=>?_)
    ·refine qQ.cv0 (hv:=[(9100,.live 1 [] true false)]) (ho:=[(16384,.live 2 [.agg [.sl 9000 0 1,.t (.int .i64 0)]] true true),(9000,.live 1 [.sl 9001 0 0] true false),(9001,.live 1 ((([]:jI).map bsT).map V.t) true false),(4096,.live 2 [.agg [.nil,.t (.int .i64 0)]] true true)]) id ?_ ?_ rfl rfl
     all_goals simp (disch:=omega) only [go_sem,↓reduceIte,Nat.reduceAdd,Nat.reduceEqDiff,Nat.reduceBEq,reduceCtorEq,List.map_cons,List.map_nil,id]
    ·by_cases hlt:i<16
     ·by_cases h12:i<12
      ·simp (disch:=omega) only [go_sem,↓reduceIte,Nat.reduceAdd,Nat.reduceEqDiff,Nat.reduceLT,Nat.reduceLeDiff,Int.reduceLT,reduceCtorEq,Int.reducePow,qM,c0,c1,qX,h1,h2,qN,qO,zQ,zR,hf1,hf2]
       refine⟨hlt,qQ.cv (hv:=[]) [61504] (fun j=>if j=9100 then 61536 else j) ?_ rfl⟩
       simp (disch:=omega) only [go_sem,↓reduceIte,Nat.reduceAdd,Nat.reduceEqDiff,Nat.reduceLeDiff,Nat.reduceBEq,reduceCtorEq,xO hlt,szA,List.take_replicate,Nat.min_self,qZ7 h12]
       rfl
      ·simp (disch:=omega) only [go_sem,↓reduceIte,Nat.reduceAdd,Nat.reduceEqDiff,Nat.reduceLT,Nat.reduceLeDiff,Int.reduceLT,reduceCtorEq,Int.reducePow,qM,c0,c1,qX,h1,h2,qN,qO,zQ,zR,hf1,hf2]
       refine⟨hlt,qQ.cv (hv:=[]) [61504] (fun j=>if j=9100 then 61536 else j) ?_ rfl⟩
       simp (disch:=omega) only [go_sem,↓reduceIte,Nat.reduceAdd,Nat.reduceEqDiff,Nat.reduceLeDiff,Nat.reduceBEq,reduceCtorEq,xO hlt,szA,List.take_replicate,Nat.min_self,qZ8 h12]
       rfl
     ·have e:i=16:=by omega
      subst e
      simp (disch:=omega) only [go_sem,↓reduceIte,Nat.reduceAdd,Nat.reduceEqDiff,Nat.reduceMul,Nat.reduceLT,Nat.reduceLeDiff,Int.reduceLT,Int.reduceAdd,reduceCtorEq,qM,c0,c1,qX,h1,h2,qN,qO,zQ,zR,hf1,hf2]
      refine qQ.rd (fun j=>if j=9000 then 65600 else if j=9002 then 9100 else j) ?_ ?_ rfl
      all_goals simp (disch:=omega) only [go_sem,↓reduceIte,Nat.reduceAdd,Nat.reduceEqDiff,Nat.reduceBEq,reduceCtorEq,qLt]
   ·simp (disch:=omega) only [go_sem,↓reduceIte,Nat.reduceAdd,Nat.reduceEqDiff,Nat.reduceLeDiff,Nat.reduceBEq,Int.reduceLT,reduceCtorEq,zD,c0,c1,qX,h1,h2,qN,qO,zQ,zR,hf1,hf2]
    exact⟨rfl,rfl⟩
 ·rw[qLu h3,if_pos (by omega),if_neg (by omega)]
  simp (disch:=omega) only [go_sem,↓reduceIte,Nat.reduceAdd,Nat.reduceEqDiff,reduceCtorEq,jJ,h4,hf1,hf2]
  refine qD 2 (fun k=>match k with | 0=>[(0,.t (.int .i64 s)),(2,.ref 4096 0 0),(3,.ref 16384 0 0),(12,.t (.int .i64 0))] | 1=>[(0,.t (.int .i64 s)),(2,.ref 4096 0 0),(3,.ref 16384 0 0),(12,.t (.int .i64 1))] | _=>[(0,.t (.int .i64 s)),(2,.ref 4096 0 0),(3,.ref 16384 0 0),(12,.t (.int .i64 2))]) (fun k=>match k with | 0=>[(16384,.live 2 [.agg [.nil,.t (.int .i64 0)]] true true),(4096,.live 2 [.agg [.nil,.t (.int .i64 0)]] true true)] | 1=>[(16384,.live 2 [.agg [.sl 9000 0 1,.t (.int .i64 0)]] true true),(9000,.live 1 [.sl 9001 0 16] true false),(9001,.live 1 (((qFp 0:jI).map bsT).map V.t) true false),(4096,.live 2 [.agg [.nil,.t (.int .i64 0)]] true true)] | _=>[(16384,.live 2 [.agg [.sl 9000 0 2,.t (.int .i64 0)]] true true),(9000,.live 1 [.sl 9001 0 16,.sl 9002 0 0] true false),(9001,.live 1 (((qFp 0:jI).map bsT).map V.t) true false),(9002,.live 1 ((([]:jI).map bsT).map V.t) true false),(4096,.live 2 [.agg [.nil,.t (.int .i64 0)]] true true)]) ?_ (fun k hk=>?_)
  ·refine qQ.rd id ?_ ?_ rfl
   all_goals simp (disch:=omega) only [go_sem,↓reduceIte,Nat.reduceEqDiff,Nat.reduceBEq,reduceCtorEq,id]
  ·rcases (show k=0∨k=1∨k=2 by omega) with rfl | rfl | rfl
   ·simp (disch:=omega) only [go_sem,↓reduceIte,Nat.reduceAdd,Nat.reduceEqDiff,Int.reduceLT,reduceCtorEq,zD,c0,c1,qX,h1,h2,qN,qO,zQ,zR,hf1,hf2]
    refine qD 16 (fun i=>[(0,.t (.int .i64 s)),(2,.ref 4096 0 0),(3,.ref 16384 0 0),(12,.t (.int .i64 0)),(4,.t (.int .i64 0)),(5,.sl 9100 0 i),(6,.t (.int .i64 (i:Nat)))]) (fun i=>[(9100,.live 1 ((((qFp 0).take i).map bsT).map V.t) true false),(16384,.live 2 [.agg [.nil,.t (.int .i64 0)]] true true),(4096,.live 2 [.agg [.nil,.t (.int .i64 0)]] true true)]) ?_ (fun i hi=>?_)
    ·refine qQ.cv0 (hv:=[(9100,.live 1 [] true false)]) (ho:=[(16384,.live 2 [.agg [.nil,.t (.int .i64 0)]] true true),(4096,.live 2 [.agg [.nil,.t (.int .i64 0)]] true true)]) id ?_ ?_ rfl rfl
     all_goals simp (disch:=omega) only [go_sem,↓reduceIte,Nat.reduceEqDiff,Nat.reduceBEq,reduceCtorEq,List.map_cons,List.map_nil,id]
    ·by_cases hlt:i<16
     ·by_cases h12:i<12
      ·simp (disch:=omega) only [go_sem,↓reduceIte,Nat.reduceAdd,Nat.reduceEqDiff,Nat.reduceLT,Nat.reduceLeDiff,Int.reduceLT,reduceCtorEq,Int.reducePow,qM,c0,c1,qX,h1,h2,qN,qO,zQ,zR,hf1,hf2]
       refine⟨hlt,qQ.cv (hv:=[]) [61504] (fun j=>if j=9100 then 61536 else j) ?_ rfl⟩
       simp (disch:=omega) only [go_sem,↓reduceIte,Nat.reduceAdd,Nat.reduceEqDiff,Nat.reduceLeDiff,Nat.reduceBEq,reduceCtorEq,xO hlt,szA,List.take_replicate,Nat.min_self,qZ7 h12]
       rfl
      ·simp (disch:=omega) only [go_sem,↓reduceIte,Nat.reduceAdd,Nat.reduceEqDiff,Nat.reduceLT,Nat.reduceLeDiff,Int.reduceLT,reduceCtorEq,Int.reducePow,qM,c0,c1,qX,h1,h2,qN,qO,zQ,zR,hf1,hf2]
       refine⟨hlt,qQ.cv (hv:=[]) [61504] (fun j=>if j=9100 then 61536 else j) ?_ rfl⟩
       simp (disch:=omega) only [go_sem,↓reduceIte,Nat.reduceAdd,Nat.reduceEqDiff,Nat.reduceLeDiff,Nat.reduceBEq,reduceCtorEq,xO hlt,szA,List.take_replicate,Nat.min_self,qZ8 h12]
       rfl
     ·have e:i=16:=by omega
      subst e
      simp (disch:=omega) only [go_sem,↓reduceIte,Nat.reduceAdd,Nat.reduceEqDiff,Nat.reduceLT,Nat.reduceLeDiff,Int.reduceLT,Int.reduceAdd,reduceCtorEq,qM,c0,c1,qX,h1,h2,qN,qO,zQ,zR,hf1,hf2]
      refine qQ.rd (fun j=>if j=9000 then 65600 else if j=9001 then 9100 else j) ?_ ?_ rfl
      all_goals simp (disch:=omega) only [go_sem,↓reduceIte,Nat.reduceAdd,Nat.reduceEqDiff,Nat.reduceBEq,reduceCtorEq,qLt]
   ·simp (disch:=omega) only [go_sem,↓reduceIte,Nat.reduceAdd,Nat.reduceEqDiff,Int.reduceLT,reduceCtorEq,zD,c0,c1,qX,h1,h2,qN,qO,zQ,zR,hf1,hf2]
    refine qU 1 ?_
    simp (disch:=omega) only [go_sem,↓reduceIte,Nat.reduceAdd,Nat.reduceEqDiff,Nat.reduceMul,Nat.reduceLT,Nat.reduceLeDiff,Int.reduceLT,Int.reduceAdd,reduceCtorEq,Int.reducePow,qG,qM,c0,c1,qX,h1,h2,qN,qO,zQ,zR,hf1,hf2]
    refine qQ.trans (fs':=[(0,.t (.int .i64 s)),(2,.ref 4096 0 0),(3,.ref 16384 0 0),(12,.t (.int .i64 2))]) (qQ.cv0 (hv:=[(9002,.live 1 [] true false)]) (ho:=[(16384,.live 2 [.agg [.sl 9000 0 2,.t (.int .i64 0)]] true true),(9000,.live 1 [.sl 9001 0 16,.sl 9002 0 0] true false),(9001,.live 1 (((qFp 0:jI).map bsT).map V.t) true false),(4096,.live 2 [.agg [.nil,.t (.int .i64 0)]] true true)]) (fun j=>if j=9000 then 65600 else j) ?_ ?_ rfl rfl) (qQ.rd id ?_ ?_ rfl)
    all_goals simp (disch:=omega) only [go_sem,↓reduceIte,Nat.reduceAdd,Nat.reduceEqDiff,Nat.reduceBEq,reduceCtorEq,List.map_cons,List.map_nil,id]
   ·simp (disch:=omega) only [go_sem,↓reduceIte,Nat.reduceAdd,Nat.reduceEqDiff,Nat.reduceLeDiff,Nat.reduceBEq,Int.reduceLT,reduceCtorEq,zD,c0,c1,qX,h1,h2,qN,qO,zQ,zR,hf1,hf2]
    exact⟨rfl,rfl⟩
 ·rw[qLu h3,if_pos (by omega),if_pos (by omega)]
  simp (disch:=omega) only [go_sem,↓reduceIte,Nat.reduceAdd,Nat.reduceEqDiff,reduceCtorEq,jJ,h4,hf1,hf2]
  refine qD 2 (fun k=>match k with | 0=>[(0,.t (.int .i64 s)),(2,.ref 4096 0 0),(3,.ref 16384 0 0),(12,.t (.int .i64 0))] | 1=>[(0,.t (.int .i64 s)),(2,.ref 4096 0 0),(3,.ref 16384 0 0),(12,.t (.int .i64 1))] | _=>[(0,.t (.int .i64 s)),(2,.ref 4096 0 0),(3,.ref 16384 0 0),(12,.t (.int .i64 2))]) (fun k=>match k with | 0=>[(16384,.live 2 [.agg [.nil,.t (.int .i64 0)]] true true),(4096,.live 2 [.agg [.nil,.t (.int .i64 0)]] true true)] | 1=>[(16384,.live 2 [.agg [.sl 9000 0 1,.t (.int .i64 0)]] true true),(9000,.live 1 [.sl 9001 0 16] true false),(9001,.live 1 (((qFp 0:jI).map bsT).map V.t) true false),(4096,.live 2 [.agg [.nil,.t (.int .i64 0)]] true true)] | _=>[(16384,.live 2 [.agg [.sl 9000 0 2,.t (.int .i64 0)]] true true),(9000,.live 1 [.sl 9001 0 16,.sl 9002 0 16] true false),(9001,.live 1 (((qFp 0:jI).map bsT).map V.t) true false),(9002,.live 1 (((qFp 1:jI).map bsT).map V.t) true false),(4096,.live 2 [.agg [.nil,.t (.int .i64 0)]] true true)]) ?_ (fun k hk=>?_)
  ·refine qQ.rd id ?_ ?_ rfl
   all_goals simp (disch:=omega) only [go_sem,↓reduceIte,Nat.reduceEqDiff,Nat.reduceBEq,reduceCtorEq,id]
  ·rcases (show k=0∨k=1∨k=2 by omega) with rfl | rfl | rfl
   ·simp (disch:=omega) only [go_sem,↓reduceIte,Nat.reduceAdd,Nat.reduceEqDiff,Int.reduceLT,reduceCtorEq,zD,c0,c1,qX,h1,h2,qN,qO,zQ,zR,hf1,hf2]
    refine qD 16 (fun i=>[(0,.t (.int .i64 s)),(2,.ref 4096 0 0),(3,.ref 16384 0 0),(12,.t (.int .i64 0)),(4,.t (.int .i64 0)),(5,.sl 9100 0 i),(6,.t (.int .i64 (i:Nat)))]) (fun i=>[(9100,.live 1 ((((qFp 0).take i).map bsT).map V.t) true false),(16384,.live 2 [.agg [.nil,.t (.int .i64 0)]] true true),(4096,.live 2 [.agg [.nil,.t (.int .i64 0)]] true true)]) ?_ (fun i hi=>?_)
    ·refine qQ.cv0 (hv:=[(9100,.live 1 [] true false)]) (ho:=[(16384,.live 2 [.agg [.nil,.t (.int .i64 0)]] true true),(4096,.live 2 [.agg [.nil,.t (.int .i64 0)]] true true)]) id ?_ ?_ rfl rfl
     all_goals simp (disch:=omega) only [go_sem,↓reduceIte,Nat.reduceEqDiff,Nat.reduceBEq,reduceCtorEq,List.map_cons,List.map_nil,id]
    ·by_cases hlt:i<16
     ·by_cases h12:i<12
      ·simp (disch:=omega) only [go_sem,↓reduceIte,Nat.reduceAdd,Nat.reduceEqDiff,Nat.reduceLT,Nat.reduceLeDiff,Int.reduceLT,reduceCtorEq,Int.reducePow,qM,c0,c1,qX,h1,h2,qN,qO,zQ,zR,hf1,hf2]
       refine⟨hlt,qQ.cv (hv:=[]) [61504] (fun j=>if j=9100 then 61536 else j) ?_ rfl⟩
       simp (disch:=omega) only [go_sem,↓reduceIte,Nat.reduceAdd,Nat.reduceEqDiff,Nat.reduceLeDiff,Nat.reduceBEq,reduceCtorEq,xO hlt,szA,List.take_replicate,Nat.min_self,qZ7 h12]
       rfl
      ·simp (disch:=omega) only [go_sem,↓reduceIte,Nat.reduceAdd,Nat.reduceEqDiff,Nat.reduceLT,Nat.reduceLeDiff,Int.reduceLT,reduceCtorEq,Int.reducePow,qM,c0,c1,qX,h1,h2,qN,qO,zQ,zR,hf1,hf2]
       refine⟨hlt,qQ.cv (hv:=[]) [61504] (fun j=>if j=9100 then 61536 else j) ?_ rfl⟩
       simp (disch:=omega) only [go_sem,↓reduceIte,Nat.reduceAdd,Nat.reduceEqDiff,Nat.reduceLeDiff,Nat.reduceBEq,reduceCtorEq,xO hlt,szA,List.take_replicate,Nat.min_self,qZ8 h12]
       rfl
     ·have e:i=16:=by omega
      subst e
      simp (disch:=omega) only [go_sem,↓reduceIte,Nat.reduceAdd,Nat.reduceEqDiff,Nat.reduceLT,Nat.reduceLeDiff,Int.reduceLT,Int.reduceAdd,reduceCtorEq,qM,c0,c1,qX,h1,h2,qN,qO,zQ,zR,hf1,hf2]
      refine qQ.rd (fun j=>if j=9000 then 65600 else if j=9001 then 9100 else j) ?_ ?_ rfl
      all_goals simp (disch:=omega) only [go_sem,↓reduceIte,Nat.reduceAdd,Nat.reduceEqDiff,Nat.reduceBEq,reduceCtorEq,qLt]
   ·simp (disch:=omega) only [go_sem,↓reduceIte,Nat.reduceAdd,Nat.reduceEqDiff,Int.reduceLT,reduceCtorEq,zD,c0,c1,qX,h1,h2,qN,qO,zQ,zR,hf1,hf2]
    refine qD 16 (fun i=>[(0,.t (.int .i64 s)),(2,.ref 4096 0 0),(3,.ref 16384 0 0),(12,.t (.int .i64 1)),(4,.t (.int .i64 1)),(5,.sl 9100 0 i),(6,.t (.int .i64 (i:Nat)))]) (fun i=>[(9100,.live 1 ((((qFp 1).take i).map bsT).map V.t) true false),(16384,.live 2 [.agg [.sl 9000 0 1,.t (.int .i64 0)]] true true),(9000,.live 1 [.sl 9001 0 16] true false),(9001,.live 1 (((qFp 0:jI).map bsT).map V.t) true false),(4096,.live 2 [.agg [.nil,.t (.int .i64 0)]] true true)]) ?_ (fun i hi=>?_)
    ·refine qQ.cv0 (hv:=[(9100,.live 1 [] true false)]) (ho:=[(16384,.live 2 [.agg [.sl 9000 0 1,.t (.int .i64 0)]] true true),(9000,.live 1 [.sl 9001 0 16] true false),(9001,.live 1 (((qFp 0:jI).map bsT).map V.t) true false),(4096,.live 2 [.agg [.nil,.t (.int .i64 0)]] true true)]) id ?_ ?_ rfl rfl
     all_goals simp (disch:=omega) only [go_sem,↓reduceIte,Nat.reduceAdd,Nat.reduceEqDiff,Nat.reduceBEq,reduceCtorEq,List.map_cons,List.map_nil,id]
    ·by_cases hlt:i<16
     ·by_cases h12:i<12
      ·simp (disch:=omega) only [go_sem,↓reduceIte,Nat.reduceAdd,Nat.reduceEqDiff,Nat.reduceLT,Nat.reduceLeDiff,Int.reduceLT,reduceCtorEq,Int.reducePow,qM,c0,c1,qX,h1,h2,qN,qO,zQ,zR,hf1,hf2]
       refine⟨hlt,qQ.cv (hv:=[]) [61504] (fun j=>if j=9100 then 61536 else j) ?_ rfl⟩
       simp (disch:=omega) only [go_sem,↓reduceIte,Nat.reduceAdd,Nat.reduceEqDiff,Nat.reduceLeDiff,Nat.reduceBEq,reduceCtorEq,xO hlt,szA,List.take_replicate,Nat.min_self,qZ7 h12]
       rfl
      ·simp (disch:=omega) only [go_sem,↓reduceIte,Nat.reduceAdd,Nat.reduceEqDiff,Nat.reduceLT,Nat.reduceLeDiff,Int.reduceLT,reduceCtorEq,Int.reducePow,qM,c0,c1,qX,h1,h2,qN,qO,zQ,zR,hf1,hf2]
       refine⟨hlt,qQ.cv (hv:=[]) [61504] (fun j=>if j=9100 then 61536 else j) ?_ rfl⟩
       simp (disch:=omega) only [go_sem,↓reduceIte,Nat.reduceAdd,Nat.reduceEqDiff,Nat.reduceLeDiff,Nat.reduceBEq,reduceCtorEq,xO hlt,szA,List.take_replicate,Nat.min_self,qZ8 h12]
       rfl
     ·have e:i=16:=by omega
      subst e
      simp (disch:=omega) only [go_sem,↓reduceIte,Nat.reduceAdd,Nat.reduceEqDiff,Nat.reduceMul,Nat.reduceLT,Nat.reduceLeDiff,Int.reduceLT,Int.reduceAdd,reduceCtorEq,qM,c0,c1,qX,h1,h2,qN,qO,zQ,zR,hf1,hf2]
      refine qQ.rd (fun j=>if j=9000 then 65600 else if j=9002 then 9100 else j) ?_ ?_ rfl
      all_goals simp (disch:=omega) only [go_sem,↓reduceIte,Nat.reduceAdd,Nat.reduceEqDiff,Nat.reduceBEq,reduceCtorEq,qLt]
   ·simp (disch:=omega) only [go_sem,↓reduceIte,Nat.reduceAdd,Nat.reduceEqDiff,Nat.reduceLeDiff,Nat.reduceBEq,Int.reduceLT,reduceCtorEq,zD,c0,c1,qX,h1,h2,qN,qO,zQ,zR,hf1,hf2]
    exact⟨rfl,rfl⟩
end Go.Eng
end
section
set_option maxRecDepth 20000
set_option maxHeartbeats 16000000
namespace Go.Eng
def wL:Ct where
 α:=Int
 as x:=[.t (.int .i64 x)]
 ins _:=[]
 pre _:=True
 r x:= .t (.bool (decide ((0:Int)≤x∧x<(16:Int))))
 outs _:=[]
 inj:=by
  intro a b h _
  simp at h
  subst h;exact⟨rfl,rfl⟩
theorem qRw {i:Int} (h:0≤i∧i<16):wL.fs [.t (.int .i64 i)] []=some (.t (.bool true),[]):=by
 refine (wL.eq i trivial).trans ?_
 simp[wL,h]
theorem zFs {i:Int} (h : ¬ (0≤i∧i<16)):wL.fs [.t (.int .i64 i)] []=some (.t (.bool false),[]):=by
 refine (wL.eq i trivial).trans ?_
 simp only[wL,decide_eq_false h]
def qGq:Ct where
 α:=List jI×Int×Nat
 as x:=[.t (xT x.1 x.2.1),.t (.int .i64 x.2.2)]
 ins _:=[]
 pre x:=RK x.1∧x.2.2<2
 r x:= .t (.bool (onB x.1 x.2.2))
 outs _:=[]
 inj:=by
  rintro⟨a,u,i⟩ ⟨b,v,j⟩ h _
  simp only[List.cons.injEq,V.t.injEq,T.int.injEq,true_and,and_true,Int.natCast_inj] at h
  obtain⟨h1,rfl⟩:=h
  obtain⟨rfl,rfl⟩:=qIh h1
  exact⟨rfl,rfl⟩
theorem zV5 {bk:List jI} {u:Int} {a:Nat} (hk:RK bk) (h:a<2):qGq.fs [.t (.agg [.sl (bk.map qBn),.int .i64 u]),.t (.int .i64 a)] []=some (.t (.bool (onB bk a)),[]):=qGq.eq (bk,u,a) ⟨hk,h⟩
theorem vM {b0 b1:jI} {u:Int} (hk:RK [b0,b1]):qGq.fs [.t (.agg [.sl [.sl (b0.map bsT),.sl (b1.map bsT)],.int .i64 u]),.t (.int .i64 0)] []=some (.t (.bool (decide (b0.length=16))),[]):=qGq.eq ([b0,b1],u,0) ⟨hk,by show 0<2;omega⟩
theorem vN {b0 b1:jI} {u:Int} (hk:RK [b0,b1]):qGq.fs [.t (.agg [.sl [.sl (b0.map bsT),.sl (b1.map bsT)],.int .i64 u]),.t (.int .i64 1)] []=some (.t (.bool (decide (b1.length=16))),[]):=qGq.eq ([b0,b1],u,1) ⟨hk,by show 1<2;omega⟩
theorem zN8 {u:Int} {a:Nat} (h:a<2):qGq.fs [.t (.agg [.sl [],.int .i64 u]),.t (.int .i64 a)] []=some (.t (.bool false),[]):=by
 refine (qGq.eq ([],u,a) ⟨.nil,h⟩).trans ?_
 simp[qGq,onB]
theorem RK.on {bk:List jI} (h:RK bk) (a:Nat):zT4 bk a=onB bk a:=by
 cases h with
 | nil=>simp[zT4,onB]
 | two b0 b1 h0 h1=>
  have key : ∀ b:jI,qTj b→decide (0<List.length b)=decide (List.length b=16):=by
   intro b hb
   rcases hb with h | h<;>simp[h]
  match a with
  | 0=>simpa [zT4,onB] using key b0 h0
  | 1=>simpa [zT4,onB] using key b1 h1
  | a+2=>simp[zT4,onB]
def zCs (bk:List jI) (a i:Nat):List UInt8:=(bk.getD a []).getD i []
def jCx (bank i:Int):Prop:=bank<0∨2≤bank∨i<0∨16≤i
instance (bank i:Int):Decidable (jCx bank i):=by unfold jCx;infer_instance
theorem RM.val {bk:List jI} (h:RM bk) (a i:Nat):(zCs bk a i).length<1000000000:=by
 by_cases ha:a<bk.length
 ·have e:bk.getD a []=bk[a]:=by simp[List.getD,ha]
  unfold zCs
  rw[e]
  exact qR1 (h.2 _ (List.getElem_mem ha)) i
 ·have e:bk.getD a []=[]:=by simp[List.getD,List.getElem?_eq_none (Nat.le_of_not_lt ha)]
  unfold zCs
  rw[e];simp
theorem RK.len {bk:List jI} (h:RK bk) {a:Nat} (ho:onB bk a=true):a<bk.length:=by
 simp only[onB,decide_eq_true_eq] at ho
 rcases Nat.lt_or_ge a bk.length with h1 | h1
 ·exact h1
 ·rw[List.getD,List.getElem?_eq_none h1] at ho;simp at ho
end Go.Eng
end
section
set_option maxRecDepth 20000
set_option maxHeartbeats 16000000
namespace Go.Eng
def qB2:Ct where
 α:=Int×Bool
 as x:=[.t (.int .i64 x.1),.t (.bool x.2)]
 ins _:=[]
 pre _:=True
 r x:= .t (.int .i64 (qBc x.1 x.2))
 outs _:=[]
 inj:=by
  rintro⟨a,b⟩ ⟨c,d⟩ h _
  simp at h
  obtain⟨rfl,rfl⟩:=h;exact⟨rfl,rfl⟩
theorem qRx {i:Int} {rs:Bool}:qB2.fs [.t (.int .i64 i),.t (.bool rs)] []=some (.t (.int .i64 (qBc i rs)),[]):=qB2.eq (i,rs) trivial
end Go.Eng
end
