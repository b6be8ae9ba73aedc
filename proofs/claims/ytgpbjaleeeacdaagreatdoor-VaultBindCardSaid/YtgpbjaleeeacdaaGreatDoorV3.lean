/- My own text: an abstract machine, its walks over the functions reached, and their tie to the program. -/
import Derived.Test.YtgpbjaleeeacdaaGreatDoorV2
set_option linter.unusedSimpArgs false
set_option linter.unusedVariables false
section
namespace Go.Eng
variable {tab:Tab} {gl:Gl} {fs:Fs} {hs:Hs} {Qx:qD2}
theorem zWc {g:V→Q V}:rdL g [] = .ret []:=Eq.trans (Eq.refl _) rfl
theorem qWj {g:V→Q V} {c:V} {r:List V}:rdL g (c::r)=(g c).bind fun x=>(rdL g r).bind fun y=> .ret (x::y):=Eq.trans (Eq.refl _) rfl
theorem zWh {n:Nat} {x:T}:rdV n (.t x) = .ret (.t x):=by cases n<;>rfl
theorem zWf {n:Nat}:rdV n .nil = .ret .nil:=by cases n<;>rfl
theorem jAr {n:Nat} {cs:List T}:rdV n (.ro cs) = .ret (.ro cs):=by cases n<;>rfl
theorem zWg {n id i f:Nat}:rdV n (.ref id i f) = .ret (.ref id i f):=by cases n<;>rfl
theorem jAo {n g id i f:Nat}:rdV n (.bd g id i f) = .ret (.bd g id i f):=by cases n<;>rfl
theorem jAp {n:Nat}:rdV n .bq = .ret .bq:=by cases n<;>rfl
attribute [go_sem] jAp
attribute [go_sem] jAo
theorem zWi {n:Nat} {cs:List V}:rdV n (.tup cs) = .ret (.tup cs):=by cases n<;>rfl
theorem zWe {n:Nat} {cs:List V}:rdV (n+1) (.agg cs)=(rdL (rdV n) cs).bind fun p=> .ret (V.mk p):=Eq.trans (Eq.refl _) rfl
theorem jAq {n:Nat} {f:FuncId} {cs:List V}:rdV (n+1) (.fn f cs)=(rdL (rdV n) cs).bind fun p=> .ret (.fn f p):=Eq.trans (Eq.refl _) rfl
theorem jAs {n id off len:Nat}:rdV (n+1) (.sl id off len) = .get id fun
  | .live _ _ false _=>(zN (n+1) (.sl id off len)).bind fun p=>Q.assert (p.2=[]) (.ret p.1)
  | _=> .ret (.sl id off len):=Eq.trans (Eq.refl _) rfl
theorem zQc {es:List V}:zNs es=match qE7 es with | some _=> .ret es | none=>rdL (rdV 4) es:=Eq.trans (Eq.refl _) rfl
theorem zHa {α:Type} {q:Q α}:(q.bind fun x=>Q.ret x)=q:=by
 induction q with
 | ret a=>rfl
 | fail=>rfl
 | get id k ih=>simp only[Q.bind,ih]
 | free id k ih=>simp only[Q.bind,ih]
theorem jAn {n:Nat} {ts:List T}:rdL (rdV n) (ts.map .t) = .ret (ts.map .t):=by
 induction ts with
 | nil=>rfl
 | cons x r ih=>simp[rdL,zWh,ih,Q.bind]
theorem zWb {g:V→Q V} {a b:List V}:rdL g (a++b)=(rdL g a).bind fun x=>(rdL g b).bind fun y=> .ret (x++y):=by
 induction a with
 | nil=>simp[rdL,Q.bind,zHa]
 | cons c r ih=>simp only[List.cons_append,rdL,ih,qEo,Q.bind]
section
variable {ρ:Nat→Nat} {vt ko:List Nat}
theorem jBv:vEq ρ vt ko .nil .nil=True:=by simp[vEq]
theorem jBx {x:T}:vEq ρ vt ko .nil (.t x)=(x = .sl []):=by simp[vEq]
theorem jBw {id off len:Nat}:vEq ρ vt ko .nil (.sl id off len)=((vt.contains id=true∧off=0)∧len=0):=by simp only[vEq]
theorem jBr {cs cs':List V}:vEq ρ vt ko (.agg cs) (.agg cs')=qWw ρ vt ko cs cs':=by simp only[vEq]
theorem jBs {cs:List V} {ts:List T}:vEq ρ vt ko (.agg cs) (.t (.agg ts))=qWw ρ vt ko cs (ts.map .t):=by simp only[vEq]
theorem jBu {f f':FuncId} {cs cs':List V}:vEq ρ vt ko (.fn f cs) (.fn f' cs')=(f=f'∧qWw ρ vt ko cs cs'):=by simp only[vEq]
theorem jB2 {x y:T}:vEq ρ vt ko (.t x) (.t y)=(x=y):=by
 have:vEq ρ vt ko (.t x) (.t y)=(V.t x=(V.t y).ren ρ∧((V.t y).ids.all fun i=>ko.contains i)=true):=by cases y<;>simp only[vEq]
 rw[this];simp[V.ren,V.ids]
theorem jB0 {i j k i' j' k':Nat}:vEq ρ vt ko (.ref i j k) (.ref i' j' k')=((i=ρ i'∧j=j'∧k=k')∧ko.contains i'=true):=by
 simp[vEq,V.ren,V.ids]
theorem jBz:vEq ρ vt ko .bq .bq=True:=by
 simp[vEq,V.ren,V.ids]
attribute [go_sem] jBz
theorem jBt {g i j k g' i' j' k':Nat}:vEq ρ vt ko (.bd g i j k) (.bd g' i' j' k')=((g=g'∧i=ρ i'∧j=j'∧k=k')∧ko.contains i'=true):=by
 simp[vEq,V.ren,V.ids]
attribute [go_sem] jBt
theorem jB1 {i j k i' j' k':Nat}:vEq ρ vt ko (.sl i j k) (.sl i' j' k')=((i=ρ i'∧j=j'∧k=k')∧ko.contains i'=true):=by
 simp[vEq,V.ren,V.ids]
theorem jBy {cs cs':List T}:vEq ρ vt ko (.ro cs) (.ro cs')=(cs=cs'):=by
 simp[vEq,V.ren,V.ids]
theorem zRy:qWw ρ vt ko [] []=True:=by simp only[qWw]
theorem zM6 {c c':V} {r r':List V}:qWw ρ vt ko (c::r) (c'::r')=(vEq ρ vt ko c c'∧qWw ρ vt ko r r'):=by simp only[qWw]
theorem zOs {u es':List V}:zUp ρ vt ko u es'=match qE7 u with
 | some _=>u=qFs ρ es'∧((qLz es').all fun i=>ko.contains i)=true
 | none=>qWw ρ vt ko u es':=Eq.trans (Eq.refl _) rfl
theorem zHv {v v':V}:zHt hs ρ vt ko (some v) v'=(rdV 4 v).wp hs (fun u _=>vEq ρ vt ko u v'):=Eq.trans (Eq.refl _) rfl
theorem zHu {v':V}:zHt hs ρ vt ko none v'=False:=Eq.trans (Eq.refl _) rfl
theorem zGf:qI1 fs hs ρ vt ko []=True:=Eq.trans (Eq.refl _) rfl
theorem zBb {t:Nat} {v':V} {r:Fs}:qI1 fs hs ρ vt ko ((t,v')::r)=(zHt hs ρ vt ko (jT fs t) v'∧qI1 fs hs ρ vt ko r):=Eq.trans (Eq.refl _) rfl
theorem zNv:zNn hs ρ vt ko []=True:=Eq.trans (Eq.refl _) rfl
theorem zIu {i:Nat} {o':Ob} {r:Hs}:zNn hs ρ vt ko ((i,o')::r)=(obC hs ρ vt ko (jT hs (ρ i)) o'∧zNn hs ρ vt ko r):=Eq.trans (Eq.refl _) rfl
theorem zP0 {z z':Nat} {es es':List V} {wr wr' full full':Bool}:obC hs ρ vt ko (some (.live z es wr full)) (.live z' es' wr' full') =
  (z=z'∧wr=wr'∧(full'=true→full=true)∧(zNs es).wp hs (fun u _=>zUp ρ vt ko u es')):=Eq.trans (Eq.refl _) rfl
theorem zPz {o:Ob}:obC hs ρ vt ko (some o) .dead=True:=by cases o<;>rfl
end
theorem zO6 {es:List V}:zU1 es=match qE7 es with | some _=>[] | none=>qLz es:=Eq.trans (Eq.refl _) rfl
theorem zKs {n:Nat} {ids:List Nat} {obs:List Ob}:qLx n [] ids obs = .ret (ids,obs):=by cases n<;>rfl
theorem zGy {n id:Nat} {todo ids:List Nat} {obs:List Ob}:qLx (n+1) (id::todo) ids obs=if ids.contains id then qLx n todo ids obs else
  .get id fun
   | .live z es true full=>(zNs es).bind fun es'=>qLx n (todo++zU1 es') (ids++[id]) (obs++[.live z es' true full])
   | _=> .fail:=Eq.trans (Eq.refl _) rfl
theorem zQt {n:Nat} {vs:List V}:zYl n vs=(rdL (rdV 4) vs).bind fun us=>(qLx (40+n) (List.range n++qLz us) [] []).bind fun q=>
  Q.assert ((qLz us).all (fun i=>q.1.contains i)=true) (.ret (zTm (qFs (fun r=>q.1.idxOf r) us),q.2.map (Ob.ren fun r=>q.1.idxOf r))):=Eq.trans (Eq.refl _) rfl
theorem zCx {fz:List Nat} {rs:List (Nat×Option (Nat×Bool))} {n:Nat} {R:V→List Ob→Prop}:xM fz rs n R .normal fs hs=(qV0 fz).wp hs (fun fw _=>((rsQ fs rs).bind fun vs=>zYl n vs).wp (qX1 hs fw) (fun p _=>R p.1 p.2)):=Eq.trans (Eq.refl _) rfl
theorem zQp {fz:List Nat} {rs:List (Nat×Option (Nat×Bool))} {n:Nat} {R:V→List Ob→Prop}:xM fz rs n R .ret fs hs=(qV0 fz).wp hs (fun fw _=>((rsQ fs rs).bind fun vs=>zYl n vs).wp (qX1 hs fw) (fun p _=>R p.1 p.2)):=Eq.trans (Eq.refl _) rfl
def unK (tab:Tab) (gl:Gl) (a:AC) (n:Nat) (Qx:qD2):qD2:=fun e fs' hs'=>match e with | .normal=>qZb tab gl a n fs' hs' Qx | e=>Qx e fs' hs'
theorem qB {a:AC} {n:Nat}:qZb tab gl a (n+1) fs hs Qx=a.wp tab gl fs hs (unK tab gl a n Qx):=Eq.trans (Eq.refl _) rfl
theorem zHz {a:AC} {n:Nat}:unK tab gl a n Qx .normal fs hs=qZb tab gl a n fs hs Qx:=Eq.trans (Eq.refl _) rfl
theorem zRs {a:AC} {n id:Nat}:unK tab gl a n Qx (.exit id) fs hs=Qx (.exit id) fs hs:=Eq.trans (Eq.refl _) rfl
theorem zXr {a:AC} {n:Nat}:unK tab gl a n Qx .ret fs hs=Qx .ret fs hs:=Eq.trans (Eq.refl _) rfl
@[congr] theorem zVh {a:AC} {n:Nat} {fs':Fs} {hs':Hs} (h1:fs=fs') (h2:hs=hs'):qZb tab gl a n fs hs Qx=qZb tab gl a n fs' hs' Qx:=by rw[h1,h2]
theorem qZa {ι:Type} {I:ι→Fs×Hs} {μ:ι→Nat} {i:ι}:zPm I μ i Qx .normal fs hs = ∃ j,μ j<μ i∧qI fs hs (I j).1 (I j).2:=Eq.trans (Eq.refl _) rfl
theorem zG3 {ι:Type} {I:ι→Fs×Hs} {μ:ι→Nat} {i:ι} {id:Nat}:zPm I μ i Qx (.exit id) fs hs=Qx (.exit id) fs hs:=Eq.trans (Eq.refl _) rfl
theorem zLb {ι:Type} {I:ι→Fs×Hs} {μ:ι→Nat} {i:ι}:zPm I μ i Qx .ret fs hs=Qx .ret fs hs:=Eq.trans (Eq.refl _) rfl
attribute [go_sem] zWc qWj zWh zWf jAr zWg zWi zWe jAq jAs zQc jAn zWb jBv jBx jBw jBr jBs jBu jB2 jB0 jB1 jBy zRy zM6 zOs zHv zHu
 zGf zBb zNv zIu zP0 zPz zO6 zKs zGy zQt zCx zQp zHz zRs zXr qZa zG3 zLb
theorem jDl {p:Prop} [Decidable p] (h:p):decide p=true:=decide_eq_true h
theorem jDk {p:Prop} [Decidable p] (h : ¬ p):decide p=false:=decide_eq_false h
theorem zZe {a b:Int} (h:a=b):(a==b)=true:=by simp[h]
theorem zZd {a b:Int} (h : ¬ a=b):(a==b)=false:=by simp[h]
theorem zZg {a b:Int} (h : ¬ a=b):(a != b)=true:=by simp[h]
theorem zZf {a b:Int} (h:a=b):(a != b)=false:=by simp[h]
attribute [go_sem low] jDl jDk jGx zZe zZd zZg zZf
theorem qZc {α γ:Type} {f:α→γ} {l:List α} {x:α} {r:List γ}:List.map f l++f x::r=List.map f (l++[x])++r:=by simp
theorem zCl {α γ:Type} {f:α→γ} {l r:List α}:List.map f l++List.map f r=List.map f (l++r):=by simp
theorem zJw {α γ:Type} {f:α→γ} {l:List α} {n:Nat}:List.drop n (List.map f l)=List.map f (List.drop n l):=by simp
theorem zM1 {α γ:Type} {f:α→γ} {l:List α} {n:Nat}:List.take n (List.map f l)=List.map f (List.take n l):=by simp
theorem zRl {α γ:Type} {f:α→γ} {l:List α} {n:Nat} {x:α}:List.set (List.map f l) n (f x)=List.map f (List.set l n x):=by
 rw[List.map_set]
theorem zO3 {α γ:Type} {f:α→γ} {l:List α} {n:Nat}:(List.map f l)[n]?=(l[n]?).map f:=List.getElem?_map
theorem jDy {n:Nat} {x:T}:List.replicate n (V.t x)=List.map V.t (List.replicate n x):=by simp
theorem jDx {n:Nat} {x:UInt8}:List.replicate n (qA x)=List.map qA (List.replicate n x):=by simp
theorem jDz {n:Nat} {x:UInt32}:List.replicate n (qP x)=List.map qP (List.replicate n x):=by simp
theorem jKm {α:Type} {x:α}:List.replicate 0 x=[]:=Eq.trans (Eq.refl _) rfl
theorem jKn {α:Type} {x:α}:List.replicate 1 x=[x]:=Eq.trans (Eq.refl _) rfl
theorem jKo {α:Type} {x:α}:List.replicate 2 x=[x,x]:=Eq.trans (Eq.refl _) rfl
theorem jKp {α:Type} {x:α}:List.replicate 3 x=[x,x,x]:=Eq.trans (Eq.refl _) rfl
theorem jKq {α:Type} {x:α}:List.replicate 4 x=[x,x,x,x]:=Eq.trans (Eq.refl _) rfl
theorem jKr {α:Type} {x:α}:List.replicate 5 x=[x,x,x,x,x]:=Eq.trans (Eq.refl _) rfl
theorem jKs {α:Type} {x:α}:List.replicate 6 x=[x,x,x,x,x,x]:=Eq.trans (Eq.refl _) rfl
theorem jKt {α:Type} {x:α}:List.replicate 7 x=[x,x,x,x,x,x,x]:=Eq.trans (Eq.refl _) rfl
theorem jKu {α:Type} {x:α}:List.replicate 8 x=[x,x,x,x,x,x,x,x]:=Eq.trans (Eq.refl _) rfl
theorem zUo {es:List T}:qCo (.t (.sl es)) = .ret (es.map .t):=Eq.trans (Eq.refl _) rfl
theorem zJ3:qCo .nil = .ret []:=Eq.trans (Eq.refl _) rfl
theorem zOp {id off len:Nat}:qCo (.sl id off len) = .get id fun
  | .live _ es _ _=>Q.assert (off+len≤es.length) (.ret ((es.drop off).take len))
  | .dead=> .fail:=Eq.trans (Eq.refl _) rfl
theorem jGy {z:Nat} {ts:List T}:zOk z (ts.map .t)=qVd z ts:=by
 induction ts with
 | nil=>rfl
 | cons x r ih=>
  have:zOk z (V.t x::r.map .t)=((V.t x).cells.length==z&&zOk z (r.map .t)):=rfl
  rw[List.map_cons,this,ih]
  have:qVd z (x::r)=(x.cells.length==z&&qVd z r):=rfl
  rw[this,qJ4,List.length_map]
theorem zYf {z:Nat}:zOk z []=true:=Eq.trans (Eq.refl _) rfl
theorem zR8 {z:Nat} {x:V} {r:List V}:zOk z (x::r)=(x.cells.length==z&&zOk z r):=Eq.trans (Eq.refl _) rfl
theorem zR7 {z:Nat}:qVd z []=true:=Eq.trans (Eq.refl _) rfl
theorem zNl {z:Nat} {x:T} {r:List T}:qVd z (x::r)=(x.cells.length==z&&qVd z r):=Eq.trans (Eq.refl _) rfl
theorem qXv {α:Type} {z:Nat} {f:α→T} (h : ∀ x,(f x).cells.length=z) {l:List α}:qVd z (l.map f)=true:=by
 simp[qVd,h]
theorem jCr {l:List UInt8}:qVd 1 (l.map qA)=true:=qXv (f:=qA) (fun _=>rfl)
theorem jCs {l:List UInt32}:qVd 1 (l.map qP)=true:=qXv (f:=qP) (fun _=>rfl)
theorem zGp {es:List V}:qDj es=match qE7 es with | some _=> .ret (es,[]) | none=>qDk (zN 3) es:=Eq.trans (Eq.refl _) rfl
theorem qWr {α:Type} {l xs:List α}:jJ l 0 xs=xs++l.drop xs.length:=by simp[jJ]
theorem qWq {α:Type} {x:α} {l xs:List α} {i:Nat}:jJ (x::l) (i+1) xs=x::jJ l i xs:=by
 simp[jJ,show i+1+xs.length=i+xs.length+1 by omega]
def zJ8 (b:Bool) (z:List V) (pl:List (Nat×Nat)) (vs:List V):Option (List V):=if b then qTg z pl vs else none
@[congr] theorem zUq {b b':Bool} {z:List V} {pl:List (Nat×Nat)} {vs:List V} (h:b=b'):zJ8 b z pl vs=zJ8 b' z pl vs:=by rw[h]
theorem zGt {z:List V} {pl:List (Nat×Nat)} {vs:List V}:zJ8 true z pl vs=qTg z pl vs:=Eq.trans (Eq.refl _) rfl
theorem zJ9 {z:List V}:qTg z [] []=some z:=Eq.trans (Eq.refl _) rfl
theorem zGu {z:List V} {off n:Nat} {pl:List (Nat×Nat)} {v:V} {vs:List V}:qTg z ((off,n)::pl) (v::vs)=zJ8 (decide (v.cells.length=n∧off+n≤z.length)&&v.plain) (jJ z off v.cells) pl vs:=by
 simp only[qTg,zJ8,Bool.and_eq_true,decide_eq_true_eq,and_assoc]
def qYw (b:Bool) (z:Nat) (es:List V) (ix:List Nat) (vs:List V):Option (List V):=if b then qTf z es ix vs else none
@[congr] theorem zSw {b b':Bool} {z:Nat} {es:List V} {ix:List Nat} {vs:List V} (h:b=b'):qYw b z es ix vs=qYw b' z es ix vs:=by rw[h]
theorem zB1 {z:Nat} {es:List V} {ix:List Nat} {vs:List V}:qYw true z es ix vs=qTf z es ix vs:=Eq.trans (Eq.refl _) rfl
theorem zJ7 {z:Nat} {es:List V}:qTf z es [] []=some es:=Eq.trans (Eq.refl _) rfl
theorem zGs {z i:Nat} {es:List V} {ix:List Nat} {v:V} {vs:List V}:qTf z es (i::ix) (v::vs)=qYw (decide (v.cells.length=z∧i<es.length)&&v.plain) z (es.set i v) ix vs:=by
 simp only[qTf,qYw,Bool.and_eq_true,decide_eq_true_eq,and_assoc]
theorem zP4:qS9 []=true:=Eq.trans (Eq.refl _) rfl
theorem zLk {x:V} {r:List V}:qS9 (x::r)=(x.single&&qS9 r):=Eq.trans (Eq.refl _) rfl
theorem zP2 {a b:List V}:qS9 (a++b)=(qS9 a&&qS9 b):=by simp[qS9]
theorem qV9 {α:Type} {f:α→T} (h : ∀ x,(V.t (f x)).single=true) {l:List α}:qS9 ((l.map f).map V.t)=true:=by
 simp only[qS9,List.all_eq_true]
 intro x hx
 simp only[List.map_map,List.mem_map,Function.comp] at hx
 obtain⟨a,_,rfl⟩:=hx
 exact h a
theorem jAg {l:List UInt8}:qS9 ((l.map qA).map V.t)=true:=qV9 (f:=qA) (fun _=>rfl)
theorem jAh {l:List UInt32}:qS9 ((l.map qP).map V.t)=true:=qV9 (f:=qP) (fun _=>rfl)
theorem zHm {k:IntKind} {n:Int}:(V.t (T.int k n)).single=true:=Eq.trans (Eq.refl _) rfl
theorem zC8 {n:UInt8}:(V.t (qA n)).single=true:=Eq.trans (Eq.refl _) rfl
theorem zHr {n:UInt32}:(V.t (qP n)).single=true:=Eq.trans (Eq.refl _) rfl
theorem zC7 {n:Bool}:(V.t (T.bool n)).single=true:=Eq.trans (Eq.refl _) rfl
theorem zHp {n:ByteArray}:(V.t (T.str n)).single=true:=Eq.trans (Eq.refl _) rfl
theorem zHq {n:List T}:(V.t (T.sl n)).single=true:=Eq.trans (Eq.refl _) rfl
theorem zDa {n:List T}:(V.t (T.agg n)).single=false:=Eq.trans (Eq.refl _) rfl
theorem zHl {n:List V}:(V.agg n).single=false:=Eq.trans (Eq.refl _) rfl
theorem zMu {i j k:Nat}:(V.sl i j k).single=true:=Eq.trans (Eq.refl _) rfl
theorem zHo {i j k:Nat}:(V.ref i j k).single=true:=Eq.trans (Eq.refl _) rfl
theorem zMs {g i j k:Nat}:(V.bd g i j k).single=true:=Eq.trans (Eq.refl _) rfl
theorem zMt:V.bq.single=true:=Eq.trans (Eq.refl _) rfl
attribute [go_sem] zMt
attribute [go_sem] zMs
theorem zHn:V.nil.single=true:=Eq.trans (Eq.refl _) rfl
theorem zHs {n b:Nat}:qCt n b=(n≤9223372036854775807∧n*b≤140737488355328):=Eq.trans (Eq.refl _) rfl
theorem jJz {l:List UInt8} {i:Nat} (h:i<l.length):l[i]?=some (l.getD i 0):=by simp[List.getD,h]
theorem jDo {l:List UInt32} {i:Nat} (h:i<l.length):l[i]?=some (l.getD i 0):=by simp[List.getD,h]
theorem zZ5 {a b:Nat}:(a:Int)+(b:Int)=((a+b:Nat):Int):=rfl
theorem zVk {a n:Nat}:(a:Int)+(no_index (@OfNat.ofNat Int n _))=((a + @OfNat.ofNat Nat n (instOfNatNat n):Nat):Int):=rfl
theorem zPw {a n:Nat}:(no_index (@OfNat.ofNat Int n _))+(a:Int)=((@OfNat.ofNat Nat n (instOfNatNat n)+a:Nat):Int):=rfl
theorem zZ7 {a b:Nat}:(a:Int)*(b:Int)=((a*b:Nat):Int):=rfl
theorem zVm {a n:Nat}:(no_index (@OfNat.ofNat Int n _))*(a:Int)=((@OfNat.ofNat Nat n (instOfNatNat n)*a:Nat):Int):=rfl
theorem zVo {a n:Nat}:(a:Int)*(no_index (@OfNat.ofNat Int n _))=((a * @OfNat.ofNat Nat n (instOfNatNat n):Nat):Int):=rfl
theorem zVr {a n:Nat}:(a:Int).tmod (no_index (@OfNat.ofNat Int n _))=((a % @OfNat.ofNat Nat n (instOfNatNat n):Nat):Int):=rfl
theorem zVq {a n:Nat}:(a:Int).tdiv (no_index (@OfNat.ofNat Int n _))=((a / @OfNat.ofNat Nat n (instOfNatNat n):Nat):Int):=rfl
theorem zVl {a n:Nat}:(a:Int).fdiv (no_index (@OfNat.ofNat Int n _))=((a / @OfNat.ofNat Nat n (instOfNatNat n):Nat):Int):=by
 rw[Int.fdiv_eq_ediv_of_nonneg _ (by exact Int.natCast_nonneg n)];rfl
theorem zZ8 {a b:Nat} (h:b≤a):(a:Int)-(b:Int)=((a-b:Nat):Int):=by omega
theorem zVp {a n:Nat} (h : @OfNat.ofNat Nat n (instOfNatNat n)≤a):(a:Int)-(no_index (@OfNat.ofNat Int n _))=((a - @OfNat.ofNat Nat n (instOfNatNat n):Nat):Int):=by
 have:(@OfNat.ofNat Int n _:Int)=((@OfNat.ofNat Nat n (instOfNatNat n):Nat):Int):=rfl
 rw[this];omega
theorem zVn {a n:Nat} (h:a ≤ @OfNat.ofNat Nat n (instOfNatNat n)):(no_index (@OfNat.ofNat Int n _))-(a:Int)=((@OfNat.ofNat Nat n (instOfNatNat n)-a:Nat):Int):=by
 have:(@OfNat.ofNat Int n _:Int)=((@OfNat.ofNat Nat n (instOfNatNat n):Nat):Int):=rfl
 rw[this];omega
theorem zZ6 {n:Nat}:(no_index (@OfNat.ofNat Int n _)).toNat = @OfNat.ofNat Nat n (instOfNatNat n):=rfl
attribute [go_sem] zP4 zLk zP2 jAg jAh zHm zC8 zHr zC7 zHp zHq zDa zHl zMu zHo zHn
attribute [go_sem] zGp qWr qWq zGt zJ9 zGu zB1 zJ7 zGs
attribute [go_sem] jKm jKn jKo jKp jKq jKr jKs jKt jKu List.drop_replicate zUo zJ3 zOp jGy zYf zR8 zR7 zNl jCr jCs zHs jDy jDx jDz
attribute [go_sem] List.idxOf_cons List.idxOf_nil cond_true cond_false Ob.live.injEq
theorem jK6 {n:Int} (h : -9223372036854775808≤n∧n<9223372036854775808):IntKind.i64.wrap n=n:=qBr h
theorem jK8 {n:Int} (h:0≤n∧n<18446744073709551616):IntKind.u64.wrap n=n:=qGh h
theorem jK7 {n:Int} (h:0≤n∧n<4294967296):IntKind.u32.wrap n=n:=zEd h
theorem jBd {a:Nat} {k k':IntKind} {b:Int} (h:0≤b∧b≤64) (hk:k.bits=64):qTb .shr k (a:Int) k' b=some (.int k ((a/2^b.toNat:Nat):Int)):=by
 change (if b<0 then none else some (T.int k ((a:Int).fdiv (2^min b.toNat k.bits))))=_
 rw[if_neg (by omega),hk,show min b.toNat 64=b.toNat by omega,Int.fdiv_eq_ediv_of_nonneg _ (Int.pow_nonneg (by omega))]
 norm_cast
theorem zXj {a:Nat} {k':IntKind} {b:Int} (h:0≤b∧b≤64):qTb .shr .u64 (a:Int) k' b=some (.int .u64 ((a/2^b.toNat:Nat):Int)):=jBd h rfl
theorem zC5 {a:Nat} {k':IntKind} {b:Int} (h:0≤b∧b≤64):qTb .shr .i64 (a:Int) k' b=some (.int .i64 ((a/2^b.toNat:Nat):Int)):=jBd h rfl
theorem jBk {m:Nat}:T.int .u8 (IntKind.u8.wrap (m:Int))=qA (UInt8.ofNat m):=by
 unfold qA
 congr 1
attribute [go_sem ↓] zXj zC5
end Go.Eng
end
section
namespace Go.Eng
structure Ct where
 α:Type
 as:α→List V
 ins:α→List Ob
 pre:α→Prop
 r:α→V
 outs:α→List Ob
 inj : ∀ x y,as x=as y→ins x=ins y→r x=r y∧outs x=outs y
open Classical in
noncomputable def Ct.fs (c:Ct):FnS:=fun as ins=>if h : ∃ x,(c.as x=as∧c.ins x=ins)∧c.pre x then some (c.r h.choose,c.outs h.choose) else none
theorem Ct.eq (c:Ct) (x:c.α) (h:c.pre x):c.fs (c.as x) (c.ins x)=some (c.r x,c.outs x):=by
 have hx : ∃ y,(c.as y=c.as x∧c.ins y=c.ins x)∧c.pre y:=⟨x,⟨rfl,rfl⟩,h⟩
 unfold Ct.fs
 rw[dif_pos hx]
 obtain⟨h1,h2⟩:=c.inj _ _ hx.choose_spec.1.1 hx.choose_spec.1.2
 rw[h1,h2]
theorem Ct.ok {P:Program} {G:Nat→Option (List T)} {f:FuncId} (c:Ct) (hc : ∀ args w,(callFunc f args).run P w = .ok (.enter f args) w) (h : ∀ x,c.pre x→qX2 P G f (c.as x) (c.ins x) (c.r x) (c.outs x)):FOk P G f c.fs:=by
 refine FOk.of hc (fun as ins r outs hs=>?_)
 unfold Ct.fs at hs
 split at hs
 ·rename_i hx
  cases hs
  have h1:=hx.choose_spec
  generalize hx.choose=y at h1 ⊢
  obtain⟨⟨rfl,rfl⟩,h3⟩:=h1
  exact h y h3
 ·cases hs
theorem qQt {a b:UInt8} (h:qA a=qA b):a=b:=by
 have:=congrArg d8 h
 rw[zBw,zBw] at this
 exact Option.some.inj this
theorem zGb {a b:UInt32} (h:qP a=qP b):a=b:=by
 have:=congrArg d32 h
 rw[zJt,zJt] at this
 exact Option.some.inj this
theorem kJ {α γ:Type} {f:α→γ} (hf : ∀ a b,f a=f b→a=b) : ∀ {l m:List α},l.map f=m.map f→l=m
 | [],[],_=>rfl
 | [],_::_,h=>by simp at h
 | _::_,[],h=>by simp at h
 | a::l,b::m,h=>by
  simp only[List.map_cons,List.cons.injEq] at h
  rw[hf _ _ h.1,kJ hf h.2]
theorem qZ {l m:List UInt8}:(l.map qA=m.map qA)=(l=m):=propext ⟨kJ (fun _ _=>qQt),fun h=>by rw[h]⟩
theorem zFi {l m:List UInt32}:(l.map qP=m.map qP)=(l=m):=propext ⟨kJ (fun _ _=>zGb),fun h=>by rw[h]⟩
theorem zPt {l m:List T}:(l.map V.t=m.map V.t)=(l=m):=propext ⟨kJ (fun _ _ h=>V.t.inj h),fun h=>by rw[h]⟩
theorem qPq {a b:UInt8}:(qA a=qA b)=(a=b):=propext ⟨qQt,fun h=>by rw[h]⟩
theorem qWu {a b:UInt32}:(qP a=qP b)=(a=b):=propext ⟨zGb,fun h=>by rw[h]⟩
theorem jD6 {x:UInt32} {k:IntKind} {n:Nat}:qIi .shl (qP x) (.int k (no_index (@OfNat.ofNat Int n _)))=if n<32 then some (qP (x <<< UInt32.ofNat n)) else qIi .shl (qP x) (.int k (n:Int)):=by
 split
 ·exact qQp (by assumption)
 ·rfl
theorem jD7 {x:UInt32} {k:IntKind} {n:Nat}:qIi .shr (qP x) (.int k (no_index (@OfNat.ofNat Int n _)))=if n<32 then some (qP (x >>> UInt32.ofNat n)) else qIi .shr (qP x) (.int k (n:Int)):=by
 split
 ·exact qQq (by assumption)
 ·rfl
theorem jBb {x:UInt32} {k:IntKind} {n:Nat} (h:n<32):qIi .shl (qP x) (.int k (n:Int))=some (qP (x <<< UInt32.ofNat n)):=qQp h
theorem jBc {x:UInt32} {k:IntKind} {n:Nat} (h:n<32):qIi .shr (qP x) (.int k (n:Int))=some (qP (x >>> UInt32.ofNat n)):=qQq h
theorem qDy {α:Type} {l:List α} {k:Nat} {d:α} (h:k<l.length):l.take (k+1)=l.take k++[l.getD k d]:=by
 rw[List.take_add_one];simp[List.getD,h]
theorem zS8 {x:Int} {m:Nat} (h:m≤64):(BitVec.ofInt 64 x &&& BitVec.ofInt 64 ((2^m-1:Nat):Int)).toNat=(x%((2^m:Nat):Int)).toNat:=by
 have h0:1≤2^m:=Nat.one_le_two_pow
 have h2:2^m≤2^64:=Nat.pow_le_pow_right (n:=2) (by omega) h
 rw[BitVec.toNat_and,BitVec.toNat_ofInt,BitVec.toNat_ofInt]
 have h1:(((2^m-1:Nat):Int)%((2^64:Nat):Int)).toNat=2^m-1:=by
  rw[Int.emod_eq_of_lt (by omega) (by omega)];simp
 rw[h1,Nat.and_two_pow_sub_one_eq_mod]
 have hd:((2^m:Nat):Int) ∣ ((2^64:Nat):Int):=Int.natCast_dvd_natCast.2 (Nat.pow_dvd_pow 2 h)
 have e:x%((2^64:Nat):Int)%((2^m:Nat):Int)=x%((2^m:Nat):Int):=Int.emod_emod_of_dvd x hd
 rw[←e]
 have hx0:0≤x%((2^64:Nat):Int):=Int.emod_nonneg _ (by omega)
 generalize x%((2^64:Nat):Int)=y at hx0
 obtain⟨z,rfl⟩:=Int.eq_ofNat_of_zero_le hx0
 rw[←Int.natCast_emod,Int.toNat_natCast,Int.toNat_natCast]
theorem qVj {x:Int} {m:Nat} (h:m≤63):IntKind.i64.wrap ((BitVec.ofInt 64 x &&& BitVec.ofInt 64 ((2^m-1:Nat):Int)).toNat:Int)=x%((2^m:Nat):Int):=by
 rw[zS8 (by omega)]
 have h0:1≤2^m:=Nat.one_le_two_pow
 have h2:2^m≤2^63:=Nat.pow_le_pow_right (n:=2) (by omega) h
 have h3:=Int.emod_nonneg x (b:=((2^m:Nat):Int)) (by omega)
 have h4:=Int.emod_lt_of_pos x (b:=((2^m:Nat):Int)) (by omega)
 rw[qBr (by omega)]
 omega
theorem jJm {x:Int}:qTb .and .i64 x .i64 1=some (.int .i64 (x%2)):=by
 have h := @qVj x 1 (by omega)
 rw[show ((2^1-1:Nat):Int)=1 from rfl,show ((2^1:Nat):Int)=2 from rfl] at h
 have h2:=congrArg (fun z=>some (T.int IntKind.i64 z)) h
 exact h2
theorem jJo {x:Int}:qTb .and .i64 x .i64 3=some (.int .i64 (x%4)):=by
 have h := @qVj x 2 (by omega)
 rw[show ((2^2-1:Nat):Int)=3 from rfl,show ((2^2:Nat):Int)=4 from rfl] at h
 have h2:=congrArg (fun z=>some (T.int IntKind.i64 z)) h
 exact h2
theorem jDa {x:Int}:qTb .and .i64 x .i64 15=some (.int .i64 (x%16)):=by
 have h := @qVj x 4 (by omega)
 rw[show ((2^4-1:Nat):Int)=15 from rfl,show ((2^4:Nat):Int)=16 from rfl] at h
 have h2:=congrArg (fun z=>some (T.int IntKind.i64 z)) h
 exact h2
theorem zN4 {x:Int}:qTb .and .i64 x .i64 65535=some (.int .i64 (x%65536)):=by
 have h := @qVj x 16 (by omega)
 rw[show ((2^16-1:Nat):Int)=65535 from rfl,show ((2^16:Nat):Int)=65536 from rfl] at h
 have h2:=congrArg (fun z=>some (T.int IntKind.i64 z)) h
 exact h2
theorem zYv {x:Int}:qTb .and .u64 x .u64 31=some (.int .u64 (x%32)):=by
 have h := @zS8 x 5 (by omega)
 rw[show ((2^5-1:Nat):Int)=31 from rfl,show ((2^5:Nat):Int)=32 from rfl] at h
 have h2:IntKind.u64.wrap ((BitVec.ofInt 64 x &&& BitVec.ofInt 64 31).toNat:Int)=x%32:=by
  rw[h,qP8];omega
 have h3:=congrArg (fun z=>some (T.int IntKind.u64 z)) h2
 exact h3
theorem zKg {z:Nat} {es:List V} {wr full:Bool}:(Ob.live z es wr full).flat=qKc es:=Eq.trans (Eq.refl _) rfl
theorem zKd:qKc []=true:=Eq.trans (Eq.refl _) rfl
theorem qUx {c:V} {r:List V}:qKc (c::r)=(c.flat&&qKc r):=Eq.trans (Eq.refl _) rfl
theorem zKc:qO4 []=true:=Eq.trans (Eq.refl _) rfl
theorem qIo {c:T} {r:List T}:qO4 (c::r)=(c.flat&&qO4 r):=Eq.trans (Eq.refl _) rfl
theorem zUv {ts:List T}:qKc (ts.map .t)=qO4 ts:=by
 induction ts with
 | nil=>rfl
 | cons x r ih=>rw[List.map_cons,qUx,ih,qIo];rfl
theorem zUt {l:List UInt8}:qO4 (l.map qA)=true:=by
 induction l with
 | nil=>rfl
 | cons x r ih=>rw[List.map_cons,qIo,ih];rfl
theorem zUu {l:List UInt32}:qO4 (l.map qP)=true:=by
 induction l with
 | nil=>rfl
 | cons x r ih=>rw[List.map_cons,qIo,ih];rfl
theorem zO0 {i j k:Nat}:(V.sl i j k).flat=true:=Eq.trans (Eq.refl _) rfl
theorem zKl {i j k:Nat}:(V.ref i j k).flat=true:=Eq.trans (Eq.refl _) rfl
theorem zOy {g i j k:Nat}:(V.bd g i j k).flat=true:=Eq.trans (Eq.refl _) rfl
theorem zOz:V.bq.flat=true:=Eq.trans (Eq.refl _) rfl
attribute [go_sem] zOz
attribute [go_sem] zOy
theorem zKk:V.nil.flat=true:=Eq.trans (Eq.refl _) rfl
theorem zKj {cs:List V}:(V.agg cs).flat=qKc cs:=Eq.trans (Eq.refl _) rfl
theorem zKm {cs:List V}:(V.tup cs).flat=qKc cs:=Eq.trans (Eq.refl _) rfl
theorem zOv {cs:List T}:(T.sl cs).flat=cs.isEmpty:=Eq.trans (Eq.refl _) rfl
theorem zKi {cs:List T}:(T.agg cs).flat=qO4 cs:=Eq.trans (Eq.refl _) rfl
attribute [go_sem] zKg zKd qUx zKc qIo zUv zUt zUu zO0 zKl zKk zKj zKm zOv zKi List.isEmpty_nil List.isEmpty_cons
attribute [go_sem ↓] zYv
attribute [go_sem ↓] jJm jJo jDa zN4
attribute [go_sem] jD6 jD7 jBb jBc qPq qWu
end Go.Eng
end
section
namespace Go.Eng
variable {tab:Tab} {gl:Gl} {fs:Fs} {hs:Hs} {Qx:qD2}
def upP (n:Nat) (P:Nat→Prop) (fI:Nat→Fs) (hI:Nat→Hs) (i:Nat) (Qx:qD2):qD2:=fun e fs' hs'=>match e with | .normal=>i<n∧P (i+1)∧qI fs' hs' (fI (i+1)) (hI (i+1)) | e=>Qx e fs' hs'
theorem zH2 {n:Nat} {P:Nat→Prop} {fI:Nat→Fs} {hI:Nat→Hs} {i:Nat}:upP n P fI hI i Qx .normal fs hs=(i<n∧P (i+1)∧qI fs hs (fI (i+1)) (hI (i+1))):=Eq.trans (Eq.refl _) rfl
theorem zRv {n:Nat} {P:Nat→Prop} {fI:Nat→Fs} {hI:Nat→Hs} {i id:Nat}:upP n P fI hI i Qx (.exit id) fs hs=Qx (.exit id) fs hs:=Eq.trans (Eq.refl _) rfl
theorem zXu {n:Nat} {P:Nat→Prop} {fI:Nat→Fs} {hI:Nat→Hs} {i:Nat}:upP n P fI hI i Qx .ret fs hs=Qx .ret fs hs:=Eq.trans (Eq.refl _) rfl
attribute [go_sem] zH2 zRv zXu
theorem yO {a:AC} (n:Nat) (P:Nat→Prop) (fI:Nat→Fs) (hI:Nat→Hs) (hP:P 0) (h0:qI fs hs (fI 0) (hI 0)) (h : ∀ i,i≤n→P i→a.wp tab gl (fI i) (hI i) (upP n P fI hI i Qx)):qIv tab gl a fs hs Qx:=by
 refine qH6 (ι := { i:Nat // i≤n∧P i }) (fun i=>(fI i.1,hI i.1)) (fun i=>n-i.1) ⟨0,Nat.zero_le _,hP⟩ h0 (fun i=>?_)
 refine qEu (fun e f g hq=>?_) (h i.1 i.2.1 i.2.2)
 cases e with
 | normal=>exact⟨⟨i.1+1,hq.1,hq.2.1⟩,by simp only;have:=hq.1;omega,hq.2.2⟩
 | exit id=>exact hq
 | ret=>exact hq
theorem zRo {a:Nat} {k':IntKind} {b:Int} (h:0≤b∧b≤32):qTb .shr .u32 (a:Int) k' b=some (.int .u32 ((a/2^b.toNat:Nat):Int)):=by
 change (if b<0 then none else some (T.int .u32 ((a:Int).fdiv (2^min b.toNat 32))))=_
 rw[if_neg (by omega),show min b.toNat 32=b.toNat by omega,Int.fdiv_eq_ediv_of_nonneg _ (Int.pow_nonneg (by omega))]
 norm_cast
attribute [go_sem ↓] zRo
theorem zEp {a b:UInt8}:((a.toNat:Int)==(b.toNat:Int))=decide (a=b):=by
 by_cases h:a=b
 ·subst h;simp
 ·have : ¬ ((a.toNat:Int)=b.toNat):=fun e=>h (UInt8.toNat_inj.1 (by omega))
  simp[h,this]
theorem zN7 {a b:UInt8}:qIi .eql (qA a) (qA b)=some (.bool (decide (a=b))):=by
 change some (T.bool ((a.toNat:Int)==(b.toNat:Int)))=_
 rw[zEp]
theorem zOc {a b:UInt8}:qIi .neq (qA a) (qA b)=some (.bool (!decide (a=b))):=by
 change some (T.bool (!((a.toNat:Int)==(b.toNat:Int))))=_
 rw[zEp]
theorem zOb {a b:UInt8}:qIi .lss (qA a) (qA b)=some (.bool (decide (a.toNat<b.toNat))):=by
 change some (T.bool (decide ((a.toNat:Int)<(b.toNat:Int))))=_
 congr 2;simp
theorem zN9 {a b:UInt8}:qIi .gtr (qA a) (qA b)=some (.bool (decide (a.toNat>b.toNat))):=by
 change some (T.bool (decide ((a.toNat:Int)>(b.toNat:Int))))=_
 congr 2;simp
theorem zOa {a b:UInt8}:qIi .leq (qA a) (qA b)=some (.bool (decide (a.toNat≤b.toNat))):=by
 change some (T.bool (decide ((a.toNat:Int)≤(b.toNat:Int))))=_
 congr 2;simp
theorem zN8 {a b:UInt8}:qIi .geq (qA a) (qA b)=some (.bool (decide (a.toNat ≥ b.toNat))):=by
 change some (T.bool (decide ((a.toNat:Int) ≥ (b.toNat:Int))))=_
 congr 2;simp
theorem zI7 {a b:UInt8}:qIi .xor (qA a) (qA b)=some (qA (a ^^^ b)):=by
 change some (T.int .u8 (IntKind.u8.wrap ((BitVec.ofInt 8 (a.toNat:Int) ^^^ BitVec.ofInt 8 (b.toNat:Int)).toNat:Int)))=_
 have e : ∀ x:UInt8,BitVec.ofInt 8 (x.toNat:Int)=x.toBitVec:=fun x=>BitVec.eq_of_toNat_eq (by simp)
 rw[e,e,←UInt8.toBitVec_xor,qXu]
 have:=(a ^^^ b).toNat_lt
 unfold qA
 rw[UInt8.toNat_toBitVec]
 congr 2;omega
attribute [go_sem ↓] zN7 zOc zOb zN9 zOa zN8 zI7
attribute [go_sem] UInt8.reduceToNat
theorem qVy {b:UInt8}:qGe .u64 [.t (qA b)] = .ret (.t (.int .u64 (b.toNat:Int)),[]):=by
 change Q.ret (V.t (.int .u64 (IntKind.u64.wrap (b.toNat:Int))),([]:Wr))=_
 have:=b.toNat_lt
 rw[qGh (by omega)]
theorem qVw {b:UInt8}:qGe .i64 [.t (qA b)] = .ret (.t (.int .i64 (b.toNat:Int)),[]):=by
 change Q.ret (V.t (.int .i64 (IntKind.i64.wrap (b.toNat:Int))),([]:Wr))=_
 have:=b.toNat_lt
 rw[qBr (by omega)]
theorem zRn {a:Nat} {k':IntKind} (h:a<72057594037927936):qTb .shl .u64 (a:Int) k' 8=some (.int .u64 ((256*a:Nat):Int)):=by
 change (if (8:Int)<0 then none else some (T.int .u64 (IntKind.u64.wrap ((a:Int)*2^min (8:Int).toNat 64))))=_
 rw[if_neg (by omega),show (a:Int)*2^min (8:Int).toNat 64=((256*a:Nat):Int) by
  rw[show min (8:Int).toNat 64=8 from rfl];omega,qGh (by omega)]
theorem or8 {a x:Nat} (hx:x<256):(256*a) ||| x=256*a+x:=by
 have:=Nat.shiftLeft_add_eq_or_of_lt (i:=8) (b:=x) (by omega) a
 rw[Nat.shiftLeft_eq] at this
 rw[Nat.mul_comm];exact this.symm
theorem zVx {a:Nat} {x:UInt8} (h:a<72057594037927936):qTb .or .u64 ((256*a:Nat):Int) .u64 (x.toNat:Int)=some (.int .u64 ((256*a+x.toNat:Nat):Int)):=by
 have hx:=x.toNat_lt
 change some (T.int .u64 (IntKind.u64.wrap ((BitVec.ofInt 64 ((256*a:Nat):Int) ||| BitVec.ofInt 64 (x.toNat:Int)).toNat:Int)))=_
 have e:(BitVec.ofInt 64 ((256*a:Nat):Int) ||| BitVec.ofInt 64 (x.toNat:Int)).toNat=256*a+x.toNat:=by
  rw[BitVec.toNat_or,BitVec.toNat_ofInt,BitVec.toNat_ofInt,Int.emod_eq_of_lt (by omega) (by omega),Int.emod_eq_of_lt (by omega) (by omega),Int.toNat_natCast,Int.toNat_natCast,or8 (by omega)]
 rw[e,qGh (by omega)]
attribute [go_sem ↓] qVy qVw zRn zVx
theorem qCj {bs:List UInt8}:bsT bs = .sl (bs.map qA):=Eq.trans (Eq.refl _) rfl
theorem jJ1 {l:List (List UInt8)} {i:Nat} (h:i<l.length):l[i]?=some (l.getD i []):=by simp[List.getD,h]
theorem jJ0 {l:List (List (List UInt8))} {i:Nat} (h:i<l.length):l[i]?=some (l.getD i []):=by simp[List.getD,h]
theorem zBo {l:List (List UInt8)} {x:List UInt8} {r:List T}:List.map bsT l++T.sl (List.map qA x)::r=List.map bsT (l++[x])++r:=by simp[bsT]
theorem zYe {l:List (List UInt8)}:qVd 1 (l.map bsT)=true:=qXv (f:=bsT) (fun _=>rfl)
theorem zLj {l:List (List UInt8)}:qS9 ((l.map bsT).map V.t)=true:=qV9 (f:=bsT) (fun _=>rfl)
theorem zUb {a b:List UInt8} (h:bsT a=bsT b):a=b:=by
 have:=congrArg dBs h
 rw[bsT,bsT,qYs,qYs] at this
 exact Option.some.inj this
theorem qA6 {l m:List (List UInt8)}:(l.map bsT=m.map bsT)=(l=m):=propext ⟨kJ (fun _ _=>zUb),fun h=>by rw[h]⟩
theorem zN1 {ts:List T} {r:List V}:qE7 (ts.map .t++r)=(qE7 r).map (ts ++ ·):=by
 induction ts with
 | nil=>simp[Option.map_id']
 | cons x l ih=>
  rw[List.map_cons,List.cons_append,qQj,ih,Option.map_map]
  rfl
attribute [go_sem] zN1
attribute [go_sem] qCj zBo zYe zLj
end Go.Eng
end
section
namespace Go.Eng
theorem zEf {ts:List T} {i:Nat} {v:V} (h:i<ts.length) (hv : ∀ x,v≠ .t x):qE7 ((ts.map .t).set i v)=none:=by
 induction ts generalizing i with
 | nil=>simp at h
 | cons x r ih=>
  cases i with
  | zero=>
   rw[List.map_cons,List.set_cons_zero]
   cases v with
   | t y=>exact absurd rfl (hv y)
   | _=>rfl
  | succ i=>
   rw[List.map_cons,List.set_cons_succ,qQj,ih (by simpa using h)]
   rfl
theorem zBf {ts:List T} {i id off len:Nat} (h:i<ts.length):qE7 ((ts.map .t).set i (.sl id off len))=none:=zEf h (by simp)
theorem qX3 {ts:List T} {i:Nat} {cs:List V} (h:i<ts.length):qE7 ((ts.map .t).set i (.agg cs))=none:=zEf h (by simp)
theorem zWd {n:Nat} {ts:List T} {i:Nat} {v:V} (h:i<ts.length):rdL (rdV n) ((ts.map .t).set i v)=(rdV n v).bind fun x=> .ret ((ts.map .t).set i x):=by
 induction ts generalizing i with
 | nil=>simp at h
 | cons x r ih=>
  cases i with
  | zero=>rw[List.map_cons,List.set_cons_zero,qWj,jAn];rfl
  | succ i=>
   rw[List.map_cons,List.set_cons_succ,qWj,zWh,ih (by simpa using h),qPo,qEo]
   rfl
theorem zJq {n:Nat} {ts:List T}:qDk (zN n) (ts.map .t) = .ret (ts.map .t,[]):=by
 induction ts with
 | nil=>rfl
 | cons x r ih=>rw[List.map_cons,qIl,zJr,qPo,ih,qPo];rfl
theorem zJp {n:Nat} {ts:List T} {i:Nat} {v:V} (h:i<ts.length):qDk (zN n) ((ts.map .t).set i v)=(zN n v).bind fun p=> .ret ((ts.map .t).set i p.1,p.2):=by
 induction ts generalizing i with
 | nil=>simp at h
 | cons x r ih=>
  cases i with
  | zero=>
   rw[List.map_cons,List.set_cons_zero,qIl,zJq]
   simp[Q.bind]
  | succ i=>
   rw[List.map_cons,List.set_cons_succ,qIl,zJr,qPo,ih (by simpa using h),qEo]
   rfl
theorem zP5 {es:List V} {i:Nat} {v:V} (h:qS9 es=true) (hv:v.single=true):qS9 (es.set i v)=true:=by
 simp only[qS9,List.all_eq_true] at *
 intro x hx
 rcases List.mem_or_eq_of_mem_set hx with h1 | rfl
 ·exact h x h1
 ·exact hv
theorem zCr {l:List (List UInt8)} {i id off len:Nat}:qS9 (((l.map bsT).map V.t).set i (.sl id off len))=true:=zP5 zLj rfl
theorem zYx {l:List (List UInt8)} {i:Nat} {x:List UInt8}:List.set (List.map bsT l) i (T.sl (List.map qA x))=List.map bsT (l.set i x):=by
 rw[List.map_set];rfl
attribute [go_sem] zBf qX3 zWd zJq zJp zCr zYx
theorem jQ {tab:Tab} {gl:Gl} {a:AC} {fs fs':Fs} {hs hs':Hs} {Qx:qD2} (h:qI fs hs fs' hs') (hl:qIv tab gl a fs' hs' Qx):qIv tab gl a fs hs Qx:=by
 obtain⟨ι,I,μ,i0,h0,hr⟩:=hl
 exact⟨ι,I,μ,i0,h.trans h0,hr⟩
end Go.Eng
end
section
namespace Go.Eng
theorem wL {α:Type}:(∀ (n:Nat) (l:List α),(l.take n).length=min n l.length)∧(∀ (n:Nat) (l:List α),(l.drop n).length=l.length-n)∧(∀ (l m:List α),(l++m).length=l.length+m.length)∧(∀ (a:α) (l:List α),(a::l).length=l.length+1)∧(([]:List α).length=0)∧(∀ (n:Nat) (a:α),(List.replicate n a).length=n)∧(∀ (l:List α) (n:Nat) (a:α),(l.set n a).length=l.length):=by simp
theorem wK {α γ:Type} (f:α→γ) (l:List α):(l.map f).length=l.length:=List.length_map f
attribute [go_sem] Bool.false_eq_true Int.toNat_natCast Bool.and_self false_and and_false or_true true_or or_false false_or Bool.or_self Bool.or_true Bool.true_or Bool.or_false Bool.false_or Bool.and_false Bool.false_and not_true_eq_false not_false_eq_true and_self List.length_append List.length_set List.take_length Option.getD_some Option.getD_none false_implies implies_true Option.some.injEq forall_eq_apply_imp_iff forall_eq forall_eq' List.length_drop List.length_take List.getElem?_drop Nat.mul_one Nat.one_mul Nat.zero_add Nat.add_zero Nat.sub_zero Nat.add_sub_cancel_left Nat.add_sub_cancel jK6 jK8 jK7 qZc zCl zJw zM1 zRl zO3 jJz jDo jJ1 jJ0 zZ5 zVk zPw zZ7 zVm zVo zVr zVq zVl jBk Nat.min_eq_left Nat.min_eq_right zZ8 zVp zVn zZ6 Int.cast_ofNat_Int Int.natCast_zero Int.natCast_one
variable {tab:Tab} {gl:Gl} {fs:Fs} {hs:Hs} {Qx:qD2} {fm:Nat→Option V} {nb:Nat} {K:V×Wr→List Nat→Prop}
def mv (d s:Nat):jA:=⟨some d,.op .mov,[.tmp s],none⟩
theorem jKb {d s:Nat}:((mv d s).q tab gl fm nb).wp hs K=((⟨some d,.op .mov,[.tmp s],none⟩:jA).q tab gl fm nb).wp hs K:=Eq.trans (Eq.refl _) rfl
theorem jKa {d s:Nat}:(mv d s).dst=some d:=Eq.trans (Eq.refl _) rfl
def mG (d s t:Nat):jA:=⟨some d,.op .mov,[.tmp s],some (t,true)⟩
theorem jJ9 {d s t:Nat}:((mG d s t).q tab gl fm nb).wp hs K=((⟨some d,.op .mov,[.tmp s],some (t,true)⟩:jA).q tab gl fm nb).wp hs K:=Eq.trans (Eq.refl _) rfl
theorem jJ8 {d s t:Nat}:(mG d s t).dst=some d:=Eq.trans (Eq.refl _) rfl
def mC (d:Nat) (v:V):jA:=⟨some d,.op .mov,[.cst v],none⟩
theorem jJ5 {d:Nat} {v:V}:((mC d v).q tab gl fm nb).wp hs K=((⟨some d,.op .mov,[.cst v],none⟩:jA).q tab gl fm nb).wp hs K:=Eq.trans (Eq.refl _) rfl
theorem jJ4 {d:Nat} {v:V}:(mC d v).dst=some d:=Eq.trans (Eq.refl _) rfl
def oO (d:Nat) (a:AO) (xs:List qE8):jA:=⟨some d,.op a,xs,none⟩
theorem jKh {d:Nat} {a:AO} {xs:List qE8}:((oO d a xs).q tab gl fm nb).wp hs K=((⟨some d,.op a,xs,none⟩:jA).q tab gl fm nb).wp hs K:=Eq.trans (Eq.refl _) rfl
theorem jKg {d:Nat} {a:AO} {xs:List qE8}:(oO d a xs).dst=some d:=Eq.trans (Eq.refl _) rfl
def oG (d t:Nat) (a:AO) (xs:List qE8):jA:=⟨some d,.op a,xs,some (t,true)⟩
theorem jKf {d t:Nat} {a:AO} {xs:List qE8}:((oG d t a xs).q tab gl fm nb).wp hs K=((⟨some d,.op a,xs,some (t,true)⟩:jA).q tab gl fm nb).wp hs K:=Eq.trans (Eq.refl _) rfl
theorem jKe {d t:Nat} {a:AO} {xs:List qE8}:(oG d t a xs).dst=some d:=Eq.trans (Eq.refl _) rfl
def bT (d:Nat) (o:BinOp) (x y:Nat):jA:=⟨some d,.op (.bin o),[.tmp x,.tmp y],none⟩
theorem jJs {d:Nat} {o:BinOp} {x y:Nat}:((bT d o x y).q tab gl fm nb).wp hs K=((⟨some d,.op (.bin o),[.tmp x,.tmp y],none⟩:jA).q tab gl fm nb).wp hs K:=Eq.trans (Eq.refl _) rfl
theorem jJr {d:Nat} {o:BinOp} {x y:Nat}:(bT d o x y).dst=some d:=Eq.trans (Eq.refl _) rfl
def bN (d:Nat) (o:BinOp) (x:Nat) (n:Int):jA:=⟨some d,.op (.bin o),[.tmp x,.cst (.t (.int .i64 n))],none⟩
theorem jJq {d:Nat} {o:BinOp} {x:Nat} {n:Int}:((bN d o x n).q tab gl fm nb).wp hs K=((⟨some d,.op (.bin o),[.tmp x,.cst (.t (.int .i64 n))],none⟩:jA).q tab gl fm nb).wp hs K:=Eq.trans (Eq.refl _) rfl
theorem jJp {d:Nat} {o:BinOp} {x:Nat} {n:Int}:(bN d o x n).dst=some d:=Eq.trans (Eq.refl _) rfl
def cL (d f:Nat) (k:Bool) (xs:List qE8):jA:=⟨some d,.call f k,xs,none⟩
theorem jJy {d f:Nat} {k:Bool} {xs:List qE8}:((cL d f k xs).q tab gl fm nb).wp hs K=((⟨some d,.call f k,xs,none⟩:jA).q tab gl fm nb).wp hs K:=Eq.trans (Eq.refl _) rfl
theorem jJx {d f:Nat} {k:Bool} {xs:List qE8}:(cL d f k xs).dst=some d:=Eq.trans (Eq.refl _) rfl
def mF (d s t:Nat):jA:=⟨some d,.op .mov,[.tmp s],some (t,false)⟩
theorem jJ7 {d s t:Nat}:((mF d s t).q tab gl fm nb).wp hs K=((⟨some d,.op .mov,[.tmp s],some (t,false)⟩:jA).q tab gl fm nb).wp hs K:=Eq.trans (Eq.refl _) rfl
theorem jJ6 {d s t:Nat}:(mF d s t).dst=some d:=Eq.trans (Eq.refl _) rfl
def oF (d t:Nat) (a:AO) (xs:List qE8):jA:=⟨some d,.op a,xs,some (t,false)⟩
theorem jKd {d t:Nat} {a:AO} {xs:List qE8}:((oF d t a xs).q tab gl fm nb).wp hs K=((⟨some d,.op a,xs,some (t,false)⟩:jA).q tab gl fm nb).wp hs K:=Eq.trans (Eq.refl _) rfl
theorem jKc {d t:Nat} {a:AO} {xs:List qE8}:(oF d t a xs).dst=some d:=Eq.trans (Eq.refl _) rfl
def cG (d t f:Nat) (k:Bool) (xs:List qE8):jA:=⟨some d,.call f k,xs,some (t,true)⟩
theorem jJw {d t f:Nat} {k:Bool} {xs:List qE8}:((cG d t f k xs).q tab gl fm nb).wp hs K=((⟨some d,.call f k,xs,some (t,true)⟩:jA).q tab gl fm nb).wp hs K:=Eq.trans (Eq.refl _) rfl
theorem jJv {d t f:Nat} {k:Bool} {xs:List qE8}:(cG d t f k xs).dst=some d:=Eq.trans (Eq.refl _) rfl
def cF (d t f:Nat) (k:Bool) (xs:List qE8):jA:=⟨some d,.call f k,xs,some (t,false)⟩
theorem jJu {d t f:Nat} {k:Bool} {xs:List qE8}:((cF d t f k xs).q tab gl fm nb).wp hs K=((⟨some d,.call f k,xs,some (t,false)⟩:jA).q tab gl fm nb).wp hs K:=Eq.trans (Eq.refl _) rfl
theorem jJt {d t f:Nat} {k:Bool} {xs:List qE8}:(cF d t f k xs).dst=some d:=Eq.trans (Eq.refl _) rfl
attribute [go_sem ↓] jJ7 jKd jJw jJu
attribute [go_sem] jJ6 jKc jJv jJt
def oS (n x y:Nat):jA:=⟨none,.op (.store n),[.tmp x,.tmp y],none⟩
theorem jKj {n x y:Nat}:((oS n x y).q tab gl fm nb).wp hs K=((⟨none,.op (.store n),[.tmp x,.tmp y],none⟩:jA).q tab gl fm nb).wp hs K:=Eq.trans (Eq.refl _) rfl
theorem jKi {n x y:Nat}:(oS n x y).dst=none:=Eq.trans (Eq.refl _) rfl
def rG (nb:Nat) (os:List jA):AC:= .reg nb none os
theorem jKk {os:List jA}:(rG nb os).wp tab gl fs hs Qx=(AC.reg nb none os).wp tab gl fs hs Qx:=Eq.trans (Eq.refl _) rfl
attribute [go_sem ↓] jKk jKb jJ9 jJ5 jKh jKf jJs jJq jJy jKj
attribute [go_sem] jKa jJ8 jJ4 jKg jKe jJr jJp jJx jKi
end Go.Eng
end
section
namespace Go.Eng
def qBs:AC:=
 (.seq
 (rG 4096 [mC 2 (.t (.int .i64 0))])
 (.seq
 (.seq
 (rG 8192 [mv 3 0])
 (.block 0
 (.seq
 (rG 12288 [bN 5 .eql 3 0,mv 4 5])
 (.cond (.tmp 4)
 (.seq
 (rG 16384 [mC 2 (.t (.int .i64 20))])
 .ret)
 (.seq
 (rG 20480 [bN 7 .eql 3 1,mv 6 7])
 (.cond (.tmp 6)
 (.seq
 (rG 24576 [mC 2 (.t (.int .i64 32))])
 .ret)
 .skip))))))
 (.seq
 (rG 28672 [mC 2 (.t (.int .i64 0))])
 .ret)))
def qCa:AC:=
 (.seq
 (.seq
 (rG 12288 [mv 14 3,oO 15 .len [.tmp 14],bN 16 .rem 15 64,bN 17 .neq 16 56])
 (.cond (.tmp 17)
 .skip
 (.exit 0)))
 (.block 1
 (rG 16384 [mv 18 3,oO 19 (.bslice 1 1 (.t (qA 0)) [0]) [.cst (.t (qA 0))],oO 20 (.append 1 1) [.tmp 18,.tmp 19],mv 3 20])))
def qCb:AC:=
 (.seq
 (.seq
 (rG 28672 [mv 25 5,bN 26 .geq 25 0])
 (.cond (.tmp 26)
 .skip
 (.exit 2)))
 (.seq
 (.block 3
 (rG 36864 [mv 29 3,mv 30 4,mv 31 5,oO 32 (.conv .u64) [.tmp 31],bT 33 .shr 30 32,oO 34 (.conv .u8) [.tmp 33],oO 35 (.bslice 1 1 (.t (qA 0)) [0]) [.tmp 34],oO 36 (.append 1 1) [.tmp 29,.tmp 35],mv 3 36]))
 (rG 32768 [mv 27 5,bN 28 .sub 27 8,mv 5 28])))
def qK2:AC:=
 (.seq
 (rG 4096 [mC 2 .nil])
 (.seq
 (rG 8192 [mv 6 0,oO 7 .len [.tmp 6],bN 8 .add 7 72,oO 9 (.mkslice 1 1 (.t (qA 0))) [.cst (.t (.int .i64 0)),.tmp 8],mv 10 0,oO 11 (.append 1 1) [.tmp 9,.tmp 10],oO 12 (.bslice 1 1 (.t (qA 0)) [0]) [.cst (.t (qA 128))],oO 13 (.append 1 1) [.tmp 11,.tmp 12],mv 3 13])
 (.seq
 (.block 0
 (.loop qCa))
 (.seq
 (rG 20480 [mv 21 0,oO 22 .len [.tmp 21],oO 23 (.conv .u64) [.tmp 22],oO 24 (.bin .mul) [.tmp 23,.cst (.t (.int .u64 8))],mv 4 24])
 (.seq
 (.seq
 (rG 24576 [mC 5 (.t (.int .i64 56))])
 (.block 2
 (.loop qCb)))
 (.seq
 (rG 40960 [mv 37 3,mv 2 37])
 .ret))))))
def qI4:AC:=
 (.seq
 (rG 4096 [mC 4 (.t (qP 0))])
 (.seq
 (.reg 8192 (some [0,0,2,7,15,31,63,0,0,256,768,1920,3968,8064,16256,32767,0,0,131072,393216,983040,2031616,4128768,8323072,16777215,0,0,67108864,201326592,503316480,1040187392,2113929216,4294967295,8589934591]) [mv 5 0,mv 6 1,oO 7 (.bin .mul) [.cst (.t (.int .i64 4)),.tmp 6],oO 8 (.iaddr 1) [.tmp 5,.tmp 7],oO 9 (.load 1 false) [.tmp 8],oO 10 (.conv .u32) [.tmp 9],oO 11 (.bin .shl) [.tmp 10,.cst (.t (.int .u64 24))],mv 12 0,mv 13 1,oO 14 (.bin .mul) [.cst (.t (.int .i64 4)),.tmp 13],bN 15 .add 14 1,oO 16 (.iaddr 1) [.tmp 12,.tmp 15],oO 17 (.load 1 false) [.tmp 16],oO 18 (.conv .u32) [.tmp 17],oO 19 (.bin .shl) [.tmp 18,.cst (.t (.int .u64 16))],bT 20 .or 11 19,mv 21 0,mv 22 1,oO 23 (.bin .mul) [.cst (.t (.int .i64 4)),.tmp 22],bN 24 .add 23 2,oO 25 (.iaddr 1) [.tmp 21,.tmp 24],oO 26 (.load 1 false) [.tmp 25],oO 27 (.conv .u32) [.tmp 26],oO 28 (.bin .shl) [.tmp 27,.cst (.t (.int .u64 8))],bT 29 .or 20 28,mv 30 0,mv 31 1,oO 32 (.bin .mul) [.cst (.t (.int .i64 4)),.tmp 31],bN 33 .add 32 3,oO 34 (.iaddr 1) [.tmp 30,.tmp 33],oO 35 (.load 1 false) [.tmp 34],oO 36 (.conv .u32) [.tmp 35],bT 37 .or 29 36,mv 4 37])
 .ret))
def qAc:AC:=
 (.seq
 (rG 16384 [bT 13 .lss 12 11])
 (.seq
 (.cond (.tmp 13)
 .skip
 (.exit 0))
 (.seq
 (.block 1
 (.seq
 (rG 20480 [oO 14 (.iaddr 1) [.tmp 10,.tmp 12],oO 15 (.load 1 false) [.tmp 14],mv 5 15])
 (rG 24576 [mv 16 3,mv 17 5,oO 18 (.bin .shr) [.tmp 17,.cst (.t (.int .u64 24))],oO 19 (.conv .u8) [.tmp 18],mv 20 5,oO 21 (.bin .shr) [.tmp 20,.cst (.t (.int .u64 16))],oO 22 (.conv .u8) [.tmp 21],mv 23 5,oO 24 (.bin .shr) [.tmp 23,.cst (.t (.int .u64 8))],oO 25 (.conv .u8) [.tmp 24],mv 26 5,oO 27 (.conv .u8) [.tmp 26],oO 28 (.bslice 1 4 (.t (qA 0)) [0,1,2,3]) [.tmp 19,.tmp 22,.tmp 25,.tmp 27],oO 29 (.append 1 1) [.tmp 16,.tmp 28],mv 3 29])))
 (rG 28672 [bN 30 .add 12 1,mv 12 30]))))
def qGi:AC:=
 (.seq
 (rG 4096 [mC 2 .nil])
 (.seq
 (rG 8192 [mv 6 0,oO 7 .len [.tmp 6],oO 8 (.bin .mul) [.cst (.t (.int .i64 4)),.tmp 7],oO 9 (.mkslice 1 1 (.t (qA 0))) [.cst (.t (.int .i64 0)),.tmp 8],mv 3 9])
 (.seq
 (.seq
 (rG 12288 [mv 10 0,oO 11 .len [.tmp 10],mC 12 (.t (.int .i64 0))])
 (.block 0
 (.loop qAc)))
 (.seq
 (rG 32768 [mv 31 3,mv 2 31])
 .ret))))
def yR (n_digest_word n_bits_RotateLeft32:Nat):AC:=
 (.seq
 (rG 12288 [bN 18 .lss 17 64])
 (.seq
 (.cond (.tmp 18)
 .skip
 (.exit 0))
 (.seq
 (.block 1
 (.seq
 (rG 16384 [mv 19 17,mv 5 19])
 (.seq
 (.seq
 (rG 20480 [mv 20 5,bN 21 .lss 20 16])
 (.cond (.tmp 21)
 (.seq
 (rG 24576 [mv 22 5,mv 23 1,mv 24 5,cL 25 n_digest_word false [.tmp 23,.tmp 24],oO 26 (.aaddr 64 1) [.tmp 4,.tmp 22],oS 1 26 25])
 (.exit 1))
 .skip))
 (.seq
 (.reg 28672 (some [0,1,3,7,0,16,48,112,15,511]) [mv 27 5,bN 28 .sub 27 15,oO 29 (.aaddr 64 1) [.tmp 4,.tmp 28],oO 30 (.load 1 false) [.tmp 29],mv 31 5,bN 32 .sub 31 2,oO 33 (.aaddr 64 1) [.tmp 4,.tmp 32],oO 34 (.load 1 false) [.tmp 33],mv 6 30,mv 7 34])
 (.seq
 (rG 32768 [mv 35 6,cL 36 n_bits_RotateLeft32 false [.tmp 35,.cst (.t (.int .i64 (-7)))],mv 37 6,cL 38 n_bits_RotateLeft32 false [.tmp 37,.cst (.t (.int .i64 (-18)))],bT 39 .xor 36 38,mv 40 6,oO 41 (.bin .shr) [.tmp 40,.cst (.t (.int .u64 3))],bT 42 .xor 39 41,mv 8 42])
 (.seq
 (rG 36864 [mv 43 7,cL 44 n_bits_RotateLeft32 false [.tmp 43,.cst (.t (.int .i64 (-17)))],mv 45 7,cL 46 n_bits_RotateLeft32 false [.tmp 45,.cst (.t (.int .i64 (-19)))],bT 47 .xor 44 46,mv 48 7,oO 49 (.bin .shr) [.tmp 48,.cst (.t (.int .u64 10))],bT 50 .xor 47 49,mv 9 50])
 (.reg 40960 (some [0,0,0,4,12,28,62,0,254,0,512,1536,3584,8190,16383,32767]) [mv 51 5,mv 52 9,mv 53 5,bN 54 .sub 53 7,oO 55 (.aaddr 64 1) [.tmp 4,.tmp 54],oO 56 (.load 1 false) [.tmp 55],bT 57 .add 52 56,mv 58 8,bT 59 .add 57 58,mv 60 5,bN 61 .sub 60 16,oO 62 (.aaddr 64 1) [.tmp 4,.tmp 61],oO 63 (.load 1 false) [.tmp 62],bT 64 .add 59 63,oO 65 (.aaddr 64 1) [.tmp 4,.tmp 51],oS 1 65 64])))))))
 (rG 45056 [bN 66 .add 17 1,mv 17 66]))))
def wD (n_bits_RotateLeft32 g_digest_round256:Nat):AC:=
 (.seq
 (rG 57344 [bN 71 .lss 70 64])
 (.seq
 (.cond (.tmp 71)
 .skip
 (.exit 2))
 (.seq
 (.block 3
 (.seq
 (rG 61440 [mv 72 70,mv 11 72])
 (.seq
 (.reg 65536 (some [0,1,0,4,3,31]) [oO 73 (.aaddr 8 1) [.tmp 10,.cst (.t (.int .i64 0))],oO 74 (.load 1 false) [.tmp 73],oO 75 (.aaddr 8 1) [.tmp 10,.cst (.t (.int .i64 4))],oO 76 (.load 1 false) [.tmp 75],mv 12 74,mv 13 76])
 (.seq
 (.reg 69632 (some [0,1,0,4,0,28,60,0,188,508,1023,0,0,4096,14336,0,32768,0,131072,491520,1046528,2097151,0,4194304,12582912,33554431,0,67108864,201326592,536870911,1073741823]) [oO 77 (.aaddr 8 1) [.tmp 10,.cst (.t (.int .i64 7))],oO 78 (.load 1 false) [.tmp 77],mv 79 13,cL 80 n_bits_RotateLeft32 false [.tmp 79,.cst (.t (.int .i64 (-6)))],mv 81 13,cL 82 n_bits_RotateLeft32 false [.tmp 81,.cst (.t (.int .i64 (-11)))],bT 83 .xor 80 82,mv 84 13,cL 85 n_bits_RotateLeft32 false [.tmp 84,.cst (.t (.int .i64 (-25)))],bT 86 .xor 83 85,bT 87 .add 78 86,mv 88 13,oO 89 (.aaddr 8 1) [.tmp 10,.cst (.t (.int .i64 5))],oO 90 (.load 1 false) [.tmp 89],bT 91 .and 88 90,mv 92 13,oO 93 (.un .xor) [.tmp 92],oO 94 (.aaddr 8 1) [.tmp 10,.cst (.t (.int .i64 6))],oO 95 (.load 1 false) [.tmp 94],bT 96 .and 93 95,bT 97 .xor 91 96,bT 98 .add 87 97,mv 99 11,oO 100 (.aaddr 64 1) [.glob g_digest_round256,.tmp 99],oO 101 (.load 1 false) [.tmp 100],bT 102 .add 98 101,mv 103 11,oO 104 (.aaddr 64 1) [.tmp 4,.tmp 103],oO 105 (.load 1 false) [.tmp 104],bT 106 .add 102 105,mv 14 106])
 (.seq
 (.reg 73728 (some [0,1,0,7,15,0,47,127,0,0,512,1792,0,0,8192,28672,65280,0,131072,0,524288,1966080,4194048,8388607,16777215]) [mv 107 12,cL 108 n_bits_RotateLeft32 false [.tmp 107,.cst (.t (.int .i64 (-2)))],mv 109 12,cL 110 n_bits_RotateLeft32 false [.tmp 109,.cst (.t (.int .i64 (-13)))],bT 111 .xor 108 110,mv 112 12,cL 113 n_bits_RotateLeft32 false [.tmp 112,.cst (.t (.int .i64 (-22)))],bT 114 .xor 111 113,mv 115 12,oO 116 (.aaddr 8 1) [.tmp 10,.cst (.t (.int .i64 1))],oO 117 (.load 1 false) [.tmp 116],bT 118 .and 115 117,mv 119 12,oO 120 (.aaddr 8 1) [.tmp 10,.cst (.t (.int .i64 2))],oO 121 (.load 1 false) [.tmp 120],bT 122 .and 119 121,bT 123 .xor 118 122,oO 124 (.aaddr 8 1) [.tmp 10,.cst (.t (.int .i64 1))],oO 125 (.load 1 false) [.tmp 124],oO 126 (.aaddr 8 1) [.tmp 10,.cst (.t (.int .i64 2))],oO 127 (.load 1 false) [.tmp 126],bT 128 .and 125 127,bT 129 .xor 123 128,bT 130 .add 114 129,mv 15 130])
 (rG 77824 [mv 131 14,mv 132 15,bT 133 .add 131 132,oO 134 (.aaddr 8 1) [.tmp 10,.cst (.t (.int .i64 0))],oO 135 (.load 1 false) [.tmp 134],oO 136 (.aaddr 8 1) [.tmp 10,.cst (.t (.int .i64 1))],oO 137 (.load 1 false) [.tmp 136],oO 138 (.aaddr 8 1) [.tmp 10,.cst (.t (.int .i64 2))],oO 139 (.load 1 false) [.tmp 138],oO 140 (.aaddr 8 1) [.tmp 10,.cst (.t (.int .i64 3))],oO 141 (.load 1 false) [.tmp 140],mv 142 14,bT 143 .add 141 142,oO 144 (.aaddr 8 1) [.tmp 10,.cst (.t (.int .i64 4))],oO 145 (.load 1 false) [.tmp 144],oO 146 (.aaddr 8 1) [.tmp 10,.cst (.t (.int .i64 5))],oO 147 (.load 1 false) [.tmp 146],oO 148 (.aaddr 8 1) [.tmp 10,.cst (.t (.int .i64 6))],oO 149 (.load 1 false) [.tmp 148],oO 150 (.build [(.t (qP 0)),(.t (qP 0)),(.t (qP 0)),(.t (qP 0)),(.t (qP 0)),(.t (qP 0)),(.t (qP 0)),(.t (qP 0))] [(0,1),(1,1),(2,1),(3,1),(4,1),(5,1),(6,1),(7,1)]) [.tmp 133,.tmp 135,.tmp 137,.tmp 139,.tmp 143,.tmp 145,.tmp 147,.tmp 149],oS 8 10 150]))))))
 (rG 81920 [bN 151 .add 70 1,mv 70 151]))))
def wE:AC:=
 (.seq
 (rG 90112 [bN 153 .lss 152 8])
 (.seq
 (.cond (.tmp 153)
 .skip
 (.exit 4))
 (.seq
 (.block 5
 (.seq
 (rG 94208 [mv 154 152,mv 16 154])
 (.reg 98304 (some [0,0,1,7,15,0,32,96,255,1,1023,2047]) [mv 155 0,mv 156 16,oO 157 .nilchk [.tmp 155],oO 158 (.aaddr 8 1) [.tmp 157,.tmp 156],oO 159 (.load 1 false) [.tmp 158],mv 160 16,oO 161 (.aaddr 8 1) [.tmp 10,.tmp 160],oO 162 (.load 1 false) [.tmp 161],bT 163 .add 159 162,oO 164 .nilchk [.tmp 155],oO 165 (.aaddr 8 1) [.tmp 164,.tmp 156],oS 1 165 163])))
 (rG 102400 [bN 166 .add 152 1,mv 152 166]))))
def qBv (n_digest_word n_bits_RotateLeft32 g_digest_round256:Nat):AC:=
 (.seq
 (rG 4096 [oO 4 (.new 1 (List.replicate 64 (.t (qP 0)))) []])
 (.seq
 (.seq
 (rG 8192 [mC 17 (.t (.int .i64 0))])
 (.block 0
 (.loop (yR n_digest_word n_bits_RotateLeft32))))
 (.seq
 (rG 49152 [mv 67 0,oO 68 .nilchk [.tmp 67],oO 69 (.load 8 true) [.tmp 68],oO 10 (.new 1 [(.t (qP 0)),(.t (qP 0)),(.t (qP 0)),(.t (qP 0)),(.t (qP 0)),(.t (qP 0)),(.t (qP 0)),(.t (qP 0))]) [],oS 8 10 69])
 (.seq
 (.seq
 (rG 53248 [mC 70 (.t (.int .i64 0))])
 (.block 2
 (.loop (wD n_bits_RotateLeft32 g_digest_round256))))
 (.seq
 (rG 86016 [mC 152 (.t (.int .i64 0))])
 (.block 4
 (.loop wE)))))))
def vQ (n_digest_word n_bits_RotateLeft32:Nat):AC:=
 (.seq
 (rG 12288 [bN 15 .lss 14 80])
 (.seq
 (.cond (.tmp 15)
 .skip
 (.exit 0))
 (.seq
 (.block 1
 (.seq
 (rG 16384 [mv 16 14,mv 5 16])
 (.seq
 (rG 20480 [mv 17 5,bN 18 .lss 17 16])
 (.cond (.tmp 18)
 (rG 24576 [mv 19 5,mv 20 1,mv 21 5,cL 22 n_digest_word false [.tmp 20,.tmp 21],oO 23 (.aaddr 80 1) [.tmp 4,.tmp 19],oS 1 23 22])
 (.reg 28672 (some [0,0,2,6,14,0,32,96,224,510,0,1024,3072,7168,16382,0,32768,98304,229376,524286,1048574,2097151,4194303]) [mv 24 5,mv 25 5,bN 26 .sub 25 3,oO 27 (.aaddr 80 1) [.tmp 4,.tmp 26],oO 28 (.load 1 false) [.tmp 27],mv 29 5,bN 30 .sub 29 8,oO 31 (.aaddr 80 1) [.tmp 4,.tmp 30],oO 32 (.load 1 false) [.tmp 31],bT 33 .xor 28 32,mv 34 5,bN 35 .sub 34 14,oO 36 (.aaddr 80 1) [.tmp 4,.tmp 35],oO 37 (.load 1 false) [.tmp 36],bT 38 .xor 33 37,mv 39 5,bN 40 .sub 39 16,oO 41 (.aaddr 80 1) [.tmp 4,.tmp 40],oO 42 (.load 1 false) [.tmp 41],bT 43 .xor 38 42,cL 44 n_bits_RotateLeft32 false [.tmp 43,.cst (.t (.int .i64 1))],oO 45 (.aaddr 80 1) [.tmp 4,.tmp 24],oS 1 45 44])))))
 (rG 32768 [bN 46 .add 14 1,mv 14 46]))))
def jK (n_bits_RotateLeft32:Nat):AC:=
 (.seq
 (rG 45056 [bN 68 .lss 67 80])
 (.seq
 (.cond (.tmp 68)
 .skip
 (.exit 2))
 (.seq
 (.block 3
 (.seq
 (rG 49152 [mv 69 67,mv 11 69])
 (.seq
 (rG 53248 [mC 12 (.t (qP 0)),mC 13 (.t (qP 0))])
 (.seq
 (.seq
 (rG 57344 [mv 70 11,bN 71 .quo 70 20])
 (.block 4
 (.seq
 (rG 65536 [bN 78 .eql 71 0,mv 77 78])
 (.cond (.tmp 77)
 (rG 69632 [mv 79 7,mv 80 8,bT 81 .and 79 80,mv 82 7,oO 83 (.un .xor) [.tmp 82],mv 84 9,bT 85 .and 83 84,bT 86 .xor 81 85,mv 12 86,mC 13 (.t (qP 1518500249))])
 (.seq
 (rG 73728 [bN 88 .eql 71 1,mv 87 88])
 (.cond (.tmp 87)
 (rG 77824 [mv 89 7,mv 90 8,bT 91 .xor 89 90,mv 92 9,bT 93 .xor 91 92,mv 12 93,mC 13 (.t (qP 1859775393))])
 (.seq
 (rG 81920 [bN 95 .eql 71 2,mv 94 95])
 (.cond (.tmp 94)
 (rG 86016 [mv 96 7,mv 97 8,bT 98 .and 96 97,mv 99 7,mv 100 9,bT 101 .and 99 100,bT 102 .xor 98 101,mv 103 8,mv 104 9,bT 105 .and 103 104,bT 106 .xor 102 105,mv 12 106,mC 13 (.t (qP 2400959708))])
 (rG 61440 [mv 72 7,mv 73 8,bT 74 .xor 72 73,mv 75 9,bT 76 .xor 74 75,mv 12 76,mC 13 (.t (qP 3395469782))])))))))))
 (.reg 90112 (some [0,1,0,7,0,31,0,127,0,256,768,2047,0,0,8195,0,0,131071,262143,524287,1048575,2097151]) [mv 107 6,cL 108 n_bits_RotateLeft32 false [.tmp 107,.cst (.t (.int .i64 5))],mv 109 12,bT 110 .add 108 109,mv 111 10,bT 112 .add 110 111,mv 113 13,bT 114 .add 112 113,mv 115 11,oO 116 (.aaddr 80 1) [.tmp 4,.tmp 115],oO 117 (.load 1 false) [.tmp 116],bT 118 .add 114 117,mv 119 6,mv 120 7,cL 121 n_bits_RotateLeft32 false [.tmp 120,.cst (.t (.int .i64 30))],mv 122 8,mv 123 9,mv 6 118,mv 7 119,mv 8 121,mv 9 122,mv 10 123])))))
 (rG 94208 [bN 124 .add 67 1,mv 67 124]))))
def qAb (n_digest_word n_bits_RotateLeft32:Nat):AC:=
 (.seq
 (rG 4096 [oO 4 (.new 1 (List.replicate 80 (.t (qP 0)))) []])
 (.seq
 (.seq
 (rG 8192 [mC 14 (.t (.int .i64 0))])
 (.block 0
 (.loop (vQ n_digest_word n_bits_RotateLeft32))))
 (.seq
 (.reg 36864 (some [0,1,3,7,0,16,48,112,0,256,768,1792,0,4096,12288,28672,0,65536,196608,458752,15,1048831,3149823,7405567,16777215]) [mv 47 0,oO 48 .nilchk [.tmp 47],oO 49 (.aaddr 5 1) [.tmp 48,.cst (.t (.int .i64 0))],oO 50 (.load 1 false) [.tmp 49],mv 51 0,oO 52 .nilchk [.tmp 51],oO 53 (.aaddr 5 1) [.tmp 52,.cst (.t (.int .i64 1))],oO 54 (.load 1 false) [.tmp 53],mv 55 0,oO 56 .nilchk [.tmp 55],oO 57 (.aaddr 5 1) [.tmp 56,.cst (.t (.int .i64 2))],oO 58 (.load 1 false) [.tmp 57],mv 59 0,oO 60 .nilchk [.tmp 59],oO 61 (.aaddr 5 1) [.tmp 60,.cst (.t (.int .i64 3))],oO 62 (.load 1 false) [.tmp 61],mv 63 0,oO 64 .nilchk [.tmp 63],oO 65 (.aaddr 5 1) [.tmp 64,.cst (.t (.int .i64 4))],oO 66 (.load 1 false) [.tmp 65],mv 6 50,mv 7 54,mv 8 58,mv 9 62,mv 10 66])
 (.seq
 (.seq
 (rG 40960 [mC 67 (.t (.int .i64 0))])
 (.block 2
 (.loop (jK n_bits_RotateLeft32))))
 (.seq
 (.reg 98304 (some [0,1,3,7,0,31,1,127,255]) [mv 125 0,oO 126 .nilchk [.tmp 125],oO 127 (.aaddr 5 1) [.tmp 126,.cst (.t (.int .i64 0))],oO 128 (.load 1 false) [.tmp 127],mv 129 6,bT 130 .add 128 129,oO 131 .nilchk [.tmp 125],oO 132 (.aaddr 5 1) [.tmp 131,.cst (.t (.int .i64 0))],oS 1 132 130])
 (.seq
 (.reg 102400 (some [0,1,3,7,0,31,1,127,255]) [mv 133 0,oO 134 .nilchk [.tmp 133],oO 135 (.aaddr 5 1) [.tmp 134,.cst (.t (.int .i64 1))],oO 136 (.load 1 false) [.tmp 135],mv 137 7,bT 138 .add 136 137,oO 139 .nilchk [.tmp 133],oO 140 (.aaddr 5 1) [.tmp 139,.cst (.t (.int .i64 1))],oS 1 140 138])
 (.seq
 (.reg 106496 (some [0,1,3,7,0,31,1,127,255]) [mv 141 0,oO 142 .nilchk [.tmp 141],oO 143 (.aaddr 5 1) [.tmp 142,.cst (.t (.int .i64 2))],oO 144 (.load 1 false) [.tmp 143],mv 145 8,bT 146 .add 144 145,oO 147 .nilchk [.tmp 141],oO 148 (.aaddr 5 1) [.tmp 147,.cst (.t (.int .i64 2))],oS 1 148 146])
 (.seq
 (.reg 110592 (some [0,1,3,7,0,31,1,127,255]) [mv 149 0,oO 150 .nilchk [.tmp 149],oO 151 (.aaddr 5 1) [.tmp 150,.cst (.t (.int .i64 3))],oO 152 (.load 1 false) [.tmp 151],mv 153 9,bT 154 .add 152 153,oO 155 .nilchk [.tmp 149],oO 156 (.aaddr 5 1) [.tmp 155,.cst (.t (.int .i64 3))],oS 1 156 154])
 (.reg 114688 (some [0,1,3,7,0,31,1,127,255]) [mv 157 0,oO 158 .nilchk [.tmp 157],oO 159 (.aaddr 5 1) [.tmp 158,.cst (.t (.int .i64 4))],oO 160 (.load 1 false) [.tmp 159],mv 161 10,bT 162 .add 160 161,oO 163 .nilchk [.tmp 157],oO 164 (.aaddr 5 1) [.tmp 163,.cst (.t (.int .i64 4))],oS 1 164 162])))))))))
def qB8 (n_digest_compress1:Nat):AC:=
 (.seq
 (.seq
 (rG 24576 [mv 15 6,oO 16 .len [.tmp 15],bN 17 .gtr 16 0])
 (.cond (.tmp 17)
 .skip
 (.exit 1)))
 (.seq
 (.block 2
 (rG 32768 [mv 20 6,oO 21 (.slice 1 false true false) [.tmp 20,.cst (.t (.int .i64 64))],cL 22 n_digest_compress1 false [.tmp 5,.tmp 21]]))
 (rG 28672 [mv 18 6,oO 19 (.slice 1 true false false) [.tmp 18,.cst (.t (.int .i64 64))],mv 6 19])))
def qB9 (n_digest_compress256:Nat):AC:=
 (.seq
 (.seq
 (rG 53248 [mv 30 8,oO 31 .len [.tmp 30],bN 32 .gtr 31 0])
 (.cond (.tmp 32)
 .skip
 (.exit 3)))
 (.seq
 (.block 4
 (rG 61440 [mv 35 8,oO 36 (.slice 1 false true false) [.tmp 35,.cst (.t (.int .i64 64))],cL 37 n_digest_compress256 false [.tmp 7,.tmp 36]]))
 (rG 57344 [mv 33 8,oO 34 (.slice 1 true false false) [.tmp 33,.cst (.t (.int .i64 64))],mv 8 34])))
def qAp (n_digest_pad n_digest_compress1 n_digest_spread n_digest_compress256:Nat):AC:=
 (.seq
 (rG 4096 [mC 4 .nil])
 (.seq
 (.seq
 (rG 8192 [mv 9 0])
 (.block 0
 (.seq
 (rG 12288 [bN 11 .eql 9 0,mv 10 11])
 (.cond (.tmp 10)
 (.seq
 (rG 16384 [oO 12 (.build [(.t (qP 0)),(.t (qP 0)),(.t (qP 0)),(.t (qP 0)),(.t (qP 0))] [(0,1),(1,1),(2,1),(3,1),(4,1)]) [.cst (.t (qP 1732584193)),.cst (.t (qP 4023233417)),.cst (.t (qP 2562383102)),.cst (.t (qP 271733878)),.cst (.t (qP 3285377520))],oO 5 (.new 1 [(.t (qP 0)),(.t (qP 0)),(.t (qP 0)),(.t (qP 0)),(.t (qP 0))]) [],oS 5 5 12])
 (.seq
 (.seq
 (rG 20480 [mv 13 1,cL 14 n_digest_pad false [.tmp 13],mv 6 14])
 (.block 1
 (.loop (qB8 n_digest_compress1))))
 (.seq
 (rG 36864 [oO 23 (.aslice 5 1 false false false) [.tmp 5],cL 24 n_digest_spread false [.tmp 23],mv 4 24])
 .ret)))
 (.seq
 (rG 40960 [bN 26 .eql 9 1,mv 25 26])
 (.cond (.tmp 25)
 (.seq
 (rG 45056 [oO 27 (.build [(.t (qP 0)),(.t (qP 0)),(.t (qP 0)),(.t (qP 0)),(.t (qP 0)),(.t (qP 0)),(.t (qP 0)),(.t (qP 0))] [(0,1),(1,1),(2,1),(3,1),(4,1),(5,1),(6,1),(7,1)]) [.cst (.t (qP 1779033703)),.cst (.t (qP 3144134277)),.cst (.t (qP 1013904242)),.cst (.t (qP 2773480762)),.cst (.t (qP 1359893119)),.cst (.t (qP 2600822924)),.cst (.t (qP 528734635)),.cst (.t (qP 1541459225))],oO 7 (.new 1 [(.t (qP 0)),(.t (qP 0)),(.t (qP 0)),(.t (qP 0)),(.t (qP 0)),(.t (qP 0)),(.t (qP 0)),(.t (qP 0))]) [],oS 8 7 27])
 (.seq
 (.seq
 (rG 49152 [mv 28 1,cL 29 n_digest_pad false [.tmp 28],mv 8 29])
 (.block 3
 (.loop (qB9 n_digest_compress256))))
 (.seq
 (rG 65536 [oO 38 (.aslice 8 1 false false false) [.tmp 7],cL 39 n_digest_spread false [.tmp 38],mv 4 39])
 .ret)))
 .skip))))))
 (.seq
 (rG 69632 [mC 4 .nil])
 .ret)))
def qAo:AC:=
 (.seq
 (rG 16384 [bT 15 .lss 14 13])
 (.seq
 (.cond (.tmp 15)
 .skip
 (.exit 0))
 (.seq
 (.block 1
 (.seq
 (rG 20480 [oO 16 (.iaddr 1) [.tmp 12,.tmp 14],oO 17 (.load 1 false) [.tmp 16],mv 7 17])
 (.seq
 (rG 24576 [mv 18 7,oO 19 .len [.tmp 18],oO 20 (.conv .u32) [.tmp 19],mv 8 20])
 (.seq
 (rG 28672 [mv 21 5,mv 22 8,oO 23 (.bin .shr) [.tmp 22,.cst (.t (.int .u64 24))],oO 24 (.conv .u8) [.tmp 23],mv 25 8,oO 26 (.bin .shr) [.tmp 25,.cst (.t (.int .u64 16))],oO 27 (.conv .u8) [.tmp 26],mv 28 8,oO 29 (.bin .shr) [.tmp 28,.cst (.t (.int .u64 8))],oO 30 (.conv .u8) [.tmp 29],mv 31 8,oO 32 (.conv .u8) [.tmp 31],oO 33 (.bslice 1 4 (.t (qA 0)) [0,1,2,3]) [.tmp 24,.tmp 27,.tmp 30,.tmp 32],oO 34 (.append 1 1) [.tmp 21,.tmp 33],mv 5 34])
 (rG 32768 [mv 35 5,mv 36 7,oO 37 (.append 1 1) [.tmp 35,.tmp 36],mv 5 37])))))
 (rG 36864 [bN 38 .add 14 1,mv 14 38]))))
def qG8:AC:=
 (.seq
 (rG 4096 [mC 4 .nil])
 (.seq
 (rG 8192 [mv 9 0,oO 10 (.conv .u8) [.tmp 9],oO 11 (.bslice 1 1 (.t (qA 0)) [0]) [.tmp 10],mv 5 11])
 (.seq
 (.seq
 (rG 12288 [mv 12 1,oO 13 .len [.tmp 12],mC 14 (.t (.int .i64 0))])
 (.block 0
 (.loop qAo)))
 (.seq
 (rG 40960 [mv 39 5,mv 4 39])
 .ret))))
def qI3 (n_digest_Frame n_digest_Sum:Nat):AC:=
 (.seq
 (rG 4096 [mC 4 .nil])
 (.seq
 (rG 8192 [mv 5 0,mv 6 1,cL 7 n_digest_Frame false [.tmp 5,.tmp 6],cL 8 n_digest_Sum false [.cst (.t (.int .i64 1)),.tmp 7],mv 4 8])
 .ret))
def qCq:AC:=
 (.seq
 (rG 4096 [mC 4 (.t (qP 0))])
 (.seq
 (rG 8192 [mv 6 1,oO 7 (.conv .u64) [.tmp 6],oO 8 (.bin .and) [.tmp 7,.cst (.t (.int .u64 31))],mv 5 8])
 (.seq
 (rG 12288 [mv 9 0,mv 10 5,bT 11 .shl 9 10,mv 12 0,mv 13 5,oO 14 (.bin .sub) [.cst (.t (.int .u64 32)),.tmp 13],bT 15 .shr 12 14,bT 16 .or 11 15,mv 4 16])
 .ret)))
def qN5:AC:=
 (.seq
 (rG 4096 [mC 4 (.t (qP 0))])
 (.seq
 (rG 8192 [mv 5 0,mv 6 1,bT 7 .shr 5 6,mv 8 0,mv 9 1,oO 10 (.bin .sub) [.cst (.t (.int .u64 32)),.tmp 9],bT 11 .shl 8 10,bT 12 .or 7 11,mv 4 12])
 .ret))
def qN4:AC:=
 (.seq
 (rG 4096 [mC 4 (.t (qP 0))])
 (.seq
 (rG 8192 [mv 5 0,mv 6 1,bT 7 .shl 5 6,mv 8 0,mv 9 1,oO 10 (.bin .sub) [.cst (.t (.int .u64 32)),.tmp 9],bT 11 .shr 8 10,bT 12 .or 7 11,mv 4 12])
 .ret))
def qFa:AC:=
 (.seq
 (rG 4096 [oO 0 (.new 1 (List.replicate 64 (.t (qP 0)))) []])
 (.seq
 (rG 8192 [oO 1 (.build (List.replicate 64 (.t (qP 0))) [(0,1),(1,1),(2,1),(3,1),(4,1),(5,1),(6,1),(7,1),(8,1),(9,1),(10,1),(11,1),(12,1),(13,1),(14,1),(15,1),(16,1),(17,1),(18,1),(19,1),(20,1),(21,1),(22,1),(23,1),(24,1),(25,1),(26,1),(27,1),(28,1),(29,1),(30,1),(31,1),(32,1),(33,1),(34,1),(35,1),(36,1),(37,1),(38,1),(39,1),(40,1),(41,1),(42,1),(43,1),(44,1),(45,1),(46,1),(47,1),(48,1),(49,1),(50,1),(51,1),(52,1),(53,1),(54,1),(55,1),(56,1),(57,1),(58,1),(59,1),(60,1),(61,1),(62,1),(63,1)]) [.cst (.t (qP 1116352408)),.cst (.t (qP 1899447441)),.cst (.t (qP 3049323471)),.cst (.t (qP 3921009573)),.cst (.t (qP 961987163)),.cst (.t (qP 1508970993)),.cst (.t (qP 2453635748)),.cst (.t (qP 2870763221)),.cst (.t (qP 3624381080)),.cst (.t (qP 310598401)),.cst (.t (qP 607225278)),.cst (.t (qP 1426881987)),.cst (.t (qP 1925078388)),.cst (.t (qP 2162078206)),.cst (.t (qP 2614888103)),.cst (.t (qP 3248222580)),.cst (.t (qP 3835390401)),.cst (.t (qP 4022224774)),.cst (.t (qP 264347078)),.cst (.t (qP 604807628)),.cst (.t (qP 770255983)),.cst (.t (qP 1249150122)),.cst (.t (qP 1555081692)),.cst (.t (qP 1996064986)),.cst (.t (qP 2554220882)),.cst (.t (qP 2821834349)),.cst (.t (qP 2952996808)),.cst (.t (qP 3210313671)),.cst (.t (qP 3336571891)),.cst (.t (qP 3584528711)),.cst (.t (qP 113926993)),.cst (.t (qP 338241895)),.cst (.t (qP 666307205)),.cst (.t (qP 773529912)),.cst (.t (qP 1294757372)),.cst (.t (qP 1396182291)),.cst (.t (qP 1695183700)),.cst (.t (qP 1986661051)),.cst (.t (qP 2177026350)),.cst (.t (qP 2456956037)),.cst (.t (qP 2730485921)),.cst (.t (qP 2820302411)),.cst (.t (qP 3259730800)),.cst (.t (qP 3345764771)),.cst (.t (qP 3516065817)),.cst (.t (qP 3600352804)),.cst (.t (qP 4094571909)),.cst (.t (qP 275423344)),.cst (.t (qP 430227734)),.cst (.t (qP 506948616)),.cst (.t (qP 659060556)),.cst (.t (qP 883997877)),.cst (.t (qP 958139571)),.cst (.t (qP 1322822218)),.cst (.t (qP 1537002063)),.cst (.t (qP 1747873779)),.cst (.t (qP 1955562222)),.cst (.t (qP 2024104815)),.cst (.t (qP 2227730452)),.cst (.t (qP 2361852424)),.cst (.t (qP 2428436474)),.cst (.t (qP 2756734187)),.cst (.t (qP 3204031479)),.cst (.t (qP 3329325298))],oS 64 0 1])
 .ret))
def qEx:AC:=
 (.seq
 (.seq
 (rG 12288 [mv 11 3,oO 12 .len [.tmp 11],bN 13 .rem 12 64,bN 14 .neq 13 56])
 (.cond (.tmp 14)
 .skip
 (.exit 0)))
 (.block 1
 (rG 16384 [mv 15 3,oO 16 (.bslice 1 1 (.t (qA 0)) [0]) [.cst (.t (qA 0))],oO 17 (.append 1 1) [.tmp 15,.tmp 16],mv 3 17])))
def qEy:AC:=
 (.seq
 (.seq
 (rG 28672 [mv 22 5,bN 23 .geq 22 0])
 (.cond (.tmp 23)
 .skip
 (.exit 2)))
 (.seq
 (.block 3
 (rG 36864 [mv 26 3,mv 27 4,mv 28 5,oO 29 (.conv .u64) [.tmp 28],oO 30 (.bin .mul) [.cst (.t (.int .u64 8)),.tmp 29],bT 31 .shr 27 30,oO 32 (.conv .u8) [.tmp 31],oO 33 (.bslice 1 1 (.t (qA 0)) [0]) [.tmp 32],oO 34 (.append 1 1) [.tmp 26,.tmp 33],mv 3 34]))
 (rG 32768 [mv 24 5,bN 25 .sub 24 1,mv 5 25])))
def qQe:AC:=
 (.seq
 (rG 4096 [mC 2 .nil])
 (.seq
 (rG 8192 [oO 6 (.bslice 1 0 (.t (qA 0)) []) [],mv 7 0,oO 8 (.append 1 1) [.tmp 6,.tmp 7],oO 9 (.bslice 1 1 (.t (qA 0)) [0]) [.cst (.t (qA 128))],oO 10 (.append 1 1) [.tmp 8,.tmp 9],mv 3 10])
 (.seq
 (.block 0
 (.loop qEx))
 (.seq
 (rG 20480 [mv 18 0,oO 19 .len [.tmp 18],oO 20 (.conv .u64) [.tmp 19],oO 21 (.bin .mul) [.tmp 20,.cst (.t (.int .u64 8))],mv 4 21])
 (.seq
 (.seq
 (rG 24576 [mC 5 (.t (.int .i64 7))])
 (.block 2
 (.loop qEy)))
 (.seq
 (rG 40960 [mv 35 3,mv 2 35])
 .ret))))))
def qN6:AC:=
 (.seq
 (rG 4096 [mC 4 (.t (qP 0))])
 (.seq
 (.reg 8192 (some [0,0,2,7,15,31,63,0,0,256,768,1920,3968,8064,16256,32767,0,0,131072,393216,983040,2031616,4128768,8323072,16777215,0,0,67108864,201326592,503316480,1040187392,2113929216,4294967295,8589934591]) [mv 5 0,mv 6 1,oO 7 (.bin .mul) [.cst (.t (.int .i64 4)),.tmp 6],oO 8 (.iaddr 1) [.tmp 5,.tmp 7],oO 9 (.load 1 false) [.tmp 8],oO 10 (.conv .u32) [.tmp 9],oO 11 (.bin .shl) [.tmp 10,.cst (.t (.int .u64 24))],mv 12 0,mv 13 1,oO 14 (.bin .mul) [.cst (.t (.int .i64 4)),.tmp 13],bN 15 .add 14 1,oO 16 (.iaddr 1) [.tmp 12,.tmp 15],oO 17 (.load 1 false) [.tmp 16],oO 18 (.conv .u32) [.tmp 17],oO 19 (.bin .shl) [.tmp 18,.cst (.t (.int .u64 16))],bT 20 .or 11 19,mv 21 0,mv 22 1,oO 23 (.bin .mul) [.cst (.t (.int .i64 4)),.tmp 22],bN 24 .add 23 2,oO 25 (.iaddr 1) [.tmp 21,.tmp 24],oO 26 (.load 1 false) [.tmp 25],oO 27 (.conv .u32) [.tmp 26],oO 28 (.bin .shl) [.tmp 27,.cst (.t (.int .u64 8))],bT 29 .or 20 28,mv 30 0,mv 31 1,oO 32 (.bin .mul) [.cst (.t (.int .i64 4)),.tmp 31],bN 33 .add 32 3,oO 34 (.iaddr 1) [.tmp 30,.tmp 33],oO 35 (.load 1 false) [.tmp 34],oO 36 (.conv .u32) [.tmp 35],bT 37 .or 29 36,mv 4 37])
 .ret))
def qCg:AC:=
 (.seq
 (.seq
 (rG 16384 [mv 5 4,mv 6 0,oO 7 .len [.tmp 6],bT 8 .lss 5 7])
 (.cond (.tmp 8)
 .skip
 (.exit 0)))
 (.seq
 (.block 1
 (.reg 24576 (some [0,0,0,6,14,30,62,0,0,384,896,1920,3968,0,0,24576,57344,122880,253952,0,0,1572864,3670016,7864320,16777214,33554431,67108863]) [mv 11 3,mv 12 0,mv 13 4,oO 14 (.iaddr 1) [.tmp 12,.tmp 13],oO 15 (.load 1 false) [.tmp 14],oO 16 (.bin .shr) [.tmp 15,.cst (.t (.int .u64 24))],oO 17 (.conv .u8) [.tmp 16],mv 18 0,mv 19 4,oO 20 (.iaddr 1) [.tmp 18,.tmp 19],oO 21 (.load 1 false) [.tmp 20],oO 22 (.bin .shr) [.tmp 21,.cst (.t (.int .u64 16))],oO 23 (.conv .u8) [.tmp 22],mv 24 0,mv 25 4,oO 26 (.iaddr 1) [.tmp 24,.tmp 25],oO 27 (.load 1 false) [.tmp 26],oO 28 (.bin .shr) [.tmp 27,.cst (.t (.int .u64 8))],oO 29 (.conv .u8) [.tmp 28],mv 30 0,mv 31 4,oO 32 (.iaddr 1) [.tmp 30,.tmp 31],oO 33 (.load 1 false) [.tmp 32],oO 34 (.conv .u8) [.tmp 33],oO 35 (.bslice 1 4 (.t (qA 0)) [0,1,2,3]) [.tmp 17,.tmp 23,.tmp 29,.tmp 34],oO 36 (.append 1 1) [.tmp 11,.tmp 35],mv 3 36]))
 (rG 20480 [mv 9 4,bN 10 .add 9 1,mv 4 10])))
def qK9:AC:=
 (.seq
 (rG 4096 [mC 2 .nil])
 (.seq
 (rG 8192 [mC 3 .nil])
 (.seq
 (.seq
 (rG 12288 [mC 4 (.t (.int .i64 0))])
 (.block 0
 (.loop qCg)))
 (.seq
 (rG 28672 [mv 37 3,mv 2 37])
 .ret))))
def xC (n_ref1_word n_ref1_rotr:Nat):AC:=
 (.seq
 (.seq
 (rG 40960 [mv 28 8,bN 29 .lss 28 64])
 (.cond (.tmp 29)
 .skip
 (.exit 2)))
 (.seq
 (.block 3
 (.seq
 (.seq
 (rG 49152 [mv 32 8,bN 33 .lss 32 16])
 (.cond (.tmp 33)
 (.seq
 (rG 53248 [mv 34 8,mv 35 5,mv 36 6,mv 37 6,bN 38 .add 37 64,oO 39 (.slice 1 true true false) [.tmp 35,.tmp 36,.tmp 38],mv 40 8,cL 41 n_ref1_word false [.tmp 39,.tmp 40],oO 42 (.aaddr 64 1) [.tmp 7,.tmp 34],oS 1 42 41])
 (.exit 3))
 .skip))
 (.seq
 (.reg 57344 (some [0,1,3,7,15,0,32,96,224,511,1023,0,2048,6144,14336,30720,65535,131071]) [mv 43 8,bN 44 .sub 43 15,oO 45 (.aaddr 64 1) [.tmp 7,.tmp 44],oO 46 (.load 1 false) [.tmp 45],cL 47 n_ref1_rotr false [.tmp 46,.cst (.t (.int .u64 7))],mv 48 8,bN 49 .sub 48 15,oO 50 (.aaddr 64 1) [.tmp 7,.tmp 49],oO 51 (.load 1 false) [.tmp 50],cL 52 n_ref1_rotr false [.tmp 51,.cst (.t (.int .u64 18))],bT 53 .xor 47 52,mv 54 8,bN 55 .sub 54 15,oO 56 (.aaddr 64 1) [.tmp 7,.tmp 55],oO 57 (.load 1 false) [.tmp 56],oO 58 (.bin .shr) [.tmp 57,.cst (.t (.int .u64 3))],bT 59 .xor 53 58,mv 9 59])
 (.seq
 (.reg 61440 (some [0,1,3,7,15,0,32,96,224,511,1023,0,2048,6144,14336,30720,65535,131071]) [mv 60 8,bN 61 .sub 60 2,oO 62 (.aaddr 64 1) [.tmp 7,.tmp 61],oO 63 (.load 1 false) [.tmp 62],cL 64 n_ref1_rotr false [.tmp 63,.cst (.t (.int .u64 17))],mv 65 8,bN 66 .sub 65 2,oO 67 (.aaddr 64 1) [.tmp 7,.tmp 66],oO 68 (.load 1 false) [.tmp 67],cL 69 n_ref1_rotr false [.tmp 68,.cst (.t (.int .u64 19))],bT 70 .xor 64 69,mv 71 8,bN 72 .sub 71 2,oO 73 (.aaddr 64 1) [.tmp 7,.tmp 72],oO 74 (.load 1 false) [.tmp 73],oO 75 (.bin .shr) [.tmp 74,.cst (.t (.int .u64 10))],bT 76 .xor 70 75,mv 10 76])
 (.reg 65536 (some [0,0,0,4,12,28,62,0,254,0,512,1536,3584,8190,16383,32767]) [mv 77 8,mv 78 10,mv 79 8,bN 80 .sub 79 7,oO 81 (.aaddr 64 1) [.tmp 7,.tmp 80],oO 82 (.load 1 false) [.tmp 81],bT 83 .add 78 82,mv 84 9,bT 85 .add 83 84,mv 86 8,bN 87 .sub 86 16,oO 88 (.aaddr 64 1) [.tmp 7,.tmp 87],oO 89 (.load 1 false) [.tmp 88],bT 90 .add 85 89,oO 91 (.aaddr 64 1) [.tmp 7,.tmp 77],oS 1 91 90])))))
 (rG 45056 [mv 30 8,bN 31 .add 30 1,mv 8 31])))
def qBg (n_ref1_rotr:Nat):AC:=
 (.seq
 (.seq
 (rG 77824 [mv 95 12,bN 96 .lss 95 64])
 (.cond (.tmp 96)
 .skip
 (.exit 4)))
 (.seq
 (.block 5
 (.seq
 (.reg 86016 (some [0,1,3,0,8,24,7,127]) [mv 99 11,oO 100 (.iaddr 1) [.tmp 99,.cst (.t (.int .i64 0))],oO 101 (.load 1 false) [.tmp 100],mv 102 11,oO 103 (.iaddr 1) [.tmp 102,.cst (.t (.int .i64 4))],oO 104 (.load 1 false) [.tmp 103],mv 13 101,mv 14 104])
 (.seq
 (.reg 90112 (some [0,1,3,0,8,0,56,120,0,376,1016,2047,0,0,8192,24576,61440,0,131072,0,524288,1572864,4063232,8384512,16777215,0,33554432,100663296,268435455,0,536870912,1610612736,4294967295,8589934591]) [mv 105 11,oO 106 (.iaddr 1) [.tmp 105,.cst (.t (.int .i64 7))],oO 107 (.load 1 false) [.tmp 106],mv 108 14,cL 109 n_ref1_rotr false [.tmp 108,.cst (.t (.int .u64 6))],mv 110 14,cL 111 n_ref1_rotr false [.tmp 110,.cst (.t (.int .u64 11))],bT 112 .xor 109 111,mv 113 14,cL 114 n_ref1_rotr false [.tmp 113,.cst (.t (.int .u64 25))],bT 115 .xor 112 114,bT 116 .add 107 115,mv 117 14,mv 118 11,oO 119 (.iaddr 1) [.tmp 118,.cst (.t (.int .i64 5))],oO 120 (.load 1 false) [.tmp 119],bT 121 .and 117 120,mv 122 14,oO 123 (.un .xor) [.tmp 122],mv 124 11,oO 125 (.iaddr 1) [.tmp 124,.cst (.t (.int .i64 6))],oO 126 (.load 1 false) [.tmp 125],bT 127 .and 123 126,bT 128 .xor 121 127,bT 129 .add 116 128,mv 130 12,oO 131 (.aaddr 64 1) [.tmp 3,.tmp 130],oO 132 (.load 1 false) [.tmp 131],bT 133 .add 129 132,mv 134 12,oO 135 (.aaddr 64 1) [.tmp 7,.tmp 134],oO 136 (.load 1 false) [.tmp 135],bT 137 .add 133 136,mv 15 137])
 (.seq
 (.reg 94208 (some [0,1,0,7,15,0,47,127,0,0,512,1536,3840,0,0,16384,49152,122880,261888,0,524288,1572864,0,4194304,12582912,33030144,67108608,134217727,268435455]) [mv 138 13,cL 139 n_ref1_rotr false [.tmp 138,.cst (.t (.int .u64 2))],mv 140 13,cL 141 n_ref1_rotr false [.tmp 140,.cst (.t (.int .u64 13))],bT 142 .xor 139 141,mv 143 13,cL 144 n_ref1_rotr false [.tmp 143,.cst (.t (.int .u64 22))],bT 145 .xor 142 144,mv 146 13,mv 147 11,oO 148 (.iaddr 1) [.tmp 147,.cst (.t (.int .i64 1))],oO 149 (.load 1 false) [.tmp 148],bT 150 .and 146 149,mv 151 13,mv 152 11,oO 153 (.iaddr 1) [.tmp 152,.cst (.t (.int .i64 2))],oO 154 (.load 1 false) [.tmp 153],bT 155 .and 151 154,bT 156 .xor 150 155,mv 157 11,oO 158 (.iaddr 1) [.tmp 157,.cst (.t (.int .i64 1))],oO 159 (.load 1 false) [.tmp 158],mv 160 11,oO 161 (.iaddr 1) [.tmp 160,.cst (.t (.int .i64 2))],oO 162 (.load 1 false) [.tmp 161],bT 163 .and 159 162,bT 164 .xor 156 163,bT 165 .add 145 164,mv 16 165])
 (.reg 98304 (some [0,0,3,0,0,16,48,0,128,384,0,1024,3072,0,15360,0,0,65536,196608,0,524288,1572864,4194303,8388607]) [mv 166 15,mv 167 16,bT 168 .add 166 167,mv 169 13,mv 170 11,oO 171 (.iaddr 1) [.tmp 170,.cst (.t (.int .i64 1))],oO 172 (.load 1 false) [.tmp 171],mv 173 11,oO 174 (.iaddr 1) [.tmp 173,.cst (.t (.int .i64 2))],oO 175 (.load 1 false) [.tmp 174],mv 176 11,oO 177 (.iaddr 1) [.tmp 176,.cst (.t (.int .i64 3))],oO 178 (.load 1 false) [.tmp 177],mv 179 15,bT 180 .add 178 179,mv 181 14,mv 182 11,oO 183 (.iaddr 1) [.tmp 182,.cst (.t (.int .i64 5))],oO 184 (.load 1 false) [.tmp 183],mv 185 11,oO 186 (.iaddr 1) [.tmp 185,.cst (.t (.int .i64 6))],oO 187 (.load 1 false) [.tmp 186],oO 188 (.bslice 1 8 (.t (qP 0)) [0,1,2,3,4,5,6,7]) [.tmp 168,.tmp 169,.tmp 172,.tmp 175,.tmp 180,.tmp 181,.tmp 184,.tmp 187],mv 11 188])))))
 (rG 81920 [mv 97 12,bN 98 .add 97 1,mv 12 98])))
def qBh:AC:=
 (.seq
 (.seq
 (rG 106496 [mv 189 17,bN 190 .lss 189 8])
 (.cond (.tmp 190)
 .skip
 (.exit 6)))
 (.seq
 (.block 7
 (.reg 114688 (some [0,0,3,7,0,0,48,112,255,511,1023]) [mv 193 4,mv 194 17,oO 195 (.iaddr 1) [.tmp 193,.tmp 194],oO 196 (.load 1 false) [.tmp 195],mv 197 11,mv 198 17,oO 199 (.iaddr 1) [.tmp 197,.tmp 198],oO 200 (.load 1 false) [.tmp 199],bT 201 .add 196 200,oO 202 (.iaddr 1) [.tmp 193,.tmp 194],oS 1 202 201]))
 (rG 110592 [mv 191 17,bN 192 .add 191 1,mv 17 192])))
def qBf (n_ref1_word n_ref1_rotr:Nat):AC:=
 (.seq
 (.seq
 (rG 24576 [mv 22 6,mv 23 5,oO 24 .len [.tmp 23],bT 25 .lss 22 24])
 (.cond (.tmp 25)
 .skip
 (.exit 0)))
 (.seq
 (.block 1
 (.seq
 (rG 32768 [oO 7 (.new 1 (List.replicate 64 (.t (qP 0)))) []])
 (.seq
 (.seq
 (rG 36864 [mC 8 (.t (.int .i64 0))])
 (.block 2
 (.loop (xC n_ref1_word n_ref1_rotr))))
 (.seq
 (rG 69632 [oO 92 (.bslice 1 0 (.t (qP 0)) []) [],mv 93 4,oO 94 (.append 1 4) [.tmp 92,.tmp 93],mv 11 94])
 (.seq
 (.seq
 (rG 73728 [mC 12 (.t (.int .i64 0))])
 (.block 4
 (.loop (qBg n_ref1_rotr))))
 (.seq
 (rG 102400 [mC 17 (.t (.int .i64 0))])
 (.block 6
 (.loop qBh))))))))
 (rG 28672 [mv 26 6,bN 27 .add 26 64,mv 6 27])))
def qJa (n_ref1_constants n_ref1_pad n_ref1_word n_ref1_rotr n_ref1_bytes:Nat):AC:=
 (.seq
 (rG 4096 [mC 2 .nil])
 (.seq
 (rG 8192 [cL 18 n_ref1_constants false [],oO 3 (.new 1 (List.replicate 64 (.t (qP 0)))) [],oS 64 3 18])
 (.seq
 (rG 12288 [oO 19 (.bslice 1 8 (.t (qP 0)) [0,1,2,3,4,5,6,7]) [.cst (.t (qP 1779033703)),.cst (.t (qP 3144134277)),.cst (.t (qP 1013904242)),.cst (.t (qP 2773480762)),.cst (.t (qP 1359893119)),.cst (.t (qP 2600822924)),.cst (.t (qP 528734635)),.cst (.t (qP 1541459225))],mv 4 19])
 (.seq
 (rG 16384 [mv 20 0,cL 21 n_ref1_pad false [.tmp 20],mv 5 21])
 (.seq
 (.seq
 (rG 20480 [mC 6 (.t (.int .i64 0))])
 (.block 0
 (.loop (qBf n_ref1_word n_ref1_rotr))))
 (.seq
 (rG 118784 [mv 203 4,cL 204 n_ref1_bytes false [.tmp 203],mv 2 204])
 .ret))))))
def qAv (n_ref1_word n_ref1_rotl:Nat):AC:=
 (.seq
 (.seq
 (rG 36864 [mv 26 7,bN 27 .lss 26 80])
 (.cond (.tmp 27)
 .skip
 (.exit 2)))
 (.seq
 (.block 3
 (.seq
 (.seq
 (rG 45056 [mv 30 7,bN 31 .lss 30 16])
 (.cond (.tmp 31)
 (.seq
 (rG 49152 [mv 32 7,mv 33 4,mv 34 5,mv 35 5,bN 36 .add 35 64,oO 37 (.slice 1 true true false) [.tmp 33,.tmp 34,.tmp 36],mv 38 7,cL 39 n_ref1_word false [.tmp 37,.tmp 38],oO 40 (.aaddr 80 1) [.tmp 6,.tmp 32],oS 1 40 39])
 (.exit 3))
 .skip))
 (.reg 53248 (some [0,0,2,6,14,0,32,96,224,510,0,1024,3072,7168,16382,0,32768,98304,229376,524286,1048574,2097151,4194303]) [mv 41 7,mv 42 7,bN 43 .sub 42 3,oO 44 (.aaddr 80 1) [.tmp 6,.tmp 43],oO 45 (.load 1 false) [.tmp 44],mv 46 7,bN 47 .sub 46 8,oO 48 (.aaddr 80 1) [.tmp 6,.tmp 47],oO 49 (.load 1 false) [.tmp 48],bT 50 .xor 45 49,mv 51 7,bN 52 .sub 51 14,oO 53 (.aaddr 80 1) [.tmp 6,.tmp 52],oO 54 (.load 1 false) [.tmp 53],bT 55 .xor 50 54,mv 56 7,bN 57 .sub 56 16,oO 58 (.aaddr 80 1) [.tmp 6,.tmp 57],oO 59 (.load 1 false) [.tmp 58],bT 60 .xor 55 59,cL 61 n_ref1_rotl false [.tmp 60,.cst (.t (.int .u64 1))],oO 62 (.aaddr 80 1) [.tmp 6,.tmp 41],oS 1 62 61])))
 (rG 40960 [mv 28 7,bN 29 .add 28 1,mv 7 29])))
def wI (n_ref1_rotl:Nat):AC:=
 (.seq
 (.seq
 (rG 65536 [mv 78 13,bN 79 .lss 78 80])
 (.cond (.tmp 79)
 .skip
 (.exit 4)))
 (.seq
 (.block 5
 (.seq
 (rG 73728 [mv 82 9,mv 83 10,bT 84 .xor 82 83,mv 85 11,bT 86 .xor 84 85,mv 14 86,mC 15 (.t (qP 3395469782))])
 (.seq
 (.block 6
 (.seq
 (rG 77824 [mv 88 13,bN 89 .lss 88 20,mv 87 89])
 (.cond (.tmp 87)
 (rG 81920 [mv 90 9,mv 91 10,bT 92 .and 90 91,mv 93 9,oO 94 (.un .xor) [.tmp 93],mv 95 11,bT 96 .and 94 95,bT 97 .xor 92 96,mv 14 97,mC 15 (.t (qP 1518500249))])
 (.seq
 (rG 86016 [mv 99 13,bN 100 .lss 99 40,mv 98 100])
 (.cond (.tmp 98)
 (rG 90112 [mC 15 (.t (qP 1859775393))])
 (.seq
 (rG 94208 [mv 102 13,bN 103 .lss 102 60,mv 101 103])
 (.cond (.tmp 101)
 (rG 98304 [mv 104 9,mv 105 10,bT 106 .and 104 105,mv 107 9,mv 108 11,bT 109 .and 107 108,bT 110 .xor 106 109,mv 111 10,mv 112 11,bT 113 .and 111 112,bT 114 .xor 110 113,mv 14 114,mC 15 (.t (qP 2400959708))])
 .skip)))))))
 (.seq
 (.reg 102400 (some [0,1,0,7,0,31,0,127,0,256,768,2047,4095]) [mv 115 8,cL 116 n_ref1_rotl false [.tmp 115,.cst (.t (.int .u64 5))],mv 117 14,bT 118 .add 116 117,mv 119 12,bT 120 .add 118 119,mv 121 15,bT 122 .add 120 121,mv 123 13,oO 124 (.aaddr 80 1) [.tmp 6,.tmp 123],oO 125 (.load 1 false) [.tmp 124],bT 126 .add 122 125,mv 16 126])
 (rG 106496 [mv 127 16,mv 128 8,mv 129 9,cL 130 n_ref1_rotl false [.tmp 129,.cst (.t (.int .u64 30))],mv 131 10,mv 132 11,mv 8 127,mv 9 128,mv 10 130,mv 11 131,mv 12 132])))))
 (rG 69632 [mv 80 13,bN 81 .add 80 1,mv 13 81])))
def qC8 (n_ref1_word n_ref1_rotl:Nat):AC:=
 (.seq
 (.seq
 (rG 20480 [mv 20 5,mv 21 4,oO 22 .len [.tmp 21],bT 23 .lss 20 22])
 (.cond (.tmp 23)
 .skip
 (.exit 0)))
 (.seq
 (.block 1
 (.seq
 (rG 28672 [oO 6 (.new 1 (List.replicate 80 (.t (qP 0)))) []])
 (.seq
 (.seq
 (rG 32768 [mC 7 (.t (.int .i64 0))])
 (.block 2
 (.loop (qAv n_ref1_word n_ref1_rotl))))
 (.seq
 (.reg 57344 (some [0,1,3,0,8,24,0,64,192,0,512,1536,0,4096,12288,7,32831,98815,233471,524287]) [mv 63 3,oO 64 (.iaddr 1) [.tmp 63,.cst (.t (.int .i64 0))],oO 65 (.load 1 false) [.tmp 64],mv 66 3,oO 67 (.iaddr 1) [.tmp 66,.cst (.t (.int .i64 1))],oO 68 (.load 1 false) [.tmp 67],mv 69 3,oO 70 (.iaddr 1) [.tmp 69,.cst (.t (.int .i64 2))],oO 71 (.load 1 false) [.tmp 70],mv 72 3,oO 73 (.iaddr 1) [.tmp 72,.cst (.t (.int .i64 3))],oO 74 (.load 1 false) [.tmp 73],mv 75 3,oO 76 (.iaddr 1) [.tmp 75,.cst (.t (.int .i64 4))],oO 77 (.load 1 false) [.tmp 76],mv 8 65,mv 9 68,mv 10 71,mv 11 74,mv 12 77])
 (.seq
 (.seq
 (rG 61440 [mC 13 (.t (.int .i64 0))])
 (.block 4
 (.loop (wI n_ref1_rotl))))
 (.reg 110592 (some [0,1,3,0,15,0,32,96,0,480,0,1024,3072,0,15360,0,32768,98304,0,491520,0,1048576,3145728,0,15728640,33554431,67108863]) [mv 133 3,oO 134 (.iaddr 1) [.tmp 133,.cst (.t (.int .i64 0))],oO 135 (.load 1 false) [.tmp 134],mv 136 8,bT 137 .add 135 136,mv 138 3,oO 139 (.iaddr 1) [.tmp 138,.cst (.t (.int .i64 1))],oO 140 (.load 1 false) [.tmp 139],mv 141 9,bT 142 .add 140 141,mv 143 3,oO 144 (.iaddr 1) [.tmp 143,.cst (.t (.int .i64 2))],oO 145 (.load 1 false) [.tmp 144],mv 146 10,bT 147 .add 145 146,mv 148 3,oO 149 (.iaddr 1) [.tmp 148,.cst (.t (.int .i64 3))],oO 150 (.load 1 false) [.tmp 149],mv 151 11,bT 152 .add 150 151,mv 153 3,oO 154 (.iaddr 1) [.tmp 153,.cst (.t (.int .i64 4))],oO 155 (.load 1 false) [.tmp 154],mv 156 12,bT 157 .add 155 156,oO 158 (.bslice 1 5 (.t (qP 0)) [0,1,2,3,4]) [.tmp 137,.tmp 142,.tmp 147,.tmp 152,.tmp 157],mv 3 158]))))))
 (rG 24576 [mv 24 5,bN 25 .add 24 64,mv 5 25])))
def qN3 (n_ref1_pad n_ref1_word n_ref1_rotl n_ref1_bytes:Nat):AC:=
 (.seq
 (rG 4096 [mC 2 .nil])
 (.seq
 (rG 8192 [oO 17 (.bslice 1 5 (.t (qP 0)) [0,1,2,3,4]) [.cst (.t (qP 1732584193)),.cst (.t (qP 4023233417)),.cst (.t (qP 2562383102)),.cst (.t (qP 271733878)),.cst (.t (qP 3285377520))],mv 3 17])
 (.seq
 (rG 12288 [mv 18 0,cL 19 n_ref1_pad false [.tmp 18],mv 4 19])
 (.seq
 (.seq
 (rG 16384 [mC 5 (.t (.int .i64 0))])
 (.block 0
 (.loop (qC8 n_ref1_word n_ref1_rotl))))
 (.seq
 (rG 114688 [mv 159 3,cL 160 n_ref1_bytes false [.tmp 159],mv 2 160])
 .ret)))))
def qEb:AC:=
 (.seq
 (rG 4096 [mC 2 (.t (.int .i64 0))])
 (.seq
 (.seq
 (rG 8192 [mv 3 0])
 (.block 0
 (.seq
 (rG 12288 [bN 5 .eql 3 0,mv 4 5])
 (.cond (.tmp 4)
 (.seq
 (rG 16384 [mC 2 (.t (.int .i64 20))])
 .ret)
 (.seq
 (rG 20480 [bN 7 .eql 3 1,mv 6 7])
 (.cond (.tmp 6)
 (.seq
 (rG 24576 [mC 2 (.t (.int .i64 32))])
 .ret)
 .skip))))))
 (.seq
 (rG 28672 [mC 2 (.t (.int .i64 0))])
 .ret)))
def qJ2 (n_ref1_Sum1 n_ref1_Sum256:Nat):AC:=
 (.seq
 (rG 4096 [mC 4 .nil])
 (.seq
 (.seq
 (rG 8192 [mv 5 0])
 (.block 0
 (.seq
 (rG 12288 [bN 7 .eql 5 0,mv 6 7])
 (.cond (.tmp 6)
 (.seq
 (rG 16384 [mv 8 1,cL 9 n_ref1_Sum1 false [.tmp 8],mv 4 9])
 .ret)
 (.seq
 (rG 20480 [bN 11 .eql 5 1,mv 10 11])
 (.cond (.tmp 10)
 (.seq
 (rG 24576 [mv 12 1,cL 13 n_ref1_Sum256 false [.tmp 12],mv 4 13])
 .ret)
 .skip))))))
 (.seq
 (rG 28672 [mC 4 .nil])
 .ret)))
def qCf:AC:=
 (.seq
 (.seq
 (rG 16384 [mv 11 6,mv 12 1,oO 13 .len [.tmp 12],bT 14 .lss 11 13])
 (.cond (.tmp 14)
 .skip
 (.exit 0)))
 (.seq
 (.block 1
 (.seq
 (rG 24576 [mv 17 1,mv 18 6,oO 19 (.iaddr 1) [.tmp 17,.tmp 18],oO 20 (.load 1 false) [.tmp 19],oO 21 .len [.tmp 20],mv 7 21])
 (.seq
 (rG 28672 [mv 22 5,mv 23 7,oO 24 (.bin .shr) [.tmp 23,.cst (.t (.int .u64 24))],oO 25 (.conv .u8) [.tmp 24],mv 26 7,oO 27 (.bin .shr) [.tmp 26,.cst (.t (.int .u64 16))],oO 28 (.conv .u8) [.tmp 27],mv 29 7,oO 30 (.bin .shr) [.tmp 29,.cst (.t (.int .u64 8))],oO 31 (.conv .u8) [.tmp 30],mv 32 7,oO 33 (.conv .u8) [.tmp 32],oO 34 (.bslice 1 4 (.t (qA 0)) [0,1,2,3]) [.tmp 25,.tmp 28,.tmp 31,.tmp 33],oO 35 (.append 1 1) [.tmp 22,.tmp 34],mv 5 35])
 (rG 32768 [mv 36 5,mv 37 1,mv 38 6,oO 39 (.iaddr 1) [.tmp 37,.tmp 38],oO 40 (.load 1 false) [.tmp 39],oO 41 (.append 1 1) [.tmp 36,.tmp 40],mv 5 41]))))
 (rG 20480 [mv 15 6,bN 16 .add 15 1,mv 6 16])))
def qK8:AC:=
 (.seq
 (rG 4096 [mC 4 .nil])
 (.seq
 (rG 8192 [mv 8 0,oO 9 (.conv .u8) [.tmp 8],oO 10 (.bslice 1 1 (.t (qA 0)) [0]) [.tmp 9],mv 5 10])
 (.seq
 (.seq
 (rG 12288 [mC 6 (.t (.int .i64 0))])
 (.block 0
 (.loop qCf)))
 (.seq
 (rG 36864 [mv 42 5,mv 4 42])
 .ret))))
def qN2 (n_ref1_Frame n_ref1_Sum256:Nat):AC:=
 (.seq
 (rG 4096 [mC 4 .nil])
 (.seq
 (rG 8192 [mv 5 0,mv 6 1,cL 7 n_ref1_Frame false [.tmp 5,.tmp 6],cL 8 n_ref1_Sum256 false [.tmp 7],mv 4 8])
 .ret))
def qAu:AC:=
 (.seq
 (.seq
 (rG 20480 [mv 11 5,mv 12 0,oO 13 .len [.tmp 12],bT 14 .lss 11 13])
 (.cond (.tmp 14)
 .skip
 (.exit 0)))
 (.seq
 (.block 1
 (.seq
 (.reg 28672 (some [0,0,3,7,0,0,48,112,255]) [mv 17 0,mv 18 5,oO 19 (.iaddr 1) [.tmp 17,.tmp 18],oO 20 (.load 1 false) [.tmp 19],mv 21 1,mv 22 5,oO 23 (.iaddr 1) [.tmp 21,.tmp 22],oO 24 (.load 1 false) [.tmp 23],bT 25 .neq 20 24])
 (.cond (.tmp 25)
 (.seq
 (rG 32768 [mC 4 (.t (.bool false))])
 .ret)
 .skip)))
 (rG 24576 [mv 15 5,bN 16 .add 15 1,mv 5 16])))
def qHg:AC:=
 (.seq
 (rG 4096 [mC 4 (.t (.bool false))])
 (.seq
 (.seq
 (rG 8192 [mv 6 0,oO 7 .len [.tmp 6],mv 8 1,oO 9 .len [.tmp 8],bT 10 .neq 7 9])
 (.cond (.tmp 10)
 (.seq
 (rG 12288 [mC 4 (.t (.bool false))])
 .ret)
 .skip))
 (.seq
 (.seq
 (rG 16384 [mC 5 (.t (.int .i64 0))])
 (.block 0
 (.loop qAu)))
 (.seq
 (rG 36864 [mC 4 (.t (.bool true))])
 .ret))))
def xX (n_ref1_Same:Nat):AC:=
 (.seq
 (.seq
 (rG 20480 [mv 11 5,mv 12 0,oO 13 .len [.tmp 12],bT 14 .lss 11 13])
 (.cond (.tmp 14)
 .skip
 (.exit 0)))
 (.seq
 (.block 1
 (.seq
 (.reg 28672 (some [0,0,3,7,0,0,48,112,255,511]) [mv 17 0,mv 18 5,oO 19 (.iaddr 1) [.tmp 17,.tmp 18],oO 20 (.load 1 false) [.tmp 19],mv 21 1,mv 22 5,oO 23 (.iaddr 1) [.tmp 21,.tmp 22],oO 24 (.load 1 false) [.tmp 23],cL 25 n_ref1_Same false [.tmp 20,.tmp 24],oO 26 (.un .not) [.tmp 25]])
 (.cond (.tmp 26)
 (.seq
 (rG 32768 [mC 4 (.t (.bool false))])
 .ret)
 .skip)))
 (rG 24576 [mv 15 5,bN 16 .add 15 1,mv 5 16])))
def qFv (n_ref1_Same:Nat):AC:=
 (.seq
 (rG 4096 [mC 4 (.t (.bool false))])
 (.seq
 (.seq
 (rG 8192 [mv 6 0,oO 7 .len [.tmp 6],mv 8 1,oO 9 .len [.tmp 8],bT 10 .neq 7 9])
 (.cond (.tmp 10)
 (.seq
 (rG 12288 [mC 4 (.t (.bool false))])
 .ret)
 .skip))
 (.seq
 (.seq
 (rG 16384 [mC 5 (.t (.int .i64 0))])
 (.block 0
 (.loop (xX n_ref1_Same))))
 (.seq
 (rG 36864 [mC 4 (.t (.bool true))])
 .ret))))
def qN1:AC:=
 (.seq
 (rG 4096 [mC 2 .nil])
 (.seq
 (rG 8192 [oO 3 (.bslice 1 0 (.t (qA 0)) []) [],mv 4 0,oO 5 (.append 1 1) [.tmp 3,.tmp 4],mv 2 5])
 .ret))
end Go.Eng
end
section
set_option maxRecDepth 20000
namespace Go.Eng
def qWd (n:Nat):Nat:=(119-n%64)%64
def beL (n:Nat) (k:Nat):List UInt8:=(List.range k).map fun i=>UInt8.ofNat (n/2^(56-8*i))
def wV (bs:List UInt8):List UInt8:=bs++[128]++List.replicate (qWd bs.length) 0++beL (bs.length*8) 8
theorem zEm {n:Nat}:beL n 0=[]:=rfl
theorem qFd {n k:Nat}:(beL n k).length=k:=by simp[beL]
theorem zEl {n k:Nat}:beL n (k+1)=beL n k++[UInt8.ofNat (n/2^(56-8*k))]:=by simp[beL,List.range_succ]
theorem qZ4 (tab:Tab) (gl:Gl) (bs:List UInt8) (hb:bs.length<1000000000):qK2.wp tab gl (qE 0 [.t (.sl (bs.map qA))]) (qE 0 []) (xM [] [(2,none)] 0 (fun r o=>r = .sl 0 0 (wV bs).length∧o=[.live 1 (((wV bs).map qA).map V.t) true false])):=by
 have hz:qWd bs.length=(119-bs.length%64)%64:=rfl
 simp (disch:=omega) only [go_sem,↓reduceIte,Nat.reduceAdd,Nat.reduceEqDiff,Nat.reduceLT,Nat.reduceLeDiff,Int.reduceLE,reduceCtorEq,qK2]
 refine qD (qWd bs.length) (fun k=>[(0,.t (.sl (bs.map qA))),(3,.sl 8304 0 (bs.length+1+k))]) (fun k=>[(8304,.live 1 (((bs++[128]++List.replicate k 0).map qA).map V.t) true false)]) ?_ (fun k hk=>?_)
 ·refine qI.rd id ?_ ?_ rfl
  all_goals simp (disch:=omega) only [go_sem,↓reduceIte,Nat.reduceAdd,reduceCtorEq,id]
 ·by_cases hlt:k<qWd bs.length
  ·simp (disch:=omega) only [go_sem,↓reduceIte,Nat.reduceAdd,Nat.reduceEqDiff,Nat.reduceLT,Nat.reduceLeDiff,reduceCtorEq,qCa]
   refine⟨hlt,qI.rd (fun _=>16416) ?_ ?_ rfl⟩
   all_goals simp (disch:=omega) only [go_sem,↓reduceIte,Nat.reduceAdd,reduceCtorEq,List.replicate_succ',List.append_assoc,Nat.add_assoc]
  ·have e:k=qWd bs.length:=by omega
   subst e
   simp (disch:=omega) only [go_sem,↓reduceIte,Nat.reduceAdd,reduceCtorEq,qCa]
   refine qD 8 (fun k=>[(3,.sl 8304 0 (bs.length+1+qWd bs.length+k)),(4,V.t (T.int IntKind.u64 (bs.length*8:Nat))),(5,.t (.int .i64 (56-((8*k:Nat):Int))))]) (fun k=>[(8304,.live 1 (((bs++[128]++List.replicate (qWd bs.length) 0++beL (bs.length*8) k).map qA).map V.t) true false)]) ?_ (fun k hk=>?_)
   ·refine qI.rd id ?_ ?_ rfl
    all_goals simp (disch:=omega) only [go_sem,↓reduceIte,Nat.reduceAdd,Nat.reduceEqDiff,Nat.reduceMul,Int.reduceSub,reduceCtorEq,id,zEm,List.append_nil]
   ·by_cases hlt:k<8
    ·simp (disch:=omega) only [go_sem,↓reduceIte,Nat.reduceAdd,Nat.reduceEqDiff,Nat.reduceLT,Nat.reduceLeDiff,qCb,qFd]
     refine⟨hlt,qI.rd (fun _=>36976) ?_ ?_ rfl⟩
     all_goals simp (disch:=omega) only [go_sem,↓reduceIte,Nat.reduceAdd,Nat.reduceEqDiff,zEl,List.append_assoc,Nat.add_assoc]
     omega
    ·have e:k=8:=by omega
     subst e
     simp (disch:=omega) only [go_sem,↓reduceIte,Nat.reduceAdd,Nat.reduceEqDiff,Int.reduceNeg,Int.reduceSub,qCb,qFd,wV]
theorem qW3 (tab:Tab) (gl:Gl) (a:Int):qBs.wp tab gl (qE 0 [.t (.int .i64 a)]) (qE 0 []) (zZ [(2,none)] 0 (fun r o=>r = .t (.int .i64 (if a=0 then 20 else if a=1 then 32 else 0))∧o=[])):=by
 by_cases h0:a=0
 ·subst h0;simp (disch:=omega) only [go_sem,↓reduceIte,Nat.reduceAdd,reduceCtorEq,qBs]
 ·by_cases h1:a=1
  ·subst h1;simp (disch:=omega) only [go_sem,↓reduceIte,Nat.reduceAdd,Nat.reduceEqDiff,Int.reduceEq,reduceCtorEq,qBs]
  ·simp (disch:=omega) only [go_sem,↓reduceIte,Nat.reduceAdd,Nat.reduceEqDiff,reduceCtorEq,qBs,h0,h1]
theorem zDq (tab:Tab) (gl:Gl) (a:Int):qEb.wp tab gl (qE 0 [.t (.int .i64 a)]) (qE 0 []) (zZ [(2,none)] 0 (fun r o=>r = .t (.int .i64 (if a=0 then 20 else if a=1 then 32 else 0))∧o=[])):=by
 by_cases h0:a=0
 ·subst h0;simp (disch:=omega) only [go_sem,↓reduceIte,Nat.reduceAdd,reduceCtorEq,qEb]
 ·by_cases h1:a=1
  ·subst h1;simp (disch:=omega) only [go_sem,↓reduceIte,Nat.reduceAdd,Nat.reduceEqDiff,Int.reduceEq,reduceCtorEq,qEb]
  ·simp (disch:=omega) only [go_sem,↓reduceIte,Nat.reduceAdd,Nat.reduceEqDiff,reduceCtorEq,qEb,h0,h1]
def qVa (bs:List UInt8) (i:Nat):UInt32:=(bs.getD (4*i) 0).toUInt32 <<< 24 ||| (bs.getD (4*i+1) 0).toUInt32 <<< 16 ||| (bs.getD (4*i+2) 0).toUInt32 <<< 8 ||| (bs.getD (4*i+3) 0).toUInt32
theorem qW4 (tab:Tab) (gl:Gl) (bs:List UInt8) (i:Nat) (hi:4*i+3<bs.length) (hb:bs.length<1000000000):qI4.wp tab gl (qE 0 [.t (.sl (bs.map qA)),.t (.int .i64 i)]) (qE 0 []) (zZ [(4,none)] 0 (fun r o=>r = .t (qP (qVa bs i))∧o=[])):=by
 simp (disch:=omega) only [go_sem,↓reduceIte,Nat.reduceAdd,Nat.reduceEqDiff,Nat.reduceLT,Nat.reduceLeDiff,reduceCtorEq,qI4]
 exact⟨rfl,rfl⟩
theorem zDu (tab:Tab) (gl:Gl) (bs:List UInt8) (i:Nat) (hi:4*i+3<bs.length) (hb:bs.length<1000000000):qN6.wp tab gl (qE 0 [.t (.sl (bs.map qA)),.t (.int .i64 i)]) (qE 0 []) (zZ [(4,none)] 0 (fun r o=>r = .t (qP (qVa bs i))∧o=[])):=by
 simp (disch:=omega) only [go_sem,↓reduceIte,Nat.reduceAdd,Nat.reduceEqDiff,Nat.reduceLT,Nat.reduceLeDiff,reduceCtorEq,qN6]
 exact⟨rfl,rfl⟩
def qPy (x:UInt32) (n:Nat):UInt32:=x >>> UInt32.ofNat n ||| x <<< UInt32.ofNat (32-n)
theorem zDt (tab:Tab) (gl:Gl) (x:UInt32) (n:Nat) (h:0<n∧n<32):qN5.wp tab gl (qE 0 [.t (qP x),.t (.int .u64 n)]) (qE 0 []) (zZ [(4,none)] 0 (fun r o=>r = .t (qP (qPy x n))∧o=[])):=by
 simp (disch:=omega) only [go_sem,↓reduceIte,Nat.reduceAdd,Nat.reduceEqDiff,reduceCtorEq,qN5]
 rfl
theorem zDs (tab:Tab) (gl:Gl) (x:UInt32) (n:Nat) (h:0<n∧n<32):qN4.wp tab gl (qE 0 [.t (qP x),.t (.int .u64 n)]) (qE 0 []) (zZ [(4,none)] 0 (fun r o=>r = .t (qP (qPy x (32-n)))∧o=[])):=by
 simp (disch:=omega) only [go_sem,↓reduceIte,Nat.reduceAdd,Nat.reduceEqDiff,reduceCtorEq,qN4]
 rw[qPy,UInt32.or_comm,show 32-(32-n)=n by omega]
theorem qKo (tab:Tab) (gl:Gl) (x:UInt32) (n:Int) (h : -32<n∧n<32∧n≠0):qCq.wp tab gl (qE 0 [.t (qP x),.t (.int .i64 n)]) (qE 0 []) (zZ [(4,none)] 0 (fun r o=>r = .t (qP (qPy x ((32-n)%32).toNat))∧o=[])):=by
 have e:IntKind.u64.wrap n%32=((32-(32-n).toNat%32:Nat):Int):=by rw[qP8];omega
 have e2:((32-n)%32).toNat=(32-n).toNat%32:=by omega
 have e3:32-(32-(32-n).toNat%32)=(32-n).toNat%32:=by omega
 simp (disch:=omega) only [go_sem,↓reduceIte,Nat.reduceAdd,Nat.reduceEqDiff,reduceCtorEq,qCq,e,e2,e3]
 rw[qPy,UInt32.or_comm]
def qSl (w:UInt32):List UInt8:=[(w >>> 24).toUInt8,(w >>> 16).toUInt8,(w >>> 8).toUInt8,w.toUInt8]
def qAg (ws:List UInt32):List UInt8:=ws.flatMap qSl
theorem qE5 (ws:List UInt32):(qAg ws).length=4*ws.length:=by
 induction ws with
 | nil=>rfl
 | cons w r ih=>simp only[qAg,List.flatMap_cons,List.length_append] at *;rw[ih];simp[qSl];omega
theorem qOz {ws:List UInt32} {k:Nat} (h:k<ws.length):qAg (ws.take (k+1))=qAg (ws.take k)++qSl (ws.getD k 0):=by
 rw[qDy (d:=0) h];simp[qAg]
theorem qSp (tab:Tab) (gl:Gl) (ws:List UInt32) (hb:ws.length<1000000000):qGi.wp tab gl (qE 0 [.t (.sl (ws.map qP))]) (qE 0 []) (xM [] [(2,none)] 0 (fun r o=>r = .sl 0 0 (4*ws.length)∧o=[.live 1 (((qAg ws).map qA).map V.t) true false])):=by
 simp (disch:=omega) only [go_sem,↓reduceIte,Nat.reduceAdd,Int.reduceLE,reduceCtorEq,qGi]
 refine qD ws.length (fun k=>[(3,.sl 8240 0 (4*k)),(10,.t (.sl (ws.map qP))),(11,.t (.int .i64 ws.length)),(12,.t (.int .i64 k))]) (fun k=>[(8240,.live 1 (((qAg (ws.take k)).map qA).map V.t) true false)]) ?_ (fun k hk=>?_)
 ·refine qI.rd id ?_ ?_ rfl
  all_goals simp (disch:=omega) only [go_sem,↓reduceIte,Nat.reduceAdd,Nat.reduceEqDiff,Nat.reduceMul,id,qAg,List.flatMap_nil,List.map_nil]
 ·have hl:(qAg (ws.take k)).length=4*k:=by rw[qE5,List.length_take];omega
  by_cases hlt:k<ws.length
  ·simp (disch:=omega) only [go_sem,↓reduceIte,Nat.reduceAdd,Nat.reduceEqDiff,Nat.reduceLT,Nat.reduceLeDiff,qAc,hl]
   refine⟨hlt,qI.rd (fun _=>24784) ?_ ?_ rfl⟩
   all_goals simp (disch:=omega) only [go_sem,↓reduceIte,Nat.reduceAdd,Nat.reduceEqDiff,qOz,qSl]
   ·omega
   ·simp only[List.append_assoc,List.cons_append,List.nil_append];rfl
  ·have e:k=ws.length:=by omega
   subst e
   rw[List.take_length] at hl
   simp (disch:=omega) only [go_sem,↓reduceIte,Nat.reduceAdd,Nat.reduceEqDiff,qAc,hl,List.take_length]
end Go.Eng
end
section
set_option maxRecDepth 20000
set_option maxHeartbeats 4000000
namespace Go.Eng
def jK1 (x:UInt32):UInt32:=qPy x 7 ^^^ qPy x 18 ^^^ x >>> 3
def jK2 (x:UInt32):UInt32:=qPy x 17 ^^^ qPy x 19 ^^^ x >>> 10
def qBp (bs:List UInt8):Nat→List UInt32
 | 0=>List.replicate 64 0
 | t+1=>let w:=qBp bs t
  w.set t (if t<16 then qVa bs t else jK2 (w.getD (t-2) 0)+w.getD (t-7) 0+jK1 (w.getD (t-15) 0)+w.getD (t-16) 0)
theorem qOw {bs:List UInt8} {t:Nat}:(qBp bs t).length=64:=by
 induction t with
 | zero=>rfl
 | succ t ih=>simp only[qBp,List.length_set,ih]
def qDm:Ct where
 α:=List UInt8×Nat
 as x:=[.t (.sl (x.1.map qA)),.t (.int .i64 x.2)]
 ins _:=[]
 pre x:=4*x.2+3<x.1.length∧x.1.length<1000000000
 r x:= .t (qP (qVa x.1 x.2))
 outs _:=[]
 inj:=by
  rintro⟨a,b⟩ ⟨c,d⟩ h _
  simp[qZ,Int.natCast_inj] at h
  obtain⟨rfl,rfl⟩:=h
  exact⟨rfl,rfl⟩
theorem qXs {bs:List UInt8} {i:Nat} (h:4*i+3<bs.length∧bs.length<1000000000):qDm.fs [.t (.sl (bs.map qA)),.t (.int .i64 i)] []=some (.t (qP (qVa bs i)),[]):=qDm.eq (bs,i) h
def qJ9:Ct where
 α:=UInt32×Int
 as x:=[.t (qP x.1),.t (.int .i64 x.2)]
 ins _:=[]
 pre x := -32<x.2∧x.2<32∧x.2≠0
 r x:= .t (qP (qPy x.1 ((32-x.2)%32).toNat))
 outs _:=[]
 inj:=by
  rintro⟨a,b⟩ ⟨c,d⟩ h _
  simp[qWu] at h
  obtain⟨rfl,rfl⟩:=h
  exact⟨rfl,rfl⟩
theorem qKk {x:UInt32} {i:Int} (h : -32<i∧i<32∧i≠0):qJ9.fs [.t (qP x),.t (.int .i64 i)] []=some (.t (qP (qPy x ((32-i)%32).toNat)),[]):=qJ9.eq (x,i) h
def qXx:List UInt32:=[0x428a2f98,0x71374491,0xb5c0fbcf,0xe9b5dba5,0x3956c25b,0x59f111f1,0x923f82a4,0xab1c5ed5,0xd807aa98,0x12835b01,0x243185be,0x550c7dc3,0x72be5d74,0x80deb1fe,0x9bdc06a7,0xc19bf174,0xe49b69c1,0xefbe4786,0x0fc19dc6,0x240ca1cc,0x2de92c6f,0x4a7484aa,0x5cb0a9dc,0x76f988da,0x983e5152,0xa831c66d,0xb00327c8,0xbf597fc7,0xc6e00bf3,0xd5a79147,0x06ca6351,0x14292967,0x27b70a85,0x2e1b2138,0x4d2c6dfc,0x53380d13,0x650a7354,0x766a0abb,0x81c2c92e,0x92722c85,0xa2bfe8a1,0xa81a664b,0xc24b8b70,0xc76c51a3,0xd192e819,0xd6990624,0xf40e3585,0x106aa070,0x19a4c116,0x1e376c08,0x2748774c,0x34b0bcb5,0x391c0cb3,0x4ed8aa4a,0x5b9cca4f,0x682e6ff3,0x748f82ee,0x78a5636f,0x84c87814,0x8cc70208,0x90befffa,0xa4506ceb,0xbef9a3f7,0xc67178f2]
def rnd (k w:UInt32) (s:List UInt32):List UInt32:=
 let a:=s.getD 0 0
 let e:=s.getD 4 0
 let t1:=s.getD 7 0+(qPy e 6 ^^^ qPy e 11 ^^^ qPy e 25)+((e &&& s.getD 5 0) ^^^ (~~~e &&& s.getD 6 0))+k+w
 let t2:=(qPy a 2 ^^^ qPy a 13 ^^^ qPy a 22)+((a &&& s.getD 1 0) ^^^ (a &&& s.getD 2 0) ^^^ (s.getD 1 0 &&& s.getD 2 0))
 [t1+t2,s.getD 0 0,s.getD 1 0,s.getD 2 0,s.getD 3 0+t1,s.getD 4 0,s.getD 5 0,s.getD 6 0]
def qBd (ws hs:List UInt32):Nat→List UInt32
 | 0=>hs
 | t+1=>rnd (qXx.getD t 0) (ws.getD t 0) (qBd ws hs t)
theorem qL7 {ws hs:List UInt32} {t:Nat} (h:hs.length=8):(qBd ws hs t).length=8:=by
 cases t with
 | zero=>exact h
 | succ t=>rfl
def zGh (hs s:List UInt32):Nat→List UInt32
 | 0=>hs
 | i+1=>(zGh hs s i).set i ((zGh hs s i).getD i 0+s.getD i 0)
theorem qJ3 {hs s:List UInt32} {i:Nat}:(zGh hs s i).length=hs.length:=by
 induction i with
 | zero=>rfl
 | succ i ih=>simp only[zGh,List.length_set,ih]
def wP (hs:List UInt32) (bs:List UInt8):List UInt32:=zGh hs (qBd (qBp bs 64) hs 64) 8
theorem qIz (tab:Tab) (gl:Gl) (n1 n2 g:Nat) (h1:tab.look n1=some qDm.fs) (h2:tab.look n2=some qJ9.fs) (hg:gl g=some (qXx.map qP)) (bs:List UInt8) (hs:List UInt32) (hb:bs.length=64) (hh:hs.length=8) :
  (qBv n1 n2 g).wp tab gl (qE 0 [.ref 0 0 0,.t (.sl (bs.map qA))]) (qE 0 [.live 1 ((hs.map qP).map V.t) true true]) (zZ [] 1 (fun r o=>r = .tup []∧o=[.live 1 (((wP hs bs).map qP).map V.t) true true])):=by
 have ht:hs.take 8=hs:=List.take_of_length_le (by omega)
 simp (disch:=omega) only [go_sem,seval,qBv]
 refine qD 64 (fun k=>[(17,.t (.int .i64 k)),(4,.ref 4096 0 0),(0,.ref 0 0 0),(1,V.t (T.sl (List.map qA bs)))]) (fun k=>[(4096,.live 1 (((qBp bs k).map qP).map V.t) true true),(0,.live 1 ((hs.map qP).map V.t) true true)]) ?_ (fun k hk=>?_)
 ·refine qI.rd id ?_ ?_ rfl
  all_goals simp (disch:=omega) only [go_sem,seval,id,qBp]
 ·have hl:(qBp bs k).length=64:=qOw
  by_cases hlt:k<64
  ·by_cases h16:k<16
   ·simp (disch:=omega) only [go_sem,seval,yR,h1,h2,qXs,hl]
    refine⟨hlt,qI.rd id ?_ ?_ rfl⟩
    all_goals simp (disch:=omega) only [go_sem,seval,id,qBp,if_pos h16]
   ·simp (disch:=omega) only [go_sem,seval,yR,h1,h2,qKk,hl]
    refine⟨rfl,rfl,hlt,qI.rd id ?_ ?_ rfl⟩
    all_goals simp (disch:=omega) only [go_sem,seval,id,qBp,if_neg h16]
    rfl
  ·have e:k=64:=by omega
   subst e
   simp (disch:=omega) only [go_sem,seval,yR,ht,hh]
   refine qD 64 (fun k=>[(70,.t (.int .i64 k)),(4,.ref 4096 0 0),(0,.ref 0 0 0),(10,.ref 49200 0 0)]) (fun k=>[(49200,.live 1 (((qBd (qBp bs 64) hs k).map qP).map V.t) true true),(4096,.live 1 (((qBp bs 64).map qP).map V.t) true true),(0,.live 1 ((hs.map qP).map V.t) true true)]) ?_ (fun k hk=>?_)
   ·refine qI.rd id ?_ ?_ rfl
    all_goals simp (disch:=omega) only [go_sem,seval,id,qBd]
   ·have hl2:(qBd (qBp bs 64) hs k).length=8:=qL7 hh
    by_cases hlt:k<64
    ·have hk2:qXx.length=64:=rfl
     simp (config := { maxSteps:=2000000 }) (disch:=(first | omega | (simp only[wL,wK];omega))) only [go_sem,seval,wD,h1,h2,qKk,hl,hl2,hg,hk2]
     repeat refine And.intro rfl ?_
     refine⟨hlt,qI.rd id ?_ ?_ rfl⟩
     all_goals simp (disch:=omega) only [go_sem,seval,id,qBd,rnd,List.drop_eq_nil_of_le (show (qBd (qBp bs 64) hs k).length≤8 by omega)]
    ·have e:k=64:=by omega
     subst e
     simp (disch:=omega) only [go_sem,seval,wD]
     refine qD 8 (fun k=>[(152,.t (.int .i64 k)),(0,.ref 0 0 0),(10,.ref 49200 0 0)]) (fun k=>[(49200,.live 1 (((qBd (qBp bs 64) hs 64).map qP).map V.t) true true),(0,.live 1 (((zGh hs (qBd (qBp bs 64) hs 64) k).map qP).map V.t) true true)]) ?_ (fun k hk=>?_)
     ·refine qI.rd id ?_ ?_ rfl
      all_goals simp (disch:=omega) only [go_sem,seval,id,zGh]
     ·have hl3:(zGh hs (qBd (qBp bs 64) hs 64) k).length=8:=by rw[qJ3,hh]
      by_cases hlt:k<8
      ·simp (disch:=omega) only [go_sem,seval,wE,hl2,hl3]
       refine⟨rfl,hlt,qI.rd id ?_ ?_ rfl⟩
       all_goals simp (disch:=omega) only [go_sem,seval,id,zGh]
      ·have e:k=8:=by omega
       subst e
       simp (disch:=omega) only [go_sem,seval,wE,wP]
end Go.Eng
end
section
set_option maxRecDepth 20000
set_option maxHeartbeats 4000000
namespace Go.Eng
theorem qDu (bs:List UInt8):(wV bs).length=bs.length+1+qWd bs.length+8:=by
 simp only[wV,List.length_append,List.length_replicate,qFd,List.length_cons,List.length_nil]
theorem qPx (bs:List UInt8):(wV bs).length%64=0:=by
 rw[qDu,qWd];omega
def hN (comp:List UInt32→List UInt8→List UInt32) (iv:List UInt32) (p:List UInt8):Nat→List UInt32
 | 0=>iv
 | k+1=>comp (hN comp iv p k) ((p.drop (64*k)).take 64)
def zTu (comp:List UInt32→List UInt8→List UInt32) (iv:List UInt32) (bs:List UInt8):List UInt8:=qAg (hN comp iv (wV bs) ((wV bs).length/64))
def qM7:List UInt32:=[0x6a09e667,0xbb67ae85,0x3c6ef372,0xa54ff53a,0x510e527f,0x9b05688c,0x1f83d9ab,0x5be0cd19]
def zK (bs:List UInt8):List UInt8:=zTu wP qM7 bs
theorem zKt {comp:List UInt32→List UInt8→List UInt32} {iv:List UInt32} {p:List UInt8} {n:Nat} (hc : ∀ h b,(comp h b).length=h.length) (hi:iv.length=n) {k:Nat}:(hN comp iv p k).length=n:=by
 induction k with
 | zero=>exact hi
 | succ k ih=>rw[hN,hc,ih]
theorem qJn (h:List UInt32) (b:List UInt8):(wP h b).length=h.length:=qJ3
theorem qRr {p:List UInt8} {k:Nat}:(hN wP qM7 p k).length=8:=zKt qJn rfl
def qHu:Ct where
 α:=List UInt8
 as x:=[.t (.sl (x.map qA))]
 ins _:=[]
 pre x:=x.length<1000000000
 r x:= .sl 0 0 (wV x).length
 outs x:=[.live 1 (((wV x).map qA).map V.t) true false]
 inj:=by
  intro a b h _
  simp[qZ] at h
  subst h;exact⟨rfl,rfl⟩
theorem zFr {bs:List UInt8} (h:bs.length<1000000000):qHu.fs [.t (.sl (bs.map qA))] []=some (.sl 0 0 (wV bs).length,[.live 1 (((wV bs).map qA).map V.t) true false]):=qHu.eq bs h
def kW:Ct where
 α:=List UInt32
 as x:=[.t (.sl (x.map qP))]
 ins _:=[]
 pre x:=x.length<1000000000
 r x:= .sl 0 0 (4*x.length)
 outs x:=[.live 1 (((qAg x).map qA).map V.t) true false]
 inj:=by
  intro a b h _
  simp[zFi] at h
  subst h;exact⟨rfl,rfl⟩
theorem qMl {ws:List UInt32} (h:ws.length<1000000000):kW.fs [.t (.sl (ws.map qP))] []=some (.sl 0 0 (4*ws.length),[.live 1 (((qAg ws).map qA).map V.t) true false]):=kW.eq ws h
def kU (n:Nat) (comp:List UInt32→List UInt8→List UInt32):Ct where
 α:=List UInt32×List UInt8
 as x:=[.ref 0 0 0,.t (.sl (x.2.map qA))]
 ins x:=[.live 1 ((x.1.map qP).map V.t) true true]
 pre x:=x.2.length=64∧x.1.length=n
 r _:= .tup []
 outs x:=[.live 1 (((comp x.1 x.2).map qP).map V.t) true true]
 inj:=by
  rintro⟨a,b⟩ ⟨c,d⟩ h1 h2
  simp[qZ] at h1
  simp only[Ob.live.injEq,zPt,zFi,List.cons.injEq] at h2
  obtain⟨⟨_,rfl,_,_⟩,_⟩:=h2
  subst h1;exact⟨rfl,rfl⟩
theorem zJm {n:Nat} {comp:List UInt32→List UInt8→List UInt32} {hs:List UInt32} {bs:List UInt8} (h:bs.length=64∧hs.length=n):(kU n comp).fs [.ref 0 0 0,.t (.sl (bs.map qA))] [.live 1 ((hs.map qP).map V.t) true true] =
  some (.tup [],[.live 1 (((comp hs bs).map qP).map V.t) true true]):=(kU n comp).eq (hs,bs) h
theorem qPa (tab:Tab) (gl:Gl) (n1 n2 n3 n4:Nat) (h1:tab.look n1=some qHu.fs) (h3:tab.look n3=some kW.fs) (h4:tab.look n4=some (kU 8 wP).fs) (bs:List UInt8) (hb:bs.length<1000000000) :
  (qAp n1 n2 n3 n4).wp tab gl (qE 0 [.t (.int .i64 1),.t (.sl (bs.map qA))]) (qE 0 []) (xM [] [(4,none)] 0 (fun r o=>r = .sl 0 0 32∧o=[.live 1 (((zK bs).map qA).map V.t) true false])):=by
 have hp:=qDu bs
 have hm:=qPx bs
 simp (disch:=omega) only [go_sem,seval,qAp,h1,zFr]
 refine qD ((wV bs).length/64) (fun k=>[(8,V.sl 49168 (64*k) ((wV bs).length-64*k)),(7,V.ref 45072 0 0)]) (fun k=>[(49168,.live 1 (((wV bs).map qA).map V.t) true false),(45072,.live 1 (((hN wP qM7 (wV bs) k).map qP).map V.t) true true)]) ?_ (fun k hk=>?_)
 ·refine qI.rd id ?_ ?_ rfl
  all_goals simp (disch:=omega) only [go_sem,seval,id,hN,qM7,Nat.mul_zero,List.map_cons,List.map_nil]
 ·have hl:(hN wP qM7 (wV bs) k).length=8:=qRr
  by_cases hlt:k<(wV bs).length/64
  ·simp (config := { maxSteps:=2000000 }) (disch:=(first | omega | (simp only[wL,wK];omega))) only [go_sem,seval,qB9,h4,zJm,hl]
   refine⟨hlt,qI.rd id ?_ ?_ rfl⟩
   all_goals simp (config := { maxSteps:=2000000 }) (disch:=(first | omega | (simp only[wL,wK];omega))) only [go_sem,seval,id,hN]
   omega
  ·have e:k=(wV bs).length/64:=by omega
   subst e
   have ht:List.take 8 (hN wP qM7 (wV bs) ((wV bs).length/64))=hN wP qM7 (wV bs) ((wV bs).length/64):=List.take_of_length_le (by omega)
   simp (disch:=omega) only [go_sem,seval,qB9,h3,qMl,hl,ht,zK,zTu]
end Go.Eng
end
section
set_option maxRecDepth 20000
set_option maxHeartbeats 4000000
namespace Go.Eng
def wM (bs:List UInt8):Nat→List UInt32
 | 0=>List.replicate 80 0
 | t+1=>let w:=wM bs t
  w.set t (if t<16 then qVa bs t else qPy (w.getD (t-3) 0 ^^^ w.getD (t-8) 0 ^^^ w.getD (t-14) 0 ^^^ w.getD (t-16) 0) 31)
theorem qMa {bs:List UInt8} {t:Nat}:(wM bs t).length=80:=by
 induction t with
 | zero=>rfl
 | succ t ih=>simp only[wM,List.length_set,ih]
def f1 (t:Nat) (b c d:UInt32):UInt32:=if t<20 then (b &&& c) ^^^ (~~~b &&& d) else if t<40 then b ^^^ c ^^^ d else if t<60 then (b &&& c) ^^^ (b &&& d) ^^^ (c &&& d) else b ^^^ c ^^^ d
def k1 (t:Nat):UInt32:=if t<20 then 0x5a827999 else if t<40 then 0x6ed9eba1 else if t<60 then 0x8f1bbcdc else 0xca62c1d6
def zQv (t:Nat) (w:UInt32) (s:List UInt32):List UInt32:=
 [qPy (s.getD 0 0) 27+f1 t (s.getD 1 0) (s.getD 2 0) (s.getD 3 0)+s.getD 4 0+k1 t+w,s.getD 0 0,qPy (s.getD 1 0) 2,s.getD 2 0,s.getD 3 0]
def vU (ws hs:List UInt32):Nat→List UInt32
 | 0=>hs
 | t+1=>zQv t (ws.getD t 0) (vU ws hs t)
def qCk (hs:List UInt32) (bs:List UInt8):List UInt32:=
 let s:=vU (wM bs 80) hs 80
 [hs.getD 0 0+s.getD 0 0,hs.getD 1 0+s.getD 1 0,hs.getD 2 0+s.getD 2 0,hs.getD 3 0+s.getD 3 0,hs.getD 4 0+s.getD 4 0]
theorem qMq (tab:Tab) (gl:Gl) (n1 n2:Nat) (h1:tab.look n1=some qDm.fs) (h2:tab.look n2=some qJ9.fs) (bs:List UInt8) (x0 x1 x2 x3 x4:UInt32) (hb:bs.length=64) :
  (qAb n1 n2).wp tab gl (qE 0 [.ref 0 0 0,.t (.sl (bs.map qA))]) (qE 0 [.live 1 (([x0,x1,x2,x3,x4].map qP).map V.t) true true]) (zZ [] 1 (fun r o=>r = .tup []∧o=[.live 1 (((qCk [x0,x1,x2,x3,x4] bs).map qP).map V.t) true true])):=by
 simp (disch:=omega) only [go_sem,seval,qAb]
 refine qD 80 (fun k=>[(14,.t (.int .i64 k)),(4,.ref 4096 0 0),(0,.ref 0 0 0),(1,V.t (T.sl (List.map qA bs)))]) (fun k=>[(4096,.live 1 (((wM bs k).map qP).map V.t) true true),(0,.live 1 [.t (qP x0),.t (qP x1),.t (qP x2),.t (qP x3),.t (qP x4)] true true)]) ?_ (fun k hk=>?_)
 ·refine qI.rd id ?_ ?_ rfl
  all_goals simp (disch:=omega) only [go_sem,seval,id,wM]
 ·have hl:(wM bs k).length=80:=qMa
  by_cases hlt:k<80
  ·by_cases h16:k<16
   ·simp (disch:=omega) only [go_sem,seval,vQ,h1,h2,qXs,hl]
    refine⟨hlt,qI.rd id ?_ ?_ rfl⟩
    all_goals simp (disch:=omega) only [go_sem,seval,id,wM,if_pos h16]
   ·simp (disch:=omega) only [go_sem,seval,vQ,h1,h2,qKk,hl]
    repeat refine And.intro rfl ?_
    refine⟨hlt,qI.rd id ?_ ?_ rfl⟩
    all_goals simp (disch:=omega) only [go_sem,seval,id,wM,if_neg h16]
  ·have e:k=80:=by omega
   subst e
   simp (disch:=omega) only [go_sem,seval,vQ]
   repeat refine And.intro rfl ?_
   refine qD 80 (fun k=>[(67,.t (.int .i64 k)),(4,.ref 4096 0 0),(0,.ref 0 0 0),(6,.t (qP ((vU (wM bs 80) [x0,x1,x2,x3,x4] k).getD 0 0))),(7,.t (qP ((vU (wM bs 80) [x0,x1,x2,x3,x4] k).getD 1 0))),(8,.t (qP ((vU (wM bs 80) [x0,x1,x2,x3,x4] k).getD 2 0))),(9,.t (qP ((vU (wM bs 80) [x0,x1,x2,x3,x4] k).getD 3 0))),(10,.t (qP ((vU (wM bs 80) [x0,x1,x2,x3,x4] k).getD 4 0)))])
    (fun k=>[(4096,.live 1 (((wM bs 80).map qP).map V.t) true true),(0,.live 1 [.t (qP x0),.t (qP x1),.t (qP x2),.t (qP x3),.t (qP x4)] true true)]) ?_ (fun k hk=>?_)
   ·refine qI.rd id ?_ ?_ rfl
    all_goals simp (disch:=omega) only [go_sem,seval,id,vU,List.getD_cons_zero,List.getD_cons_succ]
   ·by_cases hlt:k<80
    ·by_cases h20:k<20
     ·have e0:k/20=0:=by omega
      simp (disch:=omega) only [go_sem,seval,jK,h1,h2,qKk,hl,e0]
      repeat refine And.intro rfl ?_
      refine⟨hlt,qI.rd id ?_ ?_ rfl⟩
      all_goals simp (disch:=omega) only [go_sem,seval,id,vU,zQv,f1,k1,if_pos h20,List.getD_cons_zero,List.getD_cons_succ]
     ·by_cases h40:k<40
      ·have e0:k/20=1:=by omega
       simp (disch:=omega) only [go_sem,seval,jK,h1,h2,qKk,hl,e0]
       repeat refine And.intro rfl ?_
       refine⟨hlt,qI.rd id ?_ ?_ rfl⟩
       all_goals simp (disch:=omega) only [go_sem,seval,id,vU,zQv,f1,k1,if_neg h20,if_pos h40,List.getD_cons_zero,List.getD_cons_succ]
      ·by_cases h60:k<60
       ·have e0:k/20=2:=by omega
        simp (disch:=omega) only [go_sem,seval,jK,h1,h2,qKk,hl,e0]
        repeat refine And.intro rfl ?_
        refine⟨hlt,qI.rd id ?_ ?_ rfl⟩
        all_goals simp (disch:=omega) only [go_sem,seval,id,vU,zQv,f1,k1,if_neg h20,if_neg h40,if_pos h60,List.getD_cons_zero,List.getD_cons_succ]
       ·have e0:k/20=3:=by omega
        simp (disch:=omega) only [go_sem,seval,jK,h1,h2,qKk,hl,e0]
        repeat refine And.intro rfl ?_
        refine⟨hlt,qI.rd id ?_ ?_ rfl⟩
        all_goals simp (disch:=omega) only [go_sem,seval,id,vU,zQv,f1,k1,if_neg h20,if_neg h40,if_neg h60,List.getD_cons_zero,List.getD_cons_succ]
    ·have e:k=80:=by omega
     subst e
     simp (disch:=omega) only [go_sem,seval,jK,qCk,List.getD_cons_zero,List.getD_cons_succ]
     repeat refine And.intro rfl ?_
     rfl
end Go.Eng
end
section
set_option maxRecDepth 20000
set_option maxHeartbeats 4000000
namespace Go.Eng
def iv1:List UInt32:=[0x67452301,0xefcdab89,0x98badcfe,0x10325476,0xc3d2e1f0]
theorem qY5 {p:List UInt8} {k:Nat}:(hN qCk iv1 p k).length=5:=by
 cases k<;>rfl
def qJy (bs:List UInt8):List UInt8:=zTu qCk iv1 bs
theorem qTt (tab:Tab) (gl:Gl) (n1 n2 n3 n4:Nat) (h1:tab.look n1=some qHu.fs) (h3:tab.look n3=some kW.fs) (h4:tab.look n2=some (kU 5 qCk).fs) (bs:List UInt8) (hb:bs.length<1000000000) :
  (qAp n1 n2 n3 n4).wp tab gl (qE 0 [.t (.int .i64 0),.t (.sl (bs.map qA))]) (qE 0 []) (xM [] [(4,none)] 0 (fun r o=>r = .sl 0 0 20∧o=[.live 1 (((qJy bs).map qA).map V.t) true false])):=by
 have hp:=qDu bs
 have hm:=qPx bs
 simp (disch:=omega) only [go_sem,↓reduceIte,Nat.reduceAdd,Nat.reduceEqDiff,Nat.reduceLeDiff,reduceCtorEq,qAp,h1,zFr]
 refine qD ((wV bs).length/64) (fun k=>[(6,V.sl 20496 (64*k) ((wV bs).length-64*k)),(5,V.ref 16400 0 0)]) (fun k=>[(20496,.live 1 (((wV bs).map qA).map V.t) true false),(16400,.live 1 (((hN qCk iv1 (wV bs) k).map qP).map V.t) true true)]) ?_ (fun k hk=>?_)
 ·refine qI.rd id ?_ ?_ rfl
  all_goals simp (disch:=omega) only [go_sem,↓reduceIte,Nat.reduceAdd,Nat.reduceEqDiff,Nat.reduceBEq,id,hN,iv1,Nat.mul_zero,List.map_cons,List.map_nil]
 ·have hl:(hN qCk iv1 (wV bs) k).length=5:=qY5
  by_cases hlt:k<(wV bs).length/64
  ·simp (config := { maxSteps:=2000000 }) (disch:=(first | omega | (simp only[wL,wK];omega))) only [go_sem,↓reduceIte,Nat.reduceAdd,Nat.reduceEqDiff,Nat.reduceSub,Nat.reduceLeDiff,Nat.reduceBEq,Int.reduceLE,reduceCtorEq,qB8,h4,zJm,hl]
   refine⟨hlt,qI.rd id ?_ ?_ rfl⟩
   all_goals simp (config := { maxSteps:=2000000 }) (disch:=(first | omega | (simp only[wL,wK];omega))) only [go_sem,↓reduceIte,Nat.reduceAdd,Nat.reduceEqDiff,Nat.reduceBEq,id,hN]
   omega
  ·have e:k=(wV bs).length/64:=by omega
   subst e
   have ht:List.take 5 (hN qCk iv1 (wV bs) ((wV bs).length/64))=hN qCk iv1 (wV bs) ((wV bs).length/64):=List.take_of_length_le (by omega)
   simp (disch:=omega) only [go_sem,↓reduceIte,Nat.reduceAdd,Nat.reduceEqDiff,Nat.reduceMul,Nat.reduceLeDiff,Int.reduceLE,reduceCtorEq,qB8,h3,qMl,hl,ht,qJy,zTu]
theorem zId (tab:Tab) (gl:Gl) (bs:List UInt8) (hb:bs.length<1000000000):qQe.wp tab gl (qE 0 [.t (.sl (bs.map qA))]) (qE 0 []) (xM [] [(2,none)] 0 (fun r o=>r = .sl 0 0 (wV bs).length∧o=[.live 1 (((wV bs).map qA).map V.t) true false])):=by
 have hz:qWd bs.length=(119-bs.length%64)%64:=rfl
 simp (disch:=omega) only [go_sem,↓reduceIte,Nat.reduceAdd,Nat.reduceEqDiff,Nat.reduceLT,Nat.reduceLeDiff,reduceCtorEq,qQe]
 refine qD (qWd bs.length) (fun k=>[(0,.t (.sl (bs.map qA))),(3,.sl 8256 0 (bs.length+1+k))]) (fun k=>[(8256,.live 1 (((bs++[128]++List.replicate k 0).map qA).map V.t) true false)]) ?_ (fun k hk=>?_)
 ·refine qI.rd id ?_ ?_ rfl
  all_goals simp (disch:=omega) only [go_sem,↓reduceIte,Nat.reduceAdd,reduceCtorEq,id]
 ·by_cases hlt:k<qWd bs.length
  ·simp (disch:=omega) only [go_sem,↓reduceIte,Nat.reduceAdd,Nat.reduceEqDiff,Nat.reduceLT,Nat.reduceLeDiff,reduceCtorEq,qEx]
   refine⟨hlt,qI.rd (fun _=>16416) ?_ ?_ rfl⟩
   all_goals simp (disch:=omega) only [go_sem,↓reduceIte,Nat.reduceAdd,reduceCtorEq,List.replicate_succ',List.append_assoc,Nat.add_assoc]
  ·have e:k=qWd bs.length:=by omega
   subst e
   simp (disch:=omega) only [go_sem,↓reduceIte,Nat.reduceAdd,reduceCtorEq,qEx]
   refine qD 8 (fun k=>[(3,.sl 8256 0 (bs.length+1+qWd bs.length+k)),(4,V.t (T.int IntKind.u64 (bs.length*8:Nat))),(5,.t (.int .i64 (7-(k:Int))))]) (fun k=>[(8256,.live 1 (((bs++[128]++List.replicate (qWd bs.length) 0++beL (bs.length*8) k).map qA).map V.t) true false)]) ?_ (fun k hk=>?_)
   ·refine qI.rd id ?_ ?_ rfl
    all_goals simp (disch:=omega) only [go_sem,↓reduceIte,Nat.reduceAdd,Nat.reduceEqDiff,Int.reduceSub,reduceCtorEq,id,zEm,List.append_nil]
   ·by_cases hlt:k<8
    ·have e:8*(7-k)=56-8*k:=by omega
     simp (disch:=omega) only [go_sem,↓reduceIte,Nat.reduceAdd,Nat.reduceEqDiff,Nat.reduceLT,Nat.reduceLeDiff,qEy,qFd,e]
     refine⟨hlt,qI.rd (fun _=>36992) ?_ ?_ rfl⟩
     all_goals simp (disch:=omega) only [go_sem,↓reduceIte,Nat.reduceAdd,Nat.reduceEqDiff,zEl,List.append_assoc,Nat.add_assoc]
     omega
    ·have e:k=8:=by omega
     subst e
     simp (disch:=omega) only [go_sem,↓reduceIte,Nat.reduceAdd,Nat.reduceEqDiff,Int.reduceNeg,Int.reduceSub,qEy,qFd,wV]
theorem zAf (tab:Tab) (gl:Gl) (ws:List UInt32) (hb:ws.length<1000000000):qK9.wp tab gl (qE 0 [.t (.sl (ws.map qP))]) (qE 0 []) (xM [] [(2,none)] 0 (fun r o=>r = .sl 0 0 (4*ws.length)∧o=[.live 1 (((qAg ws).map qA).map V.t) true false])):=by
 simp (disch:=omega) only [go_sem,Nat.reduceAdd,qK9]
 refine qD ws.length (fun k=>[(3,.sl 9000 0 (4*k)),(0,.t (.sl (ws.map qP))),(4,.t (.int .i64 k))]) (fun k=>[(9000,.live 1 (((qAg (ws.take k)).map qA).map V.t) true false)]) ?_ (fun k hk=>?_)
 ·show qI _ _ _ ([(9000,.live 1 [] true false)]++[])
  refine qI.cv0 id ?_ ?_ rfl rfl
  all_goals simp (disch:=omega) only [go_sem,↓reduceIte,Nat.reduceEqDiff,reduceCtorEq,id,List.map_cons,List.map_nil,Nat.mul_zero]
 ·have hl:(qAg (ws.take k)).length=4*k:=by rw[qE5,List.length_take];omega
  by_cases hlt:k<ws.length
  ·simp (disch:=omega) only [go_sem,↓reduceIte,Nat.reduceAdd,Nat.reduceEqDiff,Nat.reduceLT,Nat.reduceLeDiff,reduceCtorEq,qCg,hl]
   refine⟨rfl,hlt,qI.rd (fun _=>24976) ?_ ?_ rfl⟩
   all_goals simp (disch:=omega) only [go_sem,↓reduceIte,Nat.reduceAdd,Nat.reduceEqDiff,reduceCtorEq,qOz,qSl]
   ·omega
   ·simp only[List.append_assoc,List.cons_append,List.nil_append];rfl
  ·have e:k=ws.length:=by omega
   subst e
   rw[List.take_length] at hl
   simp (disch:=omega) only [go_sem,↓reduceIte,Nat.reduceAdd,Nat.reduceEqDiff,reduceCtorEq,qCg,hl,List.take_length]
theorem qPe (tab:Tab) (gl:Gl):qFa.wp tab gl (qE 0 []) (qE 0 []) (zZ [(0,some (64,true))] 0 (fun r o=>r = .t (.agg (qXx.map qP))∧o=[])):=by
 simp (config := { maxSteps:=2000000 }) (disch:=(first | omega | (simp only[wL,wK];omega))) only [go_sem,↓reduceIte,Nat.reduceAdd,Nat.reduceEqDiff,Nat.reduceSub,Nat.reduceLeDiff,reduceCtorEq,qFa,List.drop_replicate]
 rfl
end Go.Eng
end
section
set_option maxRecDepth 20000
set_option maxHeartbeats 8000000
namespace Go.Eng
def qLm:Ct where
 α:=Unit
 as _:=[]
 ins _:=[]
 pre _:=True
 r _:= .t (.agg (qXx.map qP))
 outs _:=[]
 inj:=fun _ _ _ _=>⟨rfl,rfl⟩
theorem zOj:qLm.fs [] []=some (.t (.agg (qXx.map qP)),[]):=qLm.eq () trivial
def qRe:Ct where
 α:=UInt32×Nat
 as x:=[.t (qP x.1),.t (.int .u64 x.2)]
 ins _:=[]
 pre x:=0<x.2∧x.2<32
 r x:= .t (qP (qPy x.1 x.2))
 outs _:=[]
 inj:=by
  rintro⟨a,b⟩ ⟨c,d⟩ h _
  simp[qWu,Int.natCast_inj] at h
  obtain⟨rfl,rfl⟩:=h
  exact⟨rfl,rfl⟩
theorem zL3 {x:UInt32} {n:Nat} (h:0<n∧n<32):qRe.fs [.t (qP x),.t (.int .u64 (no_index (@OfNat.ofNat Int n _)))] []=some (.t (qP (qPy x n)),[]):=qRe.eq (x,n) h
theorem qXb (tab:Tab) (gl:Gl) (n1 n2 n3 n4 n5:Nat) (h1:tab.look n1=some qLm.fs) (h2:tab.look n2=some qHu.fs) (h3:tab.look n3=some qDm.fs) (h4:tab.look n4=some qRe.fs) (h5:tab.look n5=some kW.fs)
  (bs:List UInt8) (hb:bs.length<1000000000) :
  (qJa n1 n2 n3 n4 n5).wp tab gl (qE 0 [.t (.sl (bs.map qA))]) (qE 0 []) (xM [] [(2,none)] 0 (fun r o=>r = .sl 0 0 32∧o=[.live 1 (((zK bs).map qA).map V.t) true false])):=by
 have hp:=qDu bs
 have hm:=qPx bs
 have hz:qWd bs.length<64:=by unfold qWd;omega
 have hk2:qXx.length=64:=rfl
 simp (config := { maxSteps:=2000000 }) (disch:=(first | omega | (simp only[wL,wK];omega))) only [go_sem,seval,qJa,h1,zOj,h2,zFr,hk2]
 refine qD ((wV bs).length/64) (fun k=>[(3,.ref 8208 0 0),(4,.sl 12288 0 8),(5,.sl 16400 0 (wV bs).length),(6,.t (.int .i64 ((64*k:Nat):Int)))])
  (fun k=>[(8208,.live 1 ((qXx.map qP).map V.t) true true),(12288,.live 1 (((hN wP qM7 (wV bs) k).map qP).map V.t) true false),(16400,.live 1 (((wV bs).map qA).map V.t) true false)]) ?_ (fun k hk=>?_)
 ·refine qI.rd id ?_ ?_ rfl
  all_goals simp (disch:=omega) only [go_sem,seval,id,hN,qM7,Nat.mul_zero,List.map_cons,List.map_nil]
 ·have hl:(hN wP qM7 (wV bs) k).length=8:=qRr
  by_cases hlt:k<(wV bs).length/64
  ·generalize hH:hN wP qM7 (wV bs) k=H at hl ⊢
   generalize hB:List.take 64 (List.drop (64*k) (wV bs))=B
   have hBl:B.length=64:=by rw[←hB];simp only[List.length_take,List.length_drop];omega
   simp (disch:=omega) only [go_sem,seval,qBf]
   refine qD 64 (fun t=>[(8,.t (.int .i64 t)),(7,.ref 32768 0 0),(3,.ref 8208 0 0),(4,.sl 12288 0 8),(5,.sl 16400 0 (wV bs).length),(6,.t (.int .i64 ((64*k:Nat):Int)))])
    (fun t=>[(32768,.live 1 (((qBp B t).map qP).map V.t) true true),(8208,.live 1 ((qXx.map qP).map V.t) true true),(12288,.live 1 ((H.map qP).map V.t) true false),(16400,.live 1 (((wV bs).map qA).map V.t) true false)]) ?_ (fun t ht=>?_)
   ·refine qI.rd id ?_ ?_ rfl
    all_goals simp (disch:=omega) only [go_sem,seval,id,qBp]
   ·have hs:(qBp B t).length=64:=qOw
    by_cases hlt2:t<64
    ·by_cases h16:t<16
     ·simp (disch:=omega) only [go_sem,seval,xC,h3,qXs,hs,hB]
      refine⟨hlt2,qI.rd id ?_ ?_ rfl⟩
      all_goals simp (disch:=omega) only [go_sem,seval,id,qBp,if_pos h16]
     ·simp (config := { maxSteps:=2000000 }) (disch:=(first | omega | (simp only[wL,wK];omega))) only [go_sem,seval,xC,h4,zL3,hs]
      repeat refine And.intro rfl ?_
      refine⟨hlt2,qI.rd id ?_ ?_ rfl⟩
      all_goals simp (config := { maxSteps:=2000000 }) (disch:=(first | omega | (simp only[wL,wK];omega))) only [go_sem,seval,id,qBp,if_neg h16]
      rfl
    ·have e:t=64:=by omega
     subst e
     have hT:List.take 8 H=H:=List.take_of_length_le (by omega)
     simp (disch:=omega) only [go_sem,seval,xC,hl,hT]
     refine qD 64 (fun t=>[(12,.t (.int .i64 t)),(11,.sl 69664 0 8),(7,.ref 32768 0 0),(3,.ref 8208 0 0),(4,.sl 12288 0 8),(5,.sl 16400 0 (wV bs).length),(6,.t (.int .i64 ((64*k:Nat):Int)))])
      (fun t=>[(69664,.live 1 (((qBd (qBp B 64) H t).map qP).map V.t) true false),(32768,.live 1 (((qBp B 64).map qP).map V.t) true true),(8208,.live 1 ((qXx.map qP).map V.t) true true),(12288,.live 1 ((H.map qP).map V.t) true false),(16400,.live 1 (((wV bs).map qA).map V.t) true false)]) ?_ (fun t ht=>?_)
     ·refine qI.rd id ?_ ?_ rfl
      all_goals simp (disch:=omega) only [go_sem,seval,id,qBd]
     ·have hr:(qBd (qBp B 64) H t).length=8:=qL7 hl
      by_cases hlt3:t<64
      ·simp (config := { maxSteps:=2000000 }) (disch:=(first | omega | (simp only[wL,wK];omega))) only [go_sem,seval,qBg,h4,zL3,hs,hr,hk2]
       repeat refine And.intro rfl ?_
       refine⟨hlt3,qI.rd (fun i=>if i=69664 then 98656 else i) ?_ ?_ rfl⟩
       all_goals simp (disch:=omega) only [go_sem,seval,qBd,rnd]
       trace_state
      ·have e:t=64:=by omega
       subst e
       simp (disch:=omega) only [go_sem,seval,qBg]
       refine qD 8 (fun t=>[(17,.t (.int .i64 t)),(11,.sl 69664 0 8),(3,.ref 8208 0 0),(4,.sl 12288 0 8),(5,.sl 16400 0 (wV bs).length),(6,.t (.int .i64 ((64*k:Nat):Int)))])
        (fun t=>[(69664,.live 1 (((qBd (qBp B 64) H 64).map qP).map V.t) true false),(8208,.live 1 ((qXx.map qP).map V.t) true true),(12288,.live 1 (((zGh H (qBd (qBp B 64) H 64) t).map qP).map V.t) true false),(16400,.live 1 (((wV bs).map qA).map V.t) true false)]) ?_ (fun t ht=>?_)
       ·refine qI.rd id ?_ ?_ rfl
        all_goals simp (disch:=omega) only [go_sem,seval,id,zGh]
       ·have ha:(zGh H (qBd (qBp B 64) H 64) t).length=8:=by rw[qJ3,hl]
        by_cases hlt4:t<8
        ·simp (disch:=omega) only [go_sem,seval,qBh,hr,ha]
         repeat refine And.intro rfl ?_
         refine⟨hlt4,qI.rd id ?_ ?_ rfl⟩
         all_goals simp (disch:=omega) only [go_sem,seval,id,zGh]
        ·have e:t=8:=by omega
         subst e
         simp (disch:=omega) only [go_sem,seval,qBh]
         refine⟨hlt,qI.rd id ?_ ?_ rfl⟩
         all_goals simp (disch:=omega) only [go_sem,seval,id,hN,hH,hB,wP]
         omega
  ·have e:k=(wV bs).length/64:=by omega
   subst e
   have e2:64*((wV bs).length/64)=(wV bs).length:=by omega
   have ht:List.take 8 (hN wP qM7 (wV bs) ((wV bs).length/64))=hN wP qM7 (wV bs) ((wV bs).length/64):=List.take_of_length_le (by omega)
   simp (disch:=omega) only [go_sem,seval,qBf,e2,h5,qMl,hl,ht,zK,zTu]
end Go.Eng
end
section
set_option maxRecDepth 20000
set_option maxHeartbeats 8000000
namespace Go.Eng
def qLp:Ct where
 α:=UInt32×Nat
 as x:=[.t (qP x.1),.t (.int .u64 x.2)]
 ins _:=[]
 pre x:=0<x.2∧x.2<32
 r x:= .t (qP (qPy x.1 (32-x.2)))
 outs _:=[]
 inj:=by
  rintro⟨a,b⟩ ⟨c,d⟩ h _
  simp[qWu,Int.natCast_inj] at h
  obtain⟨rfl,rfl⟩:=h
  exact⟨rfl,rfl⟩
theorem qL6 {x:UInt32} {n:Nat} (h:0<n∧n<32):qLp.fs [.t (qP x),.t (.int .u64 (no_index (@OfNat.ofNat Int n _)))] []=some (.t (qP (qPy x (32-n))),[]):=qLp.eq (x,n) h
theorem zDr (tab:Tab) (gl:Gl) (n2 n3 n4 n5:Nat) (h2:tab.look n2=some qHu.fs) (h3:tab.look n3=some qDm.fs) (h4:tab.look n4=some qLp.fs) (h5:tab.look n5=some kW.fs)
  (bs:List UInt8) (hb:bs.length<1000000000) :
  (qN3 n2 n3 n4 n5).wp tab gl (qE 0 [.t (.sl (bs.map qA))]) (qE 0 []) (xM [] [(2,none)] 0 (fun r o=>r = .sl 0 0 20∧o=[.live 1 (((qJy bs).map qA).map V.t) true false])):=by
 have hp:=qDu bs
 have hm:=qPx bs
 have hz:qWd bs.length<64:=by unfold qWd;omega
 simp (disch:=omega) only [go_sem,seval,qN3,h2,zFr]
 refine qD ((wV bs).length/64) (fun k=>[(3,.sl 8192 0 5),(4,.sl 12304 0 (wV bs).length),(5,.t (.int .i64 ((64*k:Nat):Int)))])
  (fun k=>[(8192,.live 1 (((hN qCk iv1 (wV bs) k).map qP).map V.t) true false),(12304,.live 1 (((wV bs).map qA).map V.t) true false)]) ?_ (fun k hk=>?_)
 ·refine qI.rd id ?_ ?_ rfl
  all_goals simp (disch:=omega) only [go_sem,seval,id,hN,iv1,Nat.mul_zero,List.map_cons,List.map_nil]
 ·have hl:(hN qCk iv1 (wV bs) k).length=5:=qY5
  by_cases hlt:k<(wV bs).length/64
  ·generalize hH:hN qCk iv1 (wV bs) k=H at hl ⊢
   generalize hB:List.take 64 (List.drop (64*k) (wV bs))=B
   have hBl:B.length=64:=by rw[←hB];simp only[List.length_take,List.length_drop];omega
   simp (disch:=omega) only [go_sem,seval,qC8]
   refine qD 80 (fun t=>[(7,.t (.int .i64 t)),(6,.ref 28672 0 0),(3,.sl 8192 0 5),(4,.sl 12304 0 (wV bs).length),(5,.t (.int .i64 ((64*k:Nat):Int)))])
    (fun t=>[(28672,.live 1 (((wM B t).map qP).map V.t) true true),(8192,.live 1 ((H.map qP).map V.t) true false),(12304,.live 1 (((wV bs).map qA).map V.t) true false)]) ?_ (fun t ht=>?_)
   ·refine qI.rd id ?_ ?_ rfl
    all_goals simp (disch:=omega) only [go_sem,seval,id,wM]
   ·have hs:(wM B t).length=80:=qMa
    by_cases hlt2:t<80
    ·by_cases h16:t<16
     ·simp (disch:=omega) only [go_sem,seval,qAv,h3,qXs,hs,hB]
      repeat refine And.intro rfl ?_
      refine⟨hlt2,qI.rd id ?_ ?_ rfl⟩
      all_goals simp (disch:=omega) only [go_sem,seval,id,wM,if_pos h16]
     ·simp (config := { maxSteps:=2000000 }) (disch:=(first | omega | (simp only[wL,wK];omega))) only [go_sem,seval,qAv,h4,qL6,hs]
      repeat refine And.intro rfl ?_
      refine⟨hlt2,qI.rd id ?_ ?_ rfl⟩
      all_goals simp (disch:=omega) only [go_sem,seval,id,wM,if_neg h16]
    ·have e:t=80:=by omega
     subst e
     simp (disch:=omega) only [go_sem,seval,qAv,hl]
     repeat refine And.intro rfl ?_
     refine qD 80 (fun t=>[(13,.t (.int .i64 t)),(6,.ref 28672 0 0),(3,.sl 8192 0 5),(4,.sl 12304 0 (wV bs).length),(5,.t (.int .i64 ((64*k:Nat):Int))),
       (8,.t (qP ((vU (wM B 80) H t).getD 0 0))),(9,.t (qP ((vU (wM B 80) H t).getD 1 0))),(10,.t (qP ((vU (wM B 80) H t).getD 2 0))),(11,.t (qP ((vU (wM B 80) H t).getD 3 0))),(12,.t (qP ((vU (wM B 80) H t).getD 4 0)))])
      (fun _=>[(28672,.live 1 (((wM B 80).map qP).map V.t) true true),(8192,.live 1 ((H.map qP).map V.t) true false),(12304,.live 1 (((wV bs).map qA).map V.t) true false)]) ?_ (fun t ht=>?_)
     ·refine qI.rd id ?_ ?_ rfl
      all_goals simp (disch:=omega) only [go_sem,seval,id,vU]
     ·by_cases hlt3:t<80
      ·by_cases h20:t<20
       ·simp (config := { maxSteps:=2000000 }) (disch:=(first | omega | (simp only[wL,wK];omega))) only [go_sem,seval,wI,h4,qL6,hs]
        repeat refine And.intro rfl ?_
        refine⟨hlt3,qI.rd id ?_ ?_ rfl⟩
        all_goals simp (disch:=omega) only [go_sem,seval,id,vU,zQv,f1,k1,if_pos h20,List.getD_cons_zero,List.getD_cons_succ]
       ·by_cases h40:t<40
        ·simp (config := { maxSteps:=2000000 }) (disch:=(first | omega | (simp only[wL,wK];omega))) only [go_sem,seval,wI,h4,qL6,hs]
         repeat refine And.intro rfl ?_
         refine⟨hlt3,qI.rd id ?_ ?_ rfl⟩
         all_goals simp (disch:=omega) only [go_sem,seval,id,vU,zQv,f1,k1,if_neg h20,if_pos h40,List.getD_cons_zero,List.getD_cons_succ]
        ·by_cases h60:t<60
         ·simp (config := { maxSteps:=2000000 }) (disch:=(first | omega | (simp only[wL,wK];omega))) only [go_sem,seval,wI,h4,qL6,hs]
          repeat refine And.intro rfl ?_
          refine⟨hlt3,qI.rd id ?_ ?_ rfl⟩
          all_goals simp (disch:=omega) only [go_sem,seval,id,vU,zQv,f1,k1,if_neg h20,if_neg h40,if_pos h60,List.getD_cons_zero,List.getD_cons_succ]
         ·simp (config := { maxSteps:=2000000 }) (disch:=(first | omega | (simp only[wL,wK];omega))) only [go_sem,seval,wI,h4,qL6,hs]
          repeat refine And.intro rfl ?_
          refine⟨hlt3,qI.rd id ?_ ?_ rfl⟩
          all_goals simp (disch:=omega) only [go_sem,seval,id,vU,zQv,f1,k1,if_neg h20,if_neg h40,if_neg h60,List.getD_cons_zero,List.getD_cons_succ]
      ·have e:t=80:=by omega
       subst e
       simp (disch:=omega) only [go_sem,seval,wI,hl]
       repeat refine And.intro rfl ?_
       refine⟨hlt,qI.rd (fun i=>if i=8192 then 110992 else i) ?_ ?_ rfl⟩
       all_goals simp (disch:=omega) only [go_sem,seval,hN,hH,hB,qCk]
       omega
  ·have e:k=(wV bs).length/64:=by omega
   subst e
   have e2:64*((wV bs).length/64)=(wV bs).length:=by omega
   have ht:List.take 5 (hN qCk iv1 (wV bs) ((wV bs).length/64))=hN qCk iv1 (wV bs) ((wV bs).length/64):=List.take_of_length_le (by omega)
   simp (disch:=omega) only [go_sem,seval,qC8,e2,h5,qMl,hl,ht,qJy,zTu]
end Go.Eng
end
section
set_option maxRecDepth 20000
set_option maxHeartbeats 8000000
namespace Go.Eng
def szA (a:Nat):Nat:=if a=0 then 20 else if a=1 then 32 else 0
def qX0 (a:Nat) (bs:List UInt8):List UInt8:=if a=0 then qJy bs else if a=1 then zK bs else []
theorem qSn {comp:List UInt32→List UInt8→List UInt32} {iv:List UInt32} {bs:List UInt8} {n:Nat} (hc : ∀ h b,h.length=n→(comp h b).length=n) (hi:iv.length=n):(zTu comp iv bs).length=4*n:=by
 have : ∀ k p,(hN comp iv p k).length=n:=by
  intro k p
  induction k with
  | zero=>exact hi
  | succ k ih=>exact hc _ _ ih
 rw[zTu,qE5,this]
theorem qM {bs:List UInt8}:(zK bs).length=32:=qSn (n:=8) (fun h b e=>by rw[qJn,e]) rfl
theorem jV {bs:List UInt8}:(qJy bs).length=20:=qSn (n:=5) (fun h b _=>rfl) rfl
theorem qBq {a:Nat} {bs:List UInt8}:(qX0 a bs).length=szA a:=by
 unfold qX0 szA
 split
 ·exact jV
 ·split
  ·exact qM
  ·rfl
theorem zDn (tab:Tab) (gl:Gl) (bs:List UInt8) (hb:bs.length<1000000000):qN1.wp tab gl (qE 0 [.t (.sl (bs.map qA))]) (qE 0 []) (xM [] [(2,none)] 0 (fun r o=>r = .sl 0 0 bs.length∧o=[.live 1 ((bs.map qA).map V.t) true false])):=by
 simp (disch:=omega) only [go_sem,seval,qN1]
def qFj (n:Nat) (f:List UInt8→List UInt8):Ct where
 α:=List UInt8
 as x:=[.t (.sl (x.map qA))]
 ins _:=[]
 pre x:=x.length<1000000000
 r _:= .sl 0 0 n
 outs x:=[.live 1 (((f x).map qA).map V.t) true false]
 inj:=by
  intro a b h _
  simp[qZ] at h
  subst h;exact⟨rfl,rfl⟩
theorem qSo {n:Nat} {f:List UInt8→List UInt8} {bs:List UInt8} (h:bs.length<1000000000):(qFj n f).fs [.t (.sl (bs.map qA))] []=some (.sl 0 0 n,[.live 1 (((f bs).map qA).map V.t) true false]):=(qFj n f).eq bs h
theorem zIc (tab:Tab) (gl:Gl) (n1 n2:Nat) (h1:tab.look n1=some (qFj 20 qJy).fs) (h2:tab.look n2=some (qFj 32 zK).fs) (a:Nat) (ha:a<2) (bs:List UInt8) (hb:bs.length<1000000000) :
  (qJ2 n1 n2).wp tab gl (qE 0 [.t (.int .i64 a),.t (.sl (bs.map qA))]) (qE 0 []) (xM [] [(4,none)] 0 (fun r o=>r = .sl 0 0 (szA a)∧o=[.live 1 (((qX0 a bs).map qA).map V.t) true false])):=by
 rcases (show a=0∨a=1 by omega) with rfl | rfl
 ·simp (disch:=omega) only [go_sem,seval,qJ2,h1,qSo,szA,qX0]
 ·simp (disch:=omega) only [go_sem,seval,qJ2,h2,qSo,szA,qX0]
def zNp (n:Nat):List UInt8:=[UInt8.ofNat (n/2^24),UInt8.ofNat (n/2^16),UInt8.ofNat (n/2^8),UInt8.ofNat n]
def zH (tag:Nat) (fs:List (List UInt8)):List UInt8:=UInt8.ofNat tag::fs.flatMap fun f=>zNp f.length++f
theorem qF6 {tag:Nat} {fs:List (List UInt8)} {k:Nat} (h:k<fs.length):zH tag (fs.take (k+1))=zH tag (fs.take k)++zNp (fs.getD k []).length++fs.getD k []:=by
 rw[qDy (d:=[]) h];simp[zH]
theorem qLu {tag:Nat} {fs:List (List UInt8)} {k:Nat}:(zH tag (fs.take k)).length≤(zH tag fs).length:=by
 have:zH tag fs=zH tag (fs.take k)++(fs.drop k).flatMap fun f=>zNp f.length++f:=by
  simp only[zH,List.cons_append,←List.flatMap_append,List.take_append_drop]
 rw[this,List.length_append];omega
theorem qY1 {tag:Nat} {fs:List (List UInt8)}:4*fs.length+1≤(zH tag fs).length:=by
 simp only[zH,List.length_cons]
 have:4*fs.length≤(fs.flatMap fun f=>zNp f.length++f).length:=by
  induction fs with
  | nil=>simp
  | cons f r ih=>
   have h4 : ∀ n,(zNp n).length=4:=fun _=>rfl
   simp only[List.flatMap_cons,List.length_append,List.length_cons,h4];omega
 omega
theorem qTs (tab:Tab) (gl:Gl) (tag:Nat) (ht:tag<256) (fs:List (List UInt8)) (hb:(zH tag fs).length<1000000000):qG8.wp tab gl (qE 0 [.t (.int .i64 tag),.t (.sl (fs.map bsT))]) (qE 0 []) (xM [] [(4,none)] 0 (fun r o=>r = .sl 0 0 (zH tag fs).length∧o=[.live 1 (((zH tag fs).map qA).map V.t) true false])):=by
 simp (disch:=omega) only [go_sem,seval,qG8]
 have hge:=qY1 (tag:=tag) (fs:=fs)
 refine qD fs.length (fun k=>[(5,.sl 8224 0 (zH tag (fs.take k)).length),(12,V.t (T.sl (List.map bsT fs))),(13,.t (.int .i64 fs.length)),(14,.t (.int .i64 k))]) (fun k=>[(8224,.live 1 (((zH tag (fs.take k)).map qA).map V.t) true false)]) ?_ (fun k hk=>?_)
 ·refine qI.rd id ?_ ?_ rfl
  all_goals simp (disch:=omega) only [go_sem,seval,id,zH,List.flatMap_nil,List.map_cons,List.map_nil]
 ·have h0:=qLu (tag:=tag) (fs:=fs) (k:=k)
  by_cases hlt:k<fs.length
  ·have h1:=qLu (tag:=tag) (fs:=fs) (k:=k+1)
   rw[qF6 hlt,List.length_append,List.length_append] at h1
   have h2:(zNp (fs.getD k []).length).length=4:=rfl
   simp (disch:=omega) only [go_sem,seval,qAo]
   refine⟨hlt,qI.rd (fun _=>32800) ?_ ?_ rfl⟩
   all_goals simp (disch:=omega) only [go_sem,seval,qF6,zNp]
   simp only[List.append_assoc,List.cons_append,List.nil_append]
  ·have e:k=fs.length:=by omega
   subst e
   simp (disch:=omega) only [go_sem,seval,qAo,List.take_length]
theorem zAd (tab:Tab) (gl:Gl) (tag:Nat) (ht:tag<256) (fs:List (List UInt8)) (hb:(zH tag fs).length<1000000000):qK8.wp tab gl (qE 0 [.t (.int .i64 tag),.t (.sl (fs.map bsT))]) (qE 0 []) (xM [] [(4,none)] 0 (fun r o=>r = .sl 0 0 (zH tag fs).length∧o=[.live 1 (((zH tag fs).map qA).map V.t) true false])):=by
 simp (disch:=omega) only [go_sem,seval,qK8]
 have hge:=qY1 (tag:=tag) (fs:=fs)
 refine qD fs.length (fun k=>[(5,.sl 8224 0 (zH tag (fs.take k)).length),(1,V.t (T.sl (List.map bsT fs))),(6,.t (.int .i64 k))]) (fun k=>[(8224,.live 1 (((zH tag (fs.take k)).map qA).map V.t) true false)]) ?_ (fun k hk=>?_)
 ·refine qI.rd id ?_ ?_ rfl
  all_goals simp (disch:=omega) only [go_sem,seval,id,zH,List.flatMap_nil,List.map_cons,List.map_nil]
 ·have h0:=qLu (tag:=tag) (fs:=fs) (k:=k)
  by_cases hlt:k<fs.length
  ·have h1:=qLu (tag:=tag) (fs:=fs) (k:=k+1)
   rw[qF6 hlt,List.length_append,List.length_append] at h1
   have h2:(zNp (fs.getD k []).length).length=4:=rfl
   simp (disch:=omega) only [go_sem,seval,qCf]
   refine⟨hlt,qI.rd (fun _=>32848) ?_ ?_ rfl⟩
   all_goals simp (disch:=omega) only [go_sem,seval,qF6,zNp]
   simp only[List.append_assoc,List.cons_append,List.nil_append]
  ·have e:k=fs.length:=by omega
   subst e
   simp (disch:=omega) only [go_sem,seval,qCf,List.take_length]
theorem zDp (tab:Tab) (gl:Gl) (a b:List UInt8) (ha:a.length<1000000000) (hb:b.length<1000000000):qHg.wp tab gl (qE 0 [.t (.sl (a.map qA)),.t (.sl (b.map qA))]) (qE 0 []) (zZ [(4,none)] 0 (fun r o=>r = .t (.bool (decide (a=b)))∧o=[])):=by
 by_cases hl:a.length=b.length
 ·simp (disch:=omega) only [go_sem,seval,qHg]
  refine yO a.length (fun i=>a.take i=b.take i) (fun k=>[(5,.t (.int .i64 k)),(0,.t (.sl (a.map qA))),(1,.t (.sl (b.map qA)))]) (fun _=>[]) rfl ?_ (fun k hk hP=>?_)
  ·refine qI.rd id ?_ ?_ rfl
   all_goals simp (disch:=omega) only [go_sem,seval,id]
  ·by_cases hlt:k<a.length
   ·by_cases he:a.getD k 0=b.getD k 0
    ·simp (disch:=omega) only [go_sem,seval,qAu,he]
     refine⟨rfl,hlt,?_,qI.rd id ?_ ?_ rfl⟩
     ·rw[qDy (d:=0) hlt,qDy (d:=0) (by omega),hP,he]
     all_goals simp (disch:=omega) only [go_sem,seval,id]
    ·have hne : ¬ a=b:=fun h=>he (by rw[h])
     simp (disch:=omega) only [go_sem,seval,qAu,he,hne]
     rfl
   ·have e:k=a.length:=by omega
    subst e
    rw[List.take_length,hl,List.take_length] at hP
    simp (disch:=omega) only [go_sem,seval,qAu,hP]
 ·have hne : ¬ a=b:=fun h=>hl (by rw[h])
  simp (disch:=omega) only [go_sem,seval,qHg,hne]
end Go.Eng
end
section
set_option maxRecDepth 20000
set_option maxHeartbeats 8000000
namespace Go.Eng
def xR:Ct where
 α:=List UInt8×List UInt8
 as x:=[.t (.sl (x.1.map qA)),.t (.sl (x.2.map qA))]
 ins _:=[]
 pre x:=x.1.length<1000000000∧x.2.length<1000000000
 r x:= .t (.bool (decide (x.1=x.2)))
 outs _:=[]
 inj:=by
  rintro⟨a,b⟩ ⟨c,d⟩ h _
  simp[qZ] at h
  obtain⟨rfl,rfl⟩:=h
  exact⟨rfl,rfl⟩
theorem qA8 {a b:List UInt8} (h:a.length<1000000000∧b.length<1000000000):xR.fs [.t (.sl (a.map qA)),.t (.sl (b.map qA))] []=some (.t (.bool (decide (a=b))),[]):=xR.eq (a,b) h
def zA6 (l:List (List UInt8)):Prop:=l.length<1000000000 ∧ ∀ x∈l,x.length<1000000000
theorem qF9 {l:List (List UInt8)} (h:zA6 l) (i:Nat):(l.getD i []).length<1000000000:=by
 by_cases hi:i<l.length
 ·have:l.getD i []=l[i]:=by simp[List.getD,hi]
  rw[this];exact h.2 _ (List.getElem_mem hi)
 ·simp[List.getD,List.getElem?_eq_none (Nat.le_of_not_lt hi)]
theorem zAe (tab:Tab) (gl:Gl) (n1:Nat) (h1:tab.look n1=some xR.fs) (a b:List (List UInt8)) (ha:zA6 a) (hb:zA6 b):(qFv n1).wp tab gl (qE 0 [.t (.sl (a.map bsT)),.t (.sl (b.map bsT))]) (qE 0 []) (zZ [(4,none)] 0 (fun r o=>r = .t (.bool (decide (a=b)))∧o=[])):=by
 have hal:=ha.1
 have hbl:=hb.1
 by_cases hl:a.length=b.length
 ·simp (disch:=omega) only [go_sem,seval,qFv]
  refine yO a.length (fun i=>a.take i=b.take i) (fun k=>[(5,.t (.int .i64 k)),(0,.t (.sl (a.map bsT))),(1,.t (.sl (b.map bsT)))]) (fun _=>[]) rfl ?_ (fun k hk hP=>?_)
  ·refine qI.rd id ?_ ?_ rfl
   all_goals simp (disch:=omega) only [go_sem,seval,id]
  ·have m1:=qF9 ha k
   have m2:=qF9 hb k
   by_cases hlt:k<a.length
   ·by_cases he:a.getD k []=b.getD k []
    ·simp (disch:=omega) only [go_sem,seval,xX,h1,qA8,he]
     refine⟨rfl,hlt,?_,qI.rd id ?_ ?_ rfl⟩
     ·rw[qDy (d:=[]) hlt,qDy (d:=[]) (by omega),hP,he]
     all_goals simp (disch:=omega) only [go_sem,seval,id]
    ·have hne : ¬ a=b:=fun h=>he (by rw[h])
     simp (disch:=omega) only [go_sem,seval,xX,h1,qA8,he,hne]
     rfl
   ·have e:k=a.length:=by omega
    subst e
    rw[List.take_length,hl,List.take_length] at hP
    simp (disch:=omega) only [go_sem,seval,xX,hP]
 ·have hne : ¬ a=b:=fun h=>hl (by rw[h])
  simp (disch:=omega) only [go_sem,seval,qFv,hne]
def qA2:Ct where
 α:=Nat×List (List UInt8)
 as x:=[.t (.int .i64 x.1),.t (.sl (x.2.map bsT))]
 ins _:=[]
 pre x:=x.1<256∧(zH x.1 x.2).length<1000000000
 r x:= .sl 0 0 (zH x.1 x.2).length
 outs x:=[.live 1 (((zH x.1 x.2).map qA).map V.t) true false]
 inj:=by
  rintro⟨a,b⟩ ⟨c,d⟩ h _
  simp[qA6,Int.natCast_inj] at h
  obtain⟨rfl,rfl⟩:=h
  exact⟨rfl,rfl⟩
theorem qLv {t:Nat} {fs:List (List UInt8)} (h:t<256∧(zH t fs).length<1000000000):qA2.fs [.t (.int .i64 t),.t (.sl (fs.map bsT))] []=some (.sl 0 0 (zH t fs).length,[.live 1 (((zH t fs).map qA).map V.t) true false]):=qA2.eq (t,fs) h
def qD5 (t:Nat) (fs:List (List UInt8)):List UInt8:=zK (zH t fs)
def kA:Ct where
 α:=Nat×List UInt8
 as x:=[.t (.int .i64 x.1),.t (.sl (x.2.map qA))]
 ins _:=[]
 pre x:=x.1<2∧x.2.length<1000000000
 r x:= .sl 0 0 (szA x.1)
 outs x:=[.live 1 (((qX0 x.1 x.2).map qA).map V.t) true false]
 inj:=by
  rintro⟨a,b⟩ ⟨c,d⟩ h _
  simp[qZ,Int.natCast_inj] at h
  obtain⟨rfl,rfl⟩:=h
  exact⟨rfl,rfl⟩
theorem qT {bs:List UInt8} (h:bs.length<1000000000):kA.fs [.t (.int .i64 0),.t (.sl (bs.map qA))] []=some (.sl 0 0 20,[.live 1 (((qJy bs).map qA).map V.t) true false]):=kA.eq (0,bs) ⟨by simp,h⟩
theorem qS {bs:List UInt8} (h:bs.length<1000000000):kA.fs [.t (.int .i64 1),.t (.sl (bs.map qA))] []=some (.sl 0 0 32,[.live 1 (((zK bs).map qA).map V.t) true false]):=kA.eq (1,bs) ⟨by simp,h⟩
theorem qW2 (tab:Tab) (gl:Gl) (n1 n2:Nat) (h1:tab.look n1=some qA2.fs) (h2:tab.look n2=some kA.fs) (t:Nat) (fs:List (List UInt8)) (ht:t<256) (hb:(zH t fs).length<1000000000) :
  (qI3 n1 n2).wp tab gl (qE 0 [.t (.int .i64 t),.t (.sl (fs.map bsT))]) (qE 0 []) (xM [] [(4,none)] 0 (fun r o=>r = .sl 0 0 32∧o=[.live 1 (((qD5 t fs).map qA).map V.t) true false])):=by
 simp (disch:=omega) only [go_sem,seval,qI3,h1,h2,qLv,qS,qD5]
theorem zDo (tab:Tab) (gl:Gl) (n1 n2:Nat) (h1:tab.look n1=some qA2.fs) (h2:tab.look n2=some (qFj 32 zK).fs) (t:Nat) (fs:List (List UInt8)) (ht:t<256) (hb:(zH t fs).length<1000000000) :
  (qN2 n1 n2).wp tab gl (qE 0 [.t (.int .i64 t),.t (.sl (fs.map bsT))]) (qE 0 []) (xM [] [(4,none)] 0 (fun r o=>r = .sl 0 0 32∧o=[.live 1 (((qD5 t fs).map qA).map V.t) true false])):=by
 simp (disch:=omega) only [go_sem,seval,qN2,h1,h2,qLv,qSo,qD5]
theorem qZ3 (tab:Tab) (gl:Gl) (n1 n2 n3 n4:Nat) (h1:tab.look n1=some qHu.fs) (h2:tab.look n2=some (kU 5 qCk).fs) (h3:tab.look n3=some kW.fs) (h4:tab.look n4=some (kU 8 wP).fs) (a:Nat) (ha:a<2) (bs:List UInt8) (hb:bs.length<1000000000) :
  (qAp n1 n2 n3 n4).wp tab gl (qE 0 [.t (.int .i64 a),.t (.sl (bs.map qA))]) (qE 0 []) (xM [] [(4,none)] 0 (fun r o=>r = .sl 0 0 (szA a)∧o=[.live 1 (((qX0 a bs).map qA).map V.t) true false])):=by
 rcases (show a=0∨a=1 by omega) with rfl | rfl
 ·exact qTt tab gl n1 n2 n3 n4 h1 h3 h2 bs hb
 ·exact qPa tab gl n1 n2 n3 n4 h1 h3 h4 bs hb
end Go.Eng
end
section
namespace Go.Eng
def qDf:AC:=
 (.seq
 (.seq
 (rG 24576 [mv 20 8,bN 21 .geq 20 0])
 (.cond (.tmp 21)
 .skip
 (.exit 0)))
 (.seq
 (.block 1
 (rG 32768 [mv 24 7,mv 25 2,oO 26 (.conv .u64) [.tmp 25],mv 27 8,oO 28 (.bin .mul) [.cst (.t (.int .i64 8)),.tmp 27],oO 29 (.conv .u64) [.tmp 28],bT 30 .shr 26 29,oO 31 (.conv .u8) [.tmp 30],oO 32 (.bslice 1 1 (.t (qA 0)) [0]) [.tmp 31],oO 33 (.append 1 1) [.tmp 24,.tmp 32],mv 7 33]))
 (rG 28672 [mv 22 8,bN 23 .sub 22 1,mv 8 23])))
def qOf:AC:=
 (.seq
 (rG 4096 [mC 6 .nil])
 (.seq
 (rG 8192 [mv 9 0,oO 10 (.append 1 1) [.cst .nil,.tmp 9],mv 7 10])
 (.seq
 (.seq
 (rG 12288 [mv 11 1,bN 12 .lss 11 1,mv 13 12,mF 14 1 13,oF 15 13 (.bin .gtr) [.tmp 14,.cst (.t (.int .i64 8))],oO 16 .pick [.tmp 13,.cst (.t (.bool true)),.tmp 15]])
 (.cond (.tmp 16)
 (.seq
 (rG 16384 [mv 17 7,mv 6 17])
 .ret)
 .skip))
 (.seq
 (.seq
 (rG 20480 [mv 18 1,bN 19 .sub 18 1,mv 8 19])
 (.block 0
 (.loop qDf)))
 (.seq
 (rG 36864 [mv 34 7,mv 6 34])
 .ret)))))
def qC9:AC:=
 (.seq
 (.seq
 (rG 24576 [mv 21 8,bN 22 .geq 21 0])
 (.cond (.tmp 22)
 .skip
 (.exit 0)))
 (.seq
 (.block 1
 (rG 32768 [mv 25 7,mv 26 2,oO 27 (.conv .u64) [.tmp 26],mv 28 8,oO 29 (.conv .u64) [.tmp 28],oO 30 (.bin .mul) [.cst (.t (.int .u64 8)),.tmp 29],bT 31 .shr 27 30,oO 32 (.conv .u8) [.tmp 31],oO 33 (.bslice 1 1 (.t (qA 0)) [0]) [.tmp 32],oO 34 (.append 1 1) [.tmp 25,.tmp 33],mv 7 34]))
 (rG 28672 [mv 23 8,bN 24 .sub 23 1,mv 8 24])))
def qN9:AC:=
 (.seq
 (rG 4096 [mC 6 .nil])
 (.seq
 (rG 8192 [oO 9 (.bslice 1 0 (.t (qA 0)) []) [],mv 10 0,oO 11 (.append 1 1) [.tmp 9,.tmp 10],mv 7 11])
 (.seq
 (.seq
 (rG 12288 [mv 12 1,bN 13 .lss 12 1,mv 14 13,mF 15 1 14,oF 16 14 (.bin .gtr) [.tmp 15,.cst (.t (.int .i64 8))],oO 17 .pick [.tmp 14,.cst (.t (.bool true)),.tmp 16]])
 (.cond (.tmp 17)
 (.seq
 (rG 16384 [mv 18 7,mv 6 18])
 .ret)
 .skip))
 (.seq
 (.seq
 (rG 20480 [mv 19 1,bN 20 .sub 19 1,mv 8 20])
 (.block 0
 (.loop qC9)))
 (.seq
 (rG 36864 [mv 35 7,mv 6 35])
 .ret)))))
def qFu:AC:=
 (.seq
 (rG 4096 [mC 4 (.t (.int .i64 0))])
 (.seq
 (.seq
 (rG 8192 [mv 6 1,bN 7 .lss 6 1])
 (.cond (.tmp 7)
 (.seq
 (rG 12288 [mC 4 (.t (.int .i64 0))])
 .ret)
 .skip))
 (.seq
 (rG 16384 [mv 8 0,mv 9 1,bT 10 .rem 8 9,mv 5 10])
 (.seq
 (.seq
 (rG 20480 [mv 11 5,bN 12 .lss 11 0])
 (.cond (.tmp 12)
 (rG 24576 [mv 13 5,mv 14 1,bT 15 .add 13 14,mv 5 15])
 .skip))
 (.seq
 (rG 28672 [mv 16 5,mv 4 16])
 .ret)))))
def kB:AC:=
 (.seq
 (.seq
 (rG 77824 [mv 61 10,mv 62 7,bT 63 .lss 61 62])
 (.cond (.tmp 63)
 .skip
 (.exit 0)))
 (.block 1
 (.seq
 (rG 81920 [mv 64 10,mv 65 8,oO 66 .min [.tmp 64,.tmp 65],mv 11 66])
 (.reg 86016 (some [0,0,0,6,0,0,48,126,255,511]) [mv 67 10,mv 68 9,mv 69 10,oO 70 (.slice 1 true false false) [.tmp 68,.tmp 69],mv 71 9,mv 72 11,oO 73 (.slice 1 false true false) [.tmp 71,.tmp 72],oO 74 (.copy 1) [.tmp 70,.tmp 73],bT 75 .add 67 74,mv 10 75]))))
def qG7 (n_bits_Mul n_bytealg_MakeNoZero:Nat):AC:=
 (.seq
 (rG 4096 [mC 4 .nil])
 (.seq
 (.seq
 (rG 8192 [mv 12 1,bN 13 .eql 12 0])
 (.cond (.tmp 13)
 (.seq
 (rG 12288 [oO 14 (.bslice 1 0 (.t (qA 0)) []) [],mv 4 14])
 .ret)
 .skip))
 (.seq
 (.seq
 (rG 16384 [mv 15 1,bN 16 .lss 15 0])
 (.cond (.tmp 16)
 (rG 20480 [oO 17 .bad [],⟨none,(.op .bad),[],none⟩])
 .skip))
 (.seq
 (rG 24576 [mv 19 0,oO 20 .len [.tmp 19],oO 21 (.conv .u64) [.tmp 20],mv 22 1,oO 23 (.conv .u64) [.tmp 22],cL 24 n_bits_Mul false [.tmp 21,.tmp 23],mv 18 24,oO 25 (.extract 0) [.tmp 18],oO 26 (.extract 1) [.tmp 18],mv 5 25,mv 6 26])
 (.seq
 (.seq
 (rG 28672 [mv 27 5,oO 28 (.bin .gtr) [.tmp 27,.cst (.t (.int .u64 0))],mv 29 28,mF 30 6 29,oF 31 29 (.bin .gtr) [.tmp 30,.cst (.t (.int .u64 9223372036854775807))],oO 32 .pick [.tmp 29,.cst (.t (.bool true)),.tmp 31]])
 (.cond (.tmp 32)
 (rG 32768 [oO 33 .bad [],⟨none,(.op .bad),[],none⟩])
 .skip))
 (.seq
 (rG 36864 [mv 34 6,oO 35 (.conv .i64) [.tmp 34],mv 7 35])
 (.seq
 (.seq
 (rG 40960 [mv 36 0,oO 37 .len [.tmp 36],bN 38 .eql 37 0])
 (.cond (.tmp 38)
 (.seq
 (rG 45056 [oO 39 (.bslice 1 0 (.t (qA 0)) []) [],mv 4 39])
 .ret)
 .skip))
 (.seq
 (rG 49152 [mv 40 7,mv 8 40])
 (.seq
 (.seq
 (rG 53248 [mv 41 8,bN 42 .gtr 41 8192])
 (.cond (.tmp 42)
 (.seq
 (rG 57344 [mv 43 0,oO 44 .len [.tmp 43],oO 45 (.bin .quo) [.cst (.t (.int .i64 8192)),.tmp 44],mv 46 0,oO 47 .len [.tmp 46],bT 48 .mul 45 47,mv 8 48])
 (.seq
 (rG 61440 [mv 49 8,bN 50 .eql 49 0])
 (.cond (.tmp 50)
 (rG 65536 [mv 51 0,oO 52 .len [.tmp 51],mv 8 52])
 .skip)))
 .skip))
 (.seq
 (rG 69632 [mv 53 7,cL 54 n_bytealg_MakeNoZero false [.tmp 53],mv 55 7,mv 56 7,oO 57 (.slice 1 false true true) [.tmp 54,.tmp 55,.tmp 56],mv 9 57])
 (.seq
 (rG 73728 [mv 58 9,mv 59 0,oO 60 (.copy 1) [.tmp 58,.tmp 59],mv 10 60])
 (.seq
 (.block 0
 (.loop kB))
 (.seq
 (rG 90112 [mv 76 9,mv 4 76])
 .ret)))))))))))))
def qQa (n_bits_Mul32 n_bits_Mul64:Nat):AC:=
 (.seq
 (rG 4096 [mC 4 (.t (.int .u64 0)),mC 5 (.t (.int .u64 0))])
 (.seq
 (.cond (.cst (.t (.bool false)))
 (.seq
 (rG 8192 [mv 11 0,oO 12 (.conv .u32) [.tmp 11],mv 13 1,oO 14 (.conv .u32) [.tmp 13],cL 15 n_bits_Mul32 false [.tmp 12,.tmp 14],mv 10 15,oO 16 (.extract 0) [.tmp 10],oO 17 (.extract 1) [.tmp 10],mv 6 16,mv 7 17])
 (.seq
 (rG 12288 [mv 18 6,oO 19 (.conv .u64) [.tmp 18],mv 20 7,oO 21 (.conv .u64) [.tmp 20],mv 4 19,mv 5 21])
 .ret))
 .skip)
 (.seq
 (rG 16384 [mv 23 0,mv 24 1,cL 25 n_bits_Mul64 false [.tmp 23,.tmp 24],mv 22 25,oO 26 (.extract 0) [.tmp 22],oO 27 (.extract 1) [.tmp 22],mv 8 26,mv 9 27])
 (.seq
 (rG 20480 [mv 28 8,mv 29 9,mv 4 28,mv 5 29])
 .ret))))
def qFt:AC:=
 (.seq
 (rG 4096 [mC 4 (.t (.int .u64 0)),mC 5 (.t (.int .u64 0))])
 (.seq
 (rG 8192 [mv 14 0,oO 15 (.bin .and) [.tmp 14,.cst (.t (.int .u64 4294967295))],mv 6 15])
 (.seq
 (rG 12288 [mv 16 0,oO 17 (.bin .shr) [.tmp 16,.cst (.t (.int .u64 32))],mv 7 17])
 (.seq
 (rG 16384 [mv 18 1,oO 19 (.bin .and) [.tmp 18,.cst (.t (.int .u64 4294967295))],mv 8 19])
 (.seq
 (rG 20480 [mv 20 1,oO 21 (.bin .shr) [.tmp 20,.cst (.t (.int .u64 32))],mv 9 21])
 (.seq
 (rG 24576 [mv 22 6,mv 23 8,bT 24 .mul 22 23,mv 10 24])
 (.seq
 (rG 28672 [mv 25 7,mv 26 8,bT 27 .mul 25 26,mv 28 10,oO 29 (.bin .shr) [.tmp 28,.cst (.t (.int .u64 32))],bT 30 .add 27 29,mv 11 30])
 (.seq
 (rG 32768 [mv 31 11,oO 32 (.bin .and) [.tmp 31,.cst (.t (.int .u64 4294967295))],mv 12 32])
 (.seq
 (rG 36864 [mv 33 11,oO 34 (.bin .shr) [.tmp 33,.cst (.t (.int .u64 32))],mv 13 34])
 (.seq
 (rG 40960 [mv 35 12,mv 36 6,mv 37 9,bT 38 .mul 36 37,bT 39 .add 35 38,mv 12 39])
 (.seq
 (rG 45056 [mv 40 7,mv 41 9,bT 42 .mul 40 41,mv 43 13,bT 44 .add 42 43,mv 45 12,oO 46 (.bin .shr) [.tmp 45,.cst (.t (.int .u64 32))],bT 47 .add 44 46,mv 4 47])
 (.seq
 (rG 49152 [mv 48 0,mv 49 1,bT 50 .mul 48 49,mv 5 50])
 .ret))))))))))))
end Go.Eng
end
section
set_option maxRecDepth 20000
set_option maxHeartbeats 8000000
namespace Go.Eng
def m64 (n:Int):Nat:=(n%18446744073709551616).toNat
def beI (size:Nat) (n:Int) (k:Nat):List UInt8:=(List.range k).map fun i=>UInt8.ofNat (m64 n/2^(8*(size-1-i)))
theorem zEk {size:Nat} {n:Int}:beI size n 0=[]:=rfl
theorem qUr {size:Nat} {n:Int} {k:Nat}:(beI size n k).length=k:=by simp[beI]
theorem zEj {size:Nat} {n:Int} {k:Nat}:beI size n (k+1)=beI size n k++[UInt8.ofNat (m64 n/2^(8*(size-1-k)))]:=by simp[beI,List.range_succ]
theorem zFg {n:Int}:IntKind.u64.wrap n=(m64 n:Int):=by rw[qP8,m64];omega
theorem zD6 (tab:Tab) (gl:Gl) (b:List UInt8) (size:Nat) (n:Int) (hb:b.length<1000000000) (hs:1≤size∧size≤8):qOf.wp tab gl (qE 0 [.t (.sl (b.map qA)),.t (.int .i64 size),.t (.int .i64 n)]) (qE 0 []) (xM [] [(6,none)] 0 (fun r o=>r = .sl 0 0 (b.length+size)∧o=[.live 1 (((b++beI size n size).map qA).map V.t) true false])):=by
 have hw:=zFg (n:=n)
 simp (disch:=omega) only [go_sem,seval,qOf]
 refine qD size (fun k=>[(2,.t (.int .i64 n)),(7,.sl 8208 0 (b.length+k)),(8,.t (.int .i64 ((size:Int)-1-k)))]) (fun k=>[(8208,.live 1 (((b++beI size n k).map qA).map V.t) true false)]) ?_ (fun k hk=>?_)
 ·refine qI.rd id ?_ ?_ rfl
  all_goals simp (disch:=omega) only [go_sem,seval,id,zEk,List.append_nil]
  all_goals omega
 ·have hl:(beI size n k).length=k:=qUr
  by_cases hlt:k<size
  ·simp (disch:=omega) only [go_sem,seval,qDf,hl,hw]
   refine⟨hlt,qI.rd (fun _=>32912) ?_ ?_ rfl⟩
   all_goals simp (disch:=omega) only [go_sem,seval,zEj,List.append_assoc,Nat.add_assoc]
   all_goals first | omega | rfl
  ·have e:k=size:=by omega
   subst e
   simp (disch:=omega) only [go_sem,seval,qDf,hl]
theorem zDy (tab:Tab) (gl:Gl) (b:List UInt8) (size:Nat) (n:Int) (hb:b.length<1000000000) (hs:1≤size∧size≤8):qN9.wp tab gl (qE 0 [.t (.sl (b.map qA)),.t (.int .i64 size),.t (.int .i64 n)]) (qE 0 []) (xM [] [(6,none)] 0 (fun r o=>r = .sl 0 0 (b.length+size)∧o=[.live 1 (((b++beI size n size).map qA).map V.t) true false])):=by
 have hw:=zFg (n:=n)
 simp (disch:=omega) only [go_sem,seval,qN9]
 refine qD size (fun k=>[(2,.t (.int .i64 n)),(7,.sl 8224 0 (b.length+k)),(8,.t (.int .i64 ((size:Int)-1-k)))]) (fun k=>[(8224,.live 1 (((b++beI size n k).map qA).map V.t) true false)]) ?_ (fun k hk=>?_)
 ·refine qI.rd id ?_ ?_ rfl
  all_goals simp (disch:=omega) only [go_sem,seval,id,zEk,List.append_nil]
  all_goals omega
 ·have hl:(beI size n k).length=k:=qUr
  by_cases hlt:k<size
  ·simp (disch:=omega) only [go_sem,seval,qC9,hl,hw]
   refine⟨hlt,qI.rd (fun _=>32912) ?_ ?_ rfl⟩
   all_goals simp (disch:=omega) only [go_sem,seval,zEj,List.append_assoc,Nat.add_assoc]
   all_goals first | omega | rfl
  ·have e:k=size:=by omega
   subst e
   simp (disch:=omega) only [go_sem,seval,qC9,hl]
abbrev Rd:=List UInt8×Nat×Int
end Go.Eng
end
section
namespace Go.Eng
def zU (s:List UInt8):T:= .str ⟨s.toArray⟩
theorem zRp {s:List UInt8}:T.str ⟨s.toArray⟩=zU s:=Eq.trans (Eq.refl _) rfl
theorem qQn (b:ByteArray) : ∀ (n i:Nat) (r:List UInt8),n=b.size-i→ByteArray.toList.loop b i r=r.reverse++b.data.toList.drop i
 | 0,i,r,h=>by
  unfold ByteArray.toList.loop
  rw[if_neg (by omega)]
  have:b.data.toList.drop i=[]:=List.drop_eq_nil_of_le (by have:b.data.toList.length=b.size:=rfl;omega)
  rw[this,List.append_nil]
 | n+1,i,r,h=>by
  unfold ByteArray.toList.loop
  have hi:i<b.size:=by omega
  have hl:b.data.toList.length=b.size:=rfl
  rw[if_pos hi,qQn b n (i+1) _ (by omega)]
  have e:b.data.toList.drop i=b.data.toList[i]'(by omega)::b.data.toList.drop (i+1):=List.drop_eq_getElem_cons (by omega)
  rw[e]
  have e2:b.get! i=b.data.toList[i]'(by omega):=by
   show b.data[i]! = _
   have hi':i<b.data.size:=hi
   rw[getElem!_pos b.data i hi'];simp
  rw[e2];simp
theorem zEi {s:List UInt8}:(ByteArray.mk s.toArray).toList=s:=by
 unfold ByteArray.toList
 rw[qQn _ _ 0 [] rfl];simp
theorem zOd {a b:List UInt8}:qIi .eql (zU a) (zU b)=some (.bool (decide (a=b))):=by
 show some (T.bool ((ByteArray.mk a.toArray).toList==(ByteArray.mk b.toArray).toList))=_
 rw[zEi,zEi]
 by_cases h:a=b<;>simp[h]
theorem zOe {a b:List UInt8}:qIi .neq (zU a) (zU b)=some (.bool (!decide (a=b))):=by
 show some (T.bool (!((ByteArray.mk a.toArray).toList==(ByteArray.mk b.toArray).toList)))=_
 rw[zEi,zEi]
 by_cases h:a=b<;>simp[h]
theorem qQo {a b:List UInt8} (h:a.length+b.length≤9223372036854775807):qIi .add (zU a) (zU b)=some (zU (a++b)):=by
 show (if (ByteArray.mk a.toArray).size+(ByteArray.mk b.toArray).size≤maxLen then some (T.str (ByteArray.mk a.toArray++ByteArray.mk b.toArray)) else none)=_
 have h1:(ByteArray.mk a.toArray).size=a.length:=rfl
 have h2:(ByteArray.mk b.toArray).size=b.length:=rfl
 have h3:maxLen=9223372036854775807:=by decide
 rw[h1,h2,h3,if_pos h]
 have e:ByteArray.mk a.toArray++ByteArray.mk b.toArray=⟨(a++b).toArray⟩:=by
  apply ByteArray.ext
  simp[ByteArray.data_append]
 rw[e];rfl
theorem zMv {a:List UInt8}:qNg [.t (zU a)] = .ret (.t (.int .i64 a.length),[]):=Eq.trans (Eq.refl _) rfl
theorem zC6 {a:List UInt8} {k:IntKind} {i:Nat} (h:i<a.length):qFq [.t (zU a),.t (.int k (i:Nat))] = .ret (.t (qA (a.getD i 0)),[]):=by
 have e:(ByteArray.mk a.toArray).data.toList[(i:Int).toNat]?=some (a.getD i 0):=by simp[List.getD,h]
 simp only[zU,qFq,wA,Q.of,Q.bind,Q.assert,e]
 rw[if_pos (by omega)]
theorem zQw {a:List UInt8} {nb:Nat}:qU5 nb [.t (zU a)]=Q.assert (qCt a.length 1) (.free nb (.ret (.sl nb 0 a.length,[(nb,.live 1 ((a.map qA).map V.t) true false)]))):=by
 have h1:(ByteArray.mk a.toArray).size=a.length:=rfl
 have h2:((ByteArray.mk a.toArray).data.toList.map fun b=>V.t (qA b))=(a.map qA).map V.t:=by simp[List.map_map,Function.comp_def]
 simp only[zU,qU5,h1,h2]
theorem qX7 {bs:List UInt8}:qF0 ((bs.map qA).map V.t)=some bs:=by
 have:=qLi (bs:=bs)
 rw[List.map_map];exact this
theorem qMn {a b:List UInt8}:(zU a=zU b)=(a=b):=by
 apply propext
 constructor
 ·intro h
  have h1:=congrArg (fun x=>match x with | T.str s=>s.data.toList | _=>[]) h
  simpa [zU] using h1
 ·rintro rfl;rfl
theorem zXq {s:List UInt8}:(zU s).cells=[zU s]:=Eq.trans (Eq.refl _) rfl
theorem zX1 {s:List UInt8}:(V.t (zU s)).cells=[V.t (zU s)]:=Eq.trans (Eq.refl _) rfl
theorem zX7 {s:List UInt8}:(V.t (zU s)).plain=true:=Eq.trans (Eq.refl _) rfl
theorem zC9 {s:List UInt8}:(V.t (zU s)).single=true:=Eq.trans (Eq.refl _) rfl
theorem zKh {s:List UInt8}:(zU s).flat=true:=Eq.trans (Eq.refl _) rfl
attribute [go_sem ↓] zOd zOe qQo zMv zC6 zQw
attribute [go_sem] zRp qX7 qMn zXq zX1 zX7 zC9 zKh
end Go.Eng
end
section
namespace Go.Eng
variable {tab:Tab} {gl:Gl} {fs:Fs} {hs:Hs} {Qx:qD2}
def zCi {σ:Type} (Inv:σ→Prop) (μ:σ→Nat) (fI:σ→Fs) (hI:σ→Hs) (s:σ) (fs:Fs) (hs:Hs):Prop := ∃ t,Inv t∧μ t<μ s∧qI fs hs (fI t) (hI t)
def zZm {σ:Type} (Inv:σ→Prop) (μ:σ→Nat) (fI:σ→Fs) (hI:σ→Hs) (s:σ) (Qx:qD2):qD2:=fun e fs' hs'=>match e with | .normal=>zCi Inv μ fI hI s fs' hs' | e=>Qx e fs' hs'
theorem zCj {σ:Type} {Inv:σ→Prop} {μ:σ→Nat} {fI:σ→Fs} {hI:σ→Hs} {s:σ}:zZm Inv μ fI hI s Qx .normal fs hs=zCi Inv μ fI hI s fs hs:=Eq.trans (Eq.refl _) rfl
theorem zKz {σ:Type} {Inv:σ→Prop} {μ:σ→Nat} {fI:σ→Fs} {hI:σ→Hs} {s:σ} {id:Nat}:zZm Inv μ fI hI s Qx (.exit id) fs hs=Qx (.exit id) fs hs:=Eq.trans (Eq.refl _) rfl
theorem zO9 {σ:Type} {Inv:σ→Prop} {μ:σ→Nat} {fI:σ→Fs} {hI:σ→Hs} {s:σ}:zZm Inv μ fI hI s Qx .ret fs hs=Qx .ret fs hs:=Eq.trans (Eq.refl _) rfl
attribute [go_sem] zCj zKz zO9
theorem zCi.of {σ:Type} {Inv:σ→Prop} {μ:σ→Nat} {fI:σ→Fs} {hI:σ→Hs} {s:σ} (t:σ) (h1:Inv t) (h2:μ t<μ s) (h3:qI fs hs (fI t) (hI t)):zCi Inv μ fI hI s fs hs:=⟨t,h1,h2,h3⟩
theorem qEm {a:AC} {σ:Type} (Inv:σ→Prop) (μ:σ→Nat) (fI:σ→Fs) (hI:σ→Hs) (s0:σ) (hP:Inv s0) (h0:qI fs hs (fI s0) (hI s0)) (h : ∀ s,Inv s→a.wp tab gl (fI s) (hI s) (zZm Inv μ fI hI s Qx)):qIv tab gl a fs hs Qx:=by
 refine qH6 (ι := { s:σ // Inv s }) (fun i=>(fI i.1,hI i.1)) (fun i=>μ i.1) ⟨s0,hP⟩ h0 (fun i=>?_)
 refine qEu (fun e f g hq=>?_) (h i.1 i.2)
 cases e with
 | normal=>
  obtain⟨t,h1,h2,h3⟩:=hq
  exact⟨⟨t,h1⟩,h2,h3⟩
 | exit id=>exact hq
 | ret=>exact hq
end Go.Eng
end
section
namespace Go.Eng
def qQd:AC:=
 (.seq
 (rG 4096 [mC 2 .nil])
 (.seq
 (rG 8192 [mv 3 0,oO 4 (.bin .shr) [.tmp 3,.cst (.t (.int .u64 24))],oO 5 (.conv .u8) [.tmp 4],mv 6 0,oO 7 (.bin .shr) [.tmp 6,.cst (.t (.int .u64 16))],oO 8 (.conv .u8) [.tmp 7],mv 9 0,oO 10 (.bin .shr) [.tmp 9,.cst (.t (.int .u64 8))],oO 11 (.conv .u8) [.tmp 10],mv 12 0,oO 13 (.conv .u8) [.tmp 12],oO 14 (.bslice 1 4 (.t (qA 0)) [0,1,2,3]) [.tmp 5,.tmp 8,.tmp 11,.tmp 13],mv 2 14])
 .ret))
def qC4:AC:=
 (.seq
 (rG 20480 [bN 11 .lss 10 64])
 (.seq
 (.cond (.tmp 11)
 .skip
 (.exit 0))
 (.seq
 (.block 1
 (.seq
 (rG 24576 [mv 12 10,mv 5 12])
 (rG 28672 [mv 13 4,mv 14 5,oO 15 (.iaddr 1) [.tmp 13,.tmp 14],oO 16 (.load 1 false) [.tmp 15],mv 17 0,bT 18 .xor 16 17,oO 19 (.iaddr 1) [.tmp 13,.tmp 14],oS 1 19 18])))
 (rG 32768 [bN 20 .add 10 1,mv 10 20]))))
def qNz:AC:=
 (.seq
 (rG 4096 [mC 3 .nil])
 (.seq
 (rG 8192 [oO 6 (.mkslice 1 1 (.t (qA 0))) [.cst (.t (.int .i64 64)),.cst (.t (.int .i64 64))],mv 4 6])
 (.seq
 (rG 12288 [mv 7 4,oO 8 (.load 1 false) [.tmp 1],oO 9 (.copy 1) [.tmp 7,.tmp 8]])
 (.seq
 (.seq
 (rG 16384 [mC 10 (.t (.int .i64 0))])
 (.block 0
 (.loop qC4)))
 (.seq
 (rG 36864 [mv 21 4,mv 3 21])
 .ret)))))
def qUm (n_digest_Sum n_mac_Mac_1:Nat):AC:=
 (.seq
 (rG 4096 [oO 2 .box [.tmp 0],mC 4 .nil])
 (.seq
 (.seq
 (rG 8192 [oO 7 (.load 1 false) [.tmp 2],oO 8 .len [.tmp 7],bN 9 .gtr 8 64])
 (.cond (.tmp 9)
 (rG 12288 [oO 10 (.load 1 false) [.tmp 2],cL 11 n_digest_Sum false [.cst (.t (.int .i64 1)),.tmp 10],oS 1 2 11])
 .skip))
 (.seq
 (rG 16384 [oO 12 (.mkfn n_mac_Mac_1) [.tmp 2],mv 5 12])
 (.seq
 (rG 20480 [mv 13 5,⟨some 14,(.callv true),[.tmp 13,.cst (.t (qA 54))],none⟩,mv 15 1,oO 16 (.append 1 1) [.tmp 14,.tmp 15],cL 17 n_digest_Sum false [.cst (.t (.int .i64 1)),.tmp 16],mv 6 17])
 (.seq
 (rG 24576 [mv 18 5,⟨some 19,(.callv true),[.tmp 18,.cst (.t (qA 92))],none⟩,mv 20 6,oO 21 (.append 1 1) [.tmp 19,.tmp 20],cL 22 n_digest_Sum false [.cst (.t (.int .i64 1)),.tmp 21],mv 4 22])
 .ret)))))
def qCc (n_mac_four n_mac_Mac:Nat):AC:=
 (.seq
 (.seq
 (rG 32768 [mv 29 10,oO 30 .len [.tmp 29],mv 31 3,bT 32 .lss 30 31])
 (.cond (.tmp 32)
 .skip
 (.exit 0)))
 (.seq
 (.block 1
 (rG 40960 [mv 35 10,mv 36 0,mv 37 11,cL 38 n_mac_four false [.tmp 37],mv 39 9,oO 40 (.append 1 1) [.tmp 38,.tmp 39],cL 41 n_mac_Mac false [.tmp 36,.tmp 40],oO 42 (.append 1 1) [.tmp 35,.tmp 41],mv 10 42]))
 (rG 36864 [mv 33 11,bN 34 .add 33 1,mv 11 34])))
def qK6 (n_mac_four n_mac_Mac:Nat):AC:=
 (.seq
 (rG 4096 [mC 8 .nil])
 (.seq
 (.seq
 (rG 8192 [mv 12 3,bN 13 .lss 12 1,mv 14 13,mF 15 3 14,oF 16 14 (.bin .gtr) [.tmp 15,.cst (.t (.int .i64 1024))],oO 17 .pick [.tmp 14,.cst (.t (.bool true)),.tmp 16]])
 (.cond (.tmp 17)
 (.seq
 (rG 12288 [mC 8 .nil])
 .ret)
 .skip))
 (.seq
 (rG 16384 [mv 18 1,oO 19 .s2b [.tmp 18],oO 20 (.bslice 1 1 (.t (qA 0)) [0]) [.cst (.t (qA 0))],oO 21 (.append 1 1) [.tmp 19,.tmp 20],mv 22 2,oO 23 (.append 1 1) [.tmp 21,.tmp 22],mv 9 23])
 (.seq
 (rG 20480 [mv 24 9,mv 25 3,oO 26 (.bin .mul) [.cst (.t (.int .i64 8)),.tmp 25],cL 27 n_mac_four false [.tmp 26],oO 28 (.append 1 1) [.tmp 24,.tmp 27],mv 9 28])
 (.seq
 (rG 24576 [mC 10 .nil])
 (.seq
 (.seq
 (rG 28672 [mC 11 (.t (.int .i64 1))])
 (.block 0
 (.loop (qCc n_mac_four n_mac_Mac))))
 (.seq
 (rG 45056 [mv 43 10,mv 44 3,mv 45 3,oO 46 (.slice 1 false true true) [.tmp 43,.tmp 44,.tmp 45],mv 8 46])
 .ret)))))))
def qN7:AC:=
 (.seq
 (rG 4096 [mC 2 .nil])
 (.seq
 (rG 8192 [mv 3 0,oO 4 (.bin .shr) [.tmp 3,.cst (.t (.int .u64 24))],oO 5 (.conv .u8) [.tmp 4],mv 6 0,oO 7 (.bin .shr) [.tmp 6,.cst (.t (.int .u64 16))],oO 8 (.conv .u8) [.tmp 7],mv 9 0,oO 10 (.bin .shr) [.tmp 9,.cst (.t (.int .u64 8))],oO 11 (.conv .u8) [.tmp 10],mv 12 0,oO 13 (.conv .u8) [.tmp 12],oO 14 (.bslice 1 4 (.t (qA 0)) [0,1,2,3]) [.tmp 5,.tmp 8,.tmp 11,.tmp 13],mv 2 14])
 .ret))
def qBu:AC:=
 (.seq
 (.seq
 (rG 24576 [mv 16 7,bN 17 .lss 16 64])
 (.cond (.tmp 17)
 .skip
 (.exit 0)))
 (.seq
 (.block 1
 (.seq
 (rG 32768 [mC 8 (.t (qA 0))])
 (.seq
 (.seq
 (rG 36864 [mv 20 7,mv 21 0,oO 22 .len [.tmp 21],bT 23 .lss 20 22])
 (.cond (.tmp 23)
 (rG 40960 [mv 24 0,mv 25 7,oO 26 (.iaddr 1) [.tmp 24,.tmp 25],oO 27 (.load 1 false) [.tmp 26],mv 8 27])
 .skip))
 (rG 45056 [mv 28 5,mv 29 7,mv 30 6,mv 31 7,mv 32 8,oO 33 (.bin .xor) [.tmp 32,.cst (.t (qA 54))],mv 34 8,oO 35 (.bin .xor) [.tmp 34,.cst (.t (qA 92))],oO 36 (.iaddr 1) [.tmp 28,.tmp 29],oS 1 36 33,oO 37 (.iaddr 1) [.tmp 30,.tmp 31],oS 1 37 35]))))
 (rG 28672 [mv 18 7,bN 19 .add 18 1,mv 7 19])))
def qQf (n_ref1_Sum256:Nat):AC:=
 (.seq
 (rG 4096 [mC 4 .nil])
 (.seq
 (.seq
 (rG 8192 [mv 9 0,oO 10 .len [.tmp 9],bN 11 .gtr 10 64])
 (.cond (.tmp 11)
 (rG 12288 [mv 12 0,cL 13 n_ref1_Sum256 false [.tmp 12],mv 0 13])
 .skip))
 (.seq
 (.reg 16384 (some [0,0,1,7]) [oO 14 (.mkslice 1 1 (.t (qA 0))) [.cst (.t (.int .i64 64)),.cst (.t (.int .i64 64))],oO 15 (.mkslice 1 1 (.t (qA 0))) [.cst (.t (.int .i64 64)),.cst (.t (.int .i64 64))],mv 5 14,mv 6 15])
 (.seq
 (.seq
 (rG 20480 [mC 7 (.t (.int .i64 0))])
 (.block 0
 (.loop qBu)))
 (.seq
 (rG 49152 [mv 38 6,mv 39 5,mv 40 1,oO 41 (.append 1 1) [.tmp 39,.tmp 40],cL 42 n_ref1_Sum256 false [.tmp 41],oO 43 (.append 1 1) [.tmp 38,.tmp 42],cL 44 n_ref1_Sum256 false [.tmp 43],mv 4 44])
 .ret)))))
def qBi (n_ref2_four n_ref2_Mac:Nat):AC:=
 (.seq
 (.seq
 (rG 24576 [mv 18 9,oO 19 .len [.tmp 18],mv 20 3,bT 21 .lss 19 20])
 (.cond (.tmp 21)
 .skip
 (.exit 0)))
 (.seq
 (.block 1
 (.seq
 (rG 32768 [mv 24 10,cL 25 n_ref2_four false [.tmp 24],mv 26 1,oO 27 .appstr [.tmp 25,.tmp 26],mv 11 27])
 (.seq
 (rG 36864 [mv 28 11,oO 29 (.bslice 1 1 (.t (qA 0)) [0]) [.cst (.t (qA 0))],oO 30 (.append 1 1) [.tmp 28,.tmp 29],mv 31 2,oO 32 (.append 1 1) [.tmp 30,.tmp 31],mv 33 3,oO 34 (.bin .mul) [.cst (.t (.int .i64 8)),.tmp 33],cL 35 n_ref2_four false [.tmp 34],oO 36 (.append 1 1) [.tmp 32,.tmp 35],mv 11 36])
 (rG 40960 [mv 37 9,mv 38 0,mv 39 11,cL 40 n_ref2_Mac false [.tmp 38,.tmp 39],oO 41 (.append 1 1) [.tmp 37,.tmp 40],mv 9 41]))))
 (rG 28672 [mv 22 10,bN 23 .add 22 1,mv 10 23])))
def qJd (n_ref2_four n_ref2_Mac:Nat):AC:=
 (.seq
 (rG 4096 [mC 8 .nil])
 (.seq
 (.seq
 (rG 8192 [mv 12 3,bN 13 .lss 12 1,mv 14 13,mF 15 3 14,oF 16 14 (.bin .gtr) [.tmp 15,.cst (.t (.int .i64 1024))],oO 17 .pick [.tmp 14,.cst (.t (.bool true)),.tmp 16]])
 (.cond (.tmp 17)
 (.seq
 (rG 12288 [mC 8 .nil])
 .ret)
 .skip))
 (.seq
 (rG 16384 [mC 9 .nil])
 (.seq
 (.seq
 (rG 20480 [mC 10 (.t (.int .i64 1))])
 (.block 0
 (.loop (qBi n_ref2_four n_ref2_Mac))))
 (.seq
 (rG 45056 [mv 42 9,mv 43 3,oO 44 (.slice 1 false true false) [.tmp 42,.tmp 43],mv 8 44])
 .ret)))))
end Go.Eng
end
section
set_option maxRecDepth 20000
set_option maxHeartbeats 64000000
namespace Go.Eng
def qM9 (w:UInt8) (k:List UInt8):List UInt8:=(k++List.replicate (64-k.length) 0).map (· ^^^ w)
def zCg (k b:List UInt8):List UInt8:=zK (qM9 92 k++zK (qM9 54 k++b))
theorem qGb {w:UInt8} {k:List UInt8} (h:k.length≤64):(qM9 w k).length=64:=by simp[qM9];omega
theorem qY6 {k b:List UInt8}:List.take 32 (zCg k b)=zCg k b:=List.take_of_length_le (by rw[zCg,qM];omega)
theorem qF7 {k b:List UInt8}:(zCg k b).length=32:=qM
def xk (w:UInt8) (z:List UInt8) (k:Nat):List UInt8:=(z.take k).map (· ^^^ w)++z.drop k
theorem jK9 {w:UInt8} {z:List UInt8}:xk w z 0=z:=by simp[xk]
theorem jLa {w:UInt8} {z:List UInt8} {n:Nat} (h:z.length=n):xk w z n=z.map (· ^^^ w):=by subst h;simp[xk]
theorem zNk {w:UInt8} {z:List UInt8} {k:Nat}:(xk w z k).length=z.length:=by simp[xk];omega
theorem jCp {w:UInt8} {z:List UInt8} {k:Nat} (h:k<z.length):(xk w z k).getD k 0=z.getD k 0:=by
 have hl:((z.take k).map (· ^^^ w)).length=k:=by simp;omega
 rw[xk,List.getD_eq_getElem?_getD,List.getElem?_append_right (by omega),hl,Nat.sub_self,List.getElem?_drop,List.getD_eq_getElem?_getD];rfl
theorem jCq {w:UInt8} {z:List UInt8} {k:Nat} (h:k<z.length):(xk w z k).set k (z.getD k 0 ^^^ w)=xk w z (k+1):=by
 have hl:((z.take k).map (· ^^^ w)).length=k:=by simp;omega
 have hd:z.drop k=z.getD k 0::z.drop (k+1):=by
  rw[List.drop_eq_getElem_cons h];simp[List.getD,List.getElem?_eq_getElem h]
 rw[xk,xk,List.set_append_right _ _ (by omega),hl,Nat.sub_self,hd,List.set_cons_zero,qDy (d:=0) h,List.map_append,List.append_assoc];rfl
theorem zDl (tab:Tab) (gl:Gl) (w:UInt8) (key:List UInt8) (hk:key.length≤64) :
  qNz.wp tab gl (qE 0 [.t (qA w),.ref 0 0 0]) (qE 0 [.live 1 [.t (.sl (key.map qA))] true true]) (xM [] [(3,none)] 1 (fun r o=>r = .sl 1 0 64∧o=[.live 1 [.t (.sl (key.map qA))] true true,.live 1 (((qM9 w key).map qA).map V.t) true false])):=by
 simp (config := { maxSteps:=2000000 }) (disch:=(first | omega | (simp only[wL,wK];omega))) only [go_sem,↓reduceIte,Nat.reduceAdd,Nat.reduceEqDiff,Nat.reduceSub,Nat.reduceMul,Nat.reduceLT,Nat.reduceLeDiff,Nat.reduceBEq,Int.reduceEq,Int.reduceLT,Int.reduceLE,Int.reduceToNat,Int.reduceNeg,Int.reduceAdd,Int.reduceSub,Int.reduceMul,Int.reduceMod,Int.reduceDiv,reduceCtorEq,Nat.reducePow,Int.reducePow,qNz]
 have hz:(List.take 64 key++List.replicate (64-key.length) 0).length=64:=by simp;omega
 have hp:qM9 w key=(List.take 64 key++List.replicate (64-key.length) 0).map (· ^^^ w):=by rw[qM9,List.take_of_length_le hk]
 rw[hp]
 generalize List.take 64 key++List.replicate (64-key.length) 0=z at *
 refine qD 64 (fun k=>[(0,.t (qA w)),(4,.sl 8192 0 64),(10,.t (.int .i64 (k:Nat)))]) (fun k=>[(8192,.live 1 (((xk w z k).map qA).map V.t) true false),(0,.live 1 [.t (.sl (key.map qA))] true true)]) ?_ (fun k hk=>?_)
 ·refine qI.rd id ?_ ?_ rfl
  all_goals simp (config := { maxSteps:=2000000 }) (disch:=(first | omega | (simp only[wL,wK];omega))) only [go_sem,↓reduceIte,Nat.reduceAdd,Nat.reduceEqDiff,Nat.reduceSub,Nat.reduceMul,Nat.reduceLT,Nat.reduceLeDiff,Nat.reduceBEq,Int.reduceEq,Int.reduceLT,Int.reduceLE,Int.reduceToNat,Int.reduceNeg,Int.reduceAdd,Int.reduceSub,Int.reduceMul,Int.reduceMod,Int.reduceDiv,reduceCtorEq,Nat.reducePow,Int.reducePow,id,jK9]
  all_goals rfl
 ·have hx:(xk w z k).length=64:=by rw[zNk,hz]
  by_cases hlt:k<64
  ·have hg:=jCp (w:=w) (z:=z) (k:=k) (by omega)
   have hs:=jCq (w:=w) (z:=z) (k:=k) (by omega)
   simp (config := { maxSteps:=2000000 }) (disch:=(first | omega | (simp only[wL,wK];omega))) only [go_sem,↓reduceIte,Nat.reduceAdd,Nat.reduceEqDiff,Nat.reduceSub,Nat.reduceMul,Nat.reduceLT,Nat.reduceLeDiff,Nat.reduceBEq,Int.reduceEq,Int.reduceLT,Int.reduceLE,Int.reduceToNat,Int.reduceNeg,Int.reduceAdd,Int.reduceSub,Int.reduceMul,Int.reduceMod,Int.reduceDiv,reduceCtorEq,Nat.reducePow,Int.reducePow,qC4,hx,hg,hs]
   refine⟨hlt,qI.rd id ?_ ?_ rfl⟩
   all_goals simp (config := { maxSteps:=2000000 }) (disch:=(first | omega | (simp only[wL,wK];omega))) only [go_sem,↓reduceIte,Nat.reduceAdd,Nat.reduceEqDiff,Nat.reduceSub,Nat.reduceMul,Nat.reduceLT,Nat.reduceLeDiff,Nat.reduceBEq,Int.reduceEq,Int.reduceLT,Int.reduceLE,Int.reduceToNat,Int.reduceNeg,Int.reduceAdd,Int.reduceSub,Int.reduceMul,Int.reduceMod,Int.reduceDiv,reduceCtorEq,Nat.reducePow,Int.reducePow,id]
   all_goals first | omega | rfl
  ·have e:k=64:=by omega
   subst e
   have hn:=jLa (w:=w) hz
   have ht:List.take 64 z=z:=List.take_of_length_le (by omega)
   simp (config := { maxSteps:=2000000 }) (disch:=(first | omega | (simp only[wL,wK];omega))) only [go_sem,↓reduceIte,Nat.reduceAdd,Nat.reduceEqDiff,Nat.reduceSub,Nat.reduceMul,Nat.reduceLT,Nat.reduceLeDiff,Nat.reduceBEq,Int.reduceEq,Int.reduceLT,Int.reduceLE,Int.reduceToNat,Int.reduceNeg,Int.reduceAdd,Int.reduceSub,Int.reduceMul,Int.reduceMod,Int.reduceDiv,reduceCtorEq,Nat.reducePow,Int.reducePow,qC4,hn,hz,ht]
def qQ3:Ct where
 α:=UInt8×List UInt8
 as x:=[.t (qA x.1),.ref 0 0 0]
 ins x:=[.live 1 [.t (.sl (x.2.map qA))] true true]
 pre x:=x.2.length≤64
 r _:= .sl 1 0 64
 outs x:=[.live 1 [.t (.sl (x.2.map qA))] true true,.live 1 (((qM9 x.1 x.2).map qA).map V.t) true false]
 inj:=by
  rintro⟨a,b⟩ ⟨c,d⟩ h h2
  simp only[List.cons.injEq,V.t.injEq,qPq,and_true,bsT,Ob.live.injEq,T.sl.injEq,qZ,true_and] at h h2
  subst h h2
  exact⟨rfl,rfl⟩
theorem zLd {w:UInt8} {k:List UInt8} (h:k.length≤64):qQ3.fs [.t (qA w),.ref 0 0 0] [.live 1 [.t (.sl (k.map qA))] true true]=some (.sl 1 0 64,[.live 1 [.t (.sl (k.map qA))] true true,.live 1 (((qM9 w k).map qA).map V.t) true false]):=qQ3.eq (w,k) h
theorem zNd (tab:Tab) (gl:Gl) (n1 n2:Nat) (h1:tab.look n1=some kA.fs) (h2:tab.look n2=some qQ3.fs) (key b:List UInt8) (hk:key.length≤64) (hb:b.length<500000000) :
  (qUm n1 n2).wp tab gl (qE 0 [.t (bsT key),.t (bsT b)]) (qE 0 []) (xM [] [(4,none)] 0 (fun r o=>r = .sl 0 0 32∧o=[.live 1 (((zCg key b).map qA).map V.t) true false])):=by
 have m1:=zLd (w:=54) hk
 have m2:=zLd (w:=92) hk
 have l1:=qGb (w:=54) hk
 have t1:List.take (64+b.length) (qM9 54 key++b)=qM9 54 key++b:=List.take_of_length_le (by simp[l1])
 have l2:=qGb (w:=92) hk
 have t2 : ∀ x,List.take 32 (zK x)=zK x:=fun x=>List.take_of_length_le (by rw[qM];omega)
 have t3 : ∀ x,List.take 96 (qM9 92 key++zK x)=qM9 92 key++zK x:=fun x=>List.take_of_length_le (by rw[List.length_append,l2,qM];omega)
 have hl:(qM9 54 key++b).length=64+b.length:=by simp[l1]
 have hl2:(qM9 92 key++zK (qM9 54 key++b)).length=96:=by rw[List.length_append,l2,qM]
 simp (disch:=omega) only [go_sem,seval,qUm,h1,h2,m1,m2,l1,l2,qM,hl,t1,t2,t3,qS,zCg]
theorem zFq {w:UInt8} {key:List UInt8} {k:Nat} (h:key.length≤64) (hk:k<64):(qM9 w key).getD k 0=key.getD k 0 ^^^ w:=by
 rw[qM9,List.getD_eq_getElem?_getD,List.getElem?_map]
 by_cases hl:k<key.length
 ·rw[List.getElem?_append_left hl,List.getElem?_eq_getElem hl];simp[List.getD,List.getElem?_eq_getElem hl]
 ·rw[List.getElem?_append_right (by omega),List.getElem?_replicate,if_pos (by omega)];simp[List.getD,List.getElem?_eq_none (show key.length≤k by omega)]
theorem zF6 {d:List UInt8} {j n:Nat} {x:UInt8} (h:d.length=j) (hj:j<n):(d++List.replicate (n-j) 0).set j x=d++[x]++List.replicate (n-(j+1)) 0:=by
 rw[List.set_append_right _ _ (by omega),h,Nat.sub_self,show n-j=(n-(j+1))+1 by omega,List.replicate_succ,List.set_cons_zero]
 simp
def upZ (p:List UInt8) (k:Nat):List UInt8:=p.take k++List.replicate (64-k) 0
theorem jGi {p:List UInt8}:upZ p 0=List.replicate 64 0:=rfl
theorem jBo {p:List UInt8} (h:p.length=64):upZ p 64=p:=by
 simp[upZ];exact List.take_of_length_le (by omega)
theorem qU8 {p:List UInt8} {k:Nat} (h:p.length=64) (hk:k≤64):(upZ p k).length=64:=by simp[upZ];omega
theorem zM3 {p:List UInt8} {k:Nat} {x:UInt8} (h:p.length=64) (hk:k<64) (hx:p.getD k 0=x):(upZ p k).set k x=upZ p (k+1):=by
 rw[upZ,zF6 (by simp;omega) hk,upZ,qDy (d:=0) (by omega),hx]
theorem zIe (tab:Tab) (gl:Gl) (n1:Nat) (h1:tab.look n1=some (qFj 32 zK).fs) (key b:List UInt8) (hk:key.length≤64) (hb:b.length<500000000) :
  (qQf n1).wp tab gl (qE 0 [.t (bsT key),.t (bsT b)]) (qE 0 []) (xM [] [(4,none)] 0 (fun r o=>r = .sl 0 0 32∧o=[.live 1 (((zCg key b).map qA).map V.t) true false])):=by
 have l1:=qGb (w:=54) hk
 have l2:=qGb (w:=92) hk
 simp (disch:=omega) only [go_sem,seval,qQf]
 refine And.intro rfl ?_
 refine qD 64 (fun k=>[(0,.t (.sl (key.map qA))),(1,.t (.sl (b.map qA))),(5,.sl 16384 0 64),(6,.sl 16400 0 64),(7,.t (.int .i64 (k:Nat)))]) (fun k=>[(16384,.live 1 (((upZ (qM9 54 key) k).map qA).map V.t) true false),(16400,.live 1 (((upZ (qM9 92 key) k).map qA).map V.t) true false)]) ?_ (fun k hk'=>?_)
 ·refine qI.rd id ?_ ?_ rfl
  all_goals simp (disch:=omega) only [go_sem,seval,id,jGi]
 ·have u1:=qU8 (k:=k) l1 hk'
  have u2:=qU8 (k:=k) l2 hk'
  by_cases hlt:k<64
  ·have g1:=zFq (w:=54) hk hlt
   have g2:=zFq (w:=92) hk hlt
   have s1:=zM3 l1 hlt g1
   have s2:=zM3 l2 hlt g2
   by_cases hin:k<key.length
   ·simp (disch:=omega) only [go_sem,seval,qBu,hin,u1,u2,s1,s2]
    refine⟨hlt,qI.rd id ?_ ?_ rfl⟩
    all_goals simp (disch:=omega) only [go_sem,seval,id]
    all_goals first | omega | rfl
   ·rw[show key.getD k 0=0 by simp[List.getD,List.getElem?_eq_none (show key.length≤k by omega)]] at s1 s2
    simp (disch:=omega) only [go_sem,seval,qBu,hin,u1,u2,s1,s2]
    refine⟨hlt,qI.rd id ?_ ?_ rfl⟩
    all_goals simp (disch:=omega) only [go_sem,seval,id]
    all_goals first | omega | rfl
  ·have e:k=64:=by omega
   subst e
   have t1:List.take (64+b.length) (qM9 54 key++b)=qM9 54 key++b:=List.take_of_length_le (by simp[l1])
   have t2 : ∀ x,List.take 32 (zK x)=zK x:=fun x=>List.take_of_length_le (by rw[qM];omega)
   have t3 : ∀ x,List.take 96 (qM9 92 key++zK x)=qM9 92 key++zK x:=fun x=>List.take_of_length_le (by rw[List.length_append,l2,qM];omega)
   have hl:(qM9 54 key++b).length=64+b.length:=by simp[l1]
   have hl2:(qM9 92 key++zK (qM9 54 key++b)).length=96:=by rw[List.length_append,l2,qM]
   simp (disch:=omega) only [go_sem,seval,qBu,jBo l1,jBo l2,h1,l1,l2,qM,hl,t1,t2,t3,qSo,zCg]
def qJo:Ct where
 α:=List UInt8×List UInt8
 as x:=[.t (.sl (x.1.map qA)),.t (.sl (x.2.map qA))]
 ins _:=[]
 pre x:=x.1.length≤64∧x.2.length<500000000
 r _:= .sl 0 0 32
 outs x:=[.live 1 (((zCg x.1 x.2).map qA).map V.t) true false]
 inj:=by
  rintro⟨a,b⟩ ⟨c,d⟩ h _
  simp[qZ] at h
  obtain⟨rfl,rfl⟩:=h
  exact⟨rfl,rfl⟩
theorem zFh {k b:List UInt8} (h:k.length≤64∧b.length<500000000):qJo.fs [.t (.sl (k.map qA)),.t (.sl (b.map qA))] []=some (.sl 0 0 32,[.live 1 (((zCg k b).map qA).map V.t) true false]):=qJo.eq (k,b) h
def qB1 (n:Nat):List UInt8:=[UInt8.ofNat (n/16777216),UInt8.ofNat (n/65536),UInt8.ofNat (n/256),UInt8.ofNat n]
theorem kX {n:Nat}:(qB1 n).length=4:=rfl
theorem zIb (tab:Tab) (gl:Gl) (n:Nat):qQd.wp tab gl (qE 0 [.t (.int .i64 n)]) (qE 0 []) (xM [] [(2,none)] 0 (fun r o=>r = .sl 0 0 4∧o=[.live 1 (((qB1 n).map qA).map V.t) true true])):=by
 simp (disch:=omega) only [go_sem,seval,qQd,zC5,qB1,List.map_cons,List.map_nil]
theorem zDw (tab:Tab) (gl:Gl) (n:Nat):qN7.wp tab gl (qE 0 [.t (.int .i64 n)]) (qE 0 []) (xM [] [(2,none)] 0 (fun r o=>r = .sl 0 0 4∧o=[.live 1 (((qB1 n).map qA).map V.t) true true])):=by
 simp (disch:=omega) only [go_sem,seval,qN7,zC5,qB1,List.map_cons,List.map_nil]
def qHs:Ct where
 α:=Nat
 as x:=[.t (.int .i64 x)]
 ins _:=[]
 pre _:=True
 r _:= .sl 0 0 4
 outs x:=[.live 1 (((qB1 x).map qA).map V.t) true true]
 inj:=by
  intro a b h _
  simp only[List.cons.injEq,V.t.injEq,T.int.injEq,true_and,and_true,Int.natCast_inj] at h
  subst h
  exact⟨rfl,rfl⟩
theorem zB5 {n:Nat}:qHs.fs [.t (.int .i64 n)] []=some (.sl 0 0 4,[.live 1 (((qB1 n).map qA).map V.t) true true]):=qHs.eq n trivial
theorem zBh {nb id n:Nat} {a:List UInt8}:qB5 nb [.sl id 0 n,.t (zU a)]=Q.get id fun x=>match x with
  | .live z' es true full=>Q.assert (z'=1∧es.length=n∧qCt (n+a.length) 1∧100≤id) (.free nb (.ret (.sl nb 0 (n+a.length),[(id,.dead),(nb,.live 1 (es++(a.map qA).map V.t) true false)])))
  | x=> .fail:=by
 have e : ∀ st:ByteArray,st.size=a.length→(st.data.toList.map fun b=>V.t (qA b))=(a.map qA).map V.t→qB5 nb [.sl id 0 n,.t (.str st)]=Q.get id fun x=>match x with
  | .live z' es true full=>Q.assert (z'=1∧es.length=n∧qCt (n+a.length) 1∧100≤id) (.free nb (.ret (.sl nb 0 (n+a.length),[(id,.dead),(nb,.live 1 (es++(a.map qA).map V.t) true false)])))
  | x=> .fail:=fun st h1 h2=>by
  simp only[qB5,h1,h2]
  congr 1
 exact e _ (by simp[ByteArray.size]) (by simp)
attribute [go_sem ↓] zBh
def drT (label ctx:List UInt8) (n:Nat):List UInt8:=label++[0]++ctx++qB1 (8*n)
def drR (key rest:List UInt8) (k:Nat):List UInt8:=(List.range k).flatMap fun i=>zCg key (qB1 (i+1)++rest)
def drv (key label ctx:List UInt8) (n:Nat):List UInt8:=(drR key (drT label ctx n) ((n+31)/32)).take n
theorem qIn {key rest:List UInt8} : ∀ {k:Nat},(drR key rest k).length=32*k
 | 0=>rfl
 | k+1=>by
  have:=qIn (key:=key) (rest:=rest) (k:=k)
  simp only[drR] at this ⊢
  rw[List.range_succ,List.flatMap_append,List.length_append,this];simp[qF7];omega
theorem zEw {key rest:List UInt8} {k:Nat}:drR key rest (k+1)=drR key rest k++zCg key (qB1 (k+1)++rest):=by
 simp[drR,List.range_succ]
theorem yU {key label ctx:List UInt8} {n:Nat}:(drv key label ctx n).length=n:=by
 rw[drv,List.length_take,qIn];omega
theorem qZ9 (tab:Tab) (gl:Gl) (n1 n2:Nat) (h1:tab.look n1=some qHs.fs) (h2:tab.look n2=some qJo.fs) (key label ctx:List UInt8) (n:Nat) (hk:key.length≤64) (hl:label.length<100000000) (hc:ctx.length<100000000) (hn:1≤n∧n≤1024) :
  (qK6 n1 n2).wp tab gl (qE 0 [.t (.sl (key.map qA)),.t (zU label),.t (.sl (ctx.map qA)),.t (.int .i64 n)]) (qE 0 []) (zZ [(8,none)] 0 (fun r o=>r = .t (.sl ((drv key label ctx n).map qA))∧o=[])):=by
 have t4:List.take 4 (qB1 (8*n))=qB1 (8*n):=rfl
 have lD:(drT label ctx n).length=label.length+1+ctx.length+4:=by simp[drT,qB1];omega
 simp (disch:=omega) only [go_sem,seval,qK6,h1,h2,zB5,kX,t4]
 have hD:label++[0]++ctx++qB1 (8*n)=drT label ctx n:=rfl
 rw[hD]
 generalize hr:drT label ctx n=rest at *
 have hm:label.length+1+ctx.length+4<300000000:=by omega
 generalize label.length+1+ctx.length+4=m at *
 refine qD ((n+31)/32) (fun k=>[(0,.t (.sl (key.map qA))),(3,.t (.int .i64 n)),(9,.sl 20544 0 m),(10,.sl 9000 0 (32*k)),(11,.t (.int .i64 ((k+1:Nat):Int)))]) (fun k=>[(9000,.live 1 (((drR key rest k).map qA).map V.t) true false),(20544,.live 1 ((rest.map qA).map V.t) true false)]) ?_ (fun k hk'=>?_)
 ·refine qI.cv0 (hv:=[(9000,.live 1 [] true false)]) (ho:=[(20544,.live 1 ((rest.map qA).map V.t) true false)]) id ?_ ?_ rfl rfl
  all_goals simp (disch:=omega) only [go_sem,seval,id]
  all_goals rfl
 ·have hR:=qIn (key:=key) (rest:=rest) (k:=k)
  by_cases hlt:32*k<n
  ·have t5:List.take m rest=rest:=List.take_of_length_le (by omega)
   have t6:List.take (4+m) (qB1 (k+1)++rest)=qB1 (k+1)++rest:=List.take_of_length_le (by rw[List.length_append,kX];omega)
   have hM:=zFh (k:=key) (b:=qB1 (k+1)++rest) ⟨hk,by rw[List.length_append,kX];omega⟩
   simp (disch:=omega) only [go_sem,seval,qCc,h1,h2,zB5,kX,hR,t5,t6,lD,hM,qF7,qY6]
   refine⟨by omega,qI.rd (fun j=>if j=9000 then 41072 else j) ?_ ?_ rfl⟩
   all_goals simp (disch:=omega) only [go_sem,seval,id,zEw]
   all_goals first | omega | rfl
  ·have e:k=(n+31)/32:=by omega
   subst e
   simp (disch:=omega) only [go_sem,seval,qCc,hR,drv,hr]
def xK:Ct where
 α:=List UInt8×List UInt8×List UInt8×Nat
 as x:=[.t (.sl (x.1.map qA)),.t (zU x.2.1),.t (.sl (x.2.2.1.map qA)),.t (.int .i64 x.2.2.2)]
 ins _:=[]
 pre x:=x.1.length≤64∧x.2.1.length<100000000∧x.2.2.1.length<100000000∧1≤x.2.2.2∧x.2.2.2≤1024
 r x:= .t (.sl ((drv x.1 x.2.1 x.2.2.1 x.2.2.2).map qA))
 outs _:=[]
 inj:=by
  rintro⟨a,b,c,d⟩ ⟨e,f,g,h⟩ hh _
  simp only[List.cons.injEq,V.t.injEq,T.int.injEq,T.sl.injEq,true_and,and_true,qZ,qMn,Int.natCast_inj] at hh
  obtain⟨rfl,rfl,rfl,rfl⟩:=hh
  exact⟨rfl,rfl⟩
theorem qUv {k l c:List UInt8} {n:Nat} (h:k.length≤64∧l.length<100000000∧c.length<100000000∧1≤n∧n≤1024):xK.fs [.t (.sl (k.map qA)),.t (zU l),.t (.sl (c.map qA)),.t (.int .i64 n)] []=some (.t (.sl ((drv k l c n).map qA)),[]):=xK.eq (k,l,c,n) h
theorem qXg (tab:Tab) (gl:Gl) (n1 n2:Nat) (h1:tab.look n1=some qHs.fs) (h2:tab.look n2=some qJo.fs) (key label ctx:List UInt8) (n:Nat) (hk:key.length≤64) (hl:label.length<100000000) (hc:ctx.length<100000000) (hn:1≤n∧n≤1024) :
  (qJd n1 n2).wp tab gl (qE 0 [.t (.sl (key.map qA)),.t (zU label),.t (.sl (ctx.map qA)),.t (.int .i64 n)]) (qE 0 []) (zZ [(8,none)] 0 (fun r o=>r = .t (.sl ((drv key label ctx n).map qA))∧o=[])):=by
 simp (disch:=omega) only [go_sem,seval,qJd]
 have lD:(drT label ctx n).length=label.length+1+ctx.length+4:=by simp[drT,qB1];omega
 obtain⟨rest,hr⟩ : ∃ rest,drT label ctx n=rest:=⟨_,rfl⟩
 have lR:rest.length=label.length+1+ctx.length+4:=by rw[←hr,lD]
 refine qD ((n+31)/32) (fun k=>[(0,.t (.sl (key.map qA))),(1,.t (zU label)),(2,.t (.sl (ctx.map qA))),(3,.t (.int .i64 n)),(9,.sl 9000 0 (32*k)),(10,.t (.int .i64 ((k+1:Nat):Int)))]) (fun k=>[(9000,.live 1 (((drR key rest k).map qA).map V.t) true false)]) ?_ (fun k hk'=>?_)
 ·refine qI.cv0 (hv:=[(9000,.live 1 [] true false)]) (ho:=[]) id ?_ ?_ rfl rfl
  all_goals simp (disch:=omega) only [go_sem,seval,id]
  all_goals rfl
 ·have hR:=qIn (key:=key) (rest:=rest) (k:=k)
  by_cases hlt:32*k<n
  ·have t4:List.take 4 (qB1 (8*n))=qB1 (8*n):=rfl
   have hM:=zFh (k:=key) (b:=qB1 (k+1)++rest) ⟨hk,by rw[List.length_append,kX];omega⟩
   have hA:qB1 (k+1)++label++[0]++ctx++qB1 (8*n)=qB1 (k+1)++rest:=by rw[←hr,drT];simp only[List.append_assoc]
   have t5:List.take (4+label.length+1+ctx.length+4) (qB1 (k+1)++rest)=qB1 (k+1)++rest:=List.take_of_length_le (by rw[List.length_append,kX];omega)
   simp (disch:=omega) only [go_sem,seval,qBi,h1,h2,zB5,kX,hR,t4,t5,hA,hM,qF7,qY6]
   refine⟨by omega,qI.rd (fun j=>if j=9000 then 41024 else j) ?_ ?_ rfl⟩
   all_goals simp (disch:=omega) only [go_sem,seval,id,zEw]
   all_goals first | omega | rfl
  ·have e:k=(n+31)/32:=by omega
   subst e
   simp (disch:=omega) only [go_sem,seval,qBi,hR,drv,hr]
end Go.Eng
end
section
set_option maxRecDepth 20000
set_option maxHeartbeats 8000000
namespace Go.Eng
def beV (bs:List UInt8):Nat:=bs.foldl (fun n x=>256*n+x.toNat) 0
def zTj (s:Rd) (k:Nat):Int×Rd:=
 if s.2.2≠0 then (0,s) else if s.1.length<s.2.1+k then (0,(s.1,s.2.1,2))
 else if 9223372036854775808≤beV ((s.1.drop s.2.1).take k) then (0,(s.1,s.2.1,4)) else (beV ((s.1.drop s.2.1).take k),(s.1,s.2.1+k,0))
end Go.Eng
end
section
set_option maxRecDepth 20000
set_option maxHeartbeats 8000000
namespace Go.Eng
def qIw (n m:Int):Int:=if m<1 then 0 else n%m
theorem zH9 (tab:Tab) (gl:Gl) (n m:Int) (hn : -9223372036854775808≤n∧n<9223372036854775808) (hm : -9223372036854775808≤m∧m<9223372036854775808):qFu.wp tab gl (qE 0 [.t (.int .i64 n),.t (.int .i64 m)]) (qE 0 []) (zZ [(4,none)] 0 (fun r o=>r = .t (.int .i64 (qIw n m))∧o=[])):=by
 by_cases h1:m<1
 ·simp (disch:=omega) only [go_sem,seval,qFu,qIw,h1]
 ·have ht:n.tmod m=n%m∨n.tmod m=n%m-m:=by
   rcases Int.lt_or_le n 0 with h | h
   ·by_cases hz:n%m=0
    ·left
     rw[Int.tmod_eq_emod];simp[hz,Int.dvd_of_emod_eq_zero hz]
    ·right
     rw[Int.tmod_eq_emod]
     have : ¬ m ∣ n:=fun hd=>hz (Int.emod_eq_zero_of_dvd hd)
     rw[if_neg (by omega)];omega
   ·left;exact Int.tmod_eq_emod_of_nonneg h
  have p1:=Int.emod_nonneg n (b:=m) (by omega)
  have p2:=Int.emod_lt_of_pos n (b:=m) (by omega)
  rcases ht with ht | ht
  ·simp (disch:=omega) only [go_sem,seval,qFu,qIw,h1,ht]
  ·simp (disch:=omega) only [go_sem,seval,qFu,qIw,h1,ht]
   omega
end Go.Eng
end
section
namespace Go.Eng
def jP:AC:=
 (.seq
 (rG 16384 [bT 9 .lss 8 7])
 (.seq
 (.cond (.tmp 9)
 .skip
 (.exit 0))
 (.seq
 (.block 1
 (.seq
 (rG 20480 [mv 10 8,mv 4 10])
 (.seq
 (rG 24576 [mv 11 4,bN 12 .lss 11 2,mv 13 12,oG 14 13 (.faddr 0) [.tmp 1],oG 15 13 (.load 1 false) [.tmp 14],mG 16 4 13,oG 17 13 (.iaddr 1) [.tmp 15,.tmp 16],oG 18 13 (.load 1 false) [.tmp 17],oG 19 13 .len [.tmp 18],oG 20 13 (.bin .eql) [.tmp 19,.cst (.t (.int .i64 16))],oO 21 .pick [.tmp 13,.tmp 20,.cst (.t (.bool false))]])
 (.cond (.tmp 21)
 (rG 28672 [mv 22 3,mv 23 4,oO 24 (.conv .u64) [.tmp 23],oO 25 (.bin .shl) [.cst (.t (.int .i64 1)),.tmp 24],bT 26 .or 22 25,mv 3 26])
 .skip))))
 (rG 32768 [bN 27 .add 8 1,mv 8 27]))))
def vL:AC:=
 (.seq
 (rG 4096 [oO 1 .box [.tmp 0],mC 2 (.t (.int .i64 0))])
 (.seq
 (rG 8192 [mC 3 (.t (.int .i64 0))])
 (.seq
 (.seq
 (rG 12288 [oO 5 (.faddr 0) [.tmp 1],oO 6 (.load 1 false) [.tmp 5],oO 7 .len [.tmp 6],mC 8 (.t (.int .i64 0))])
 (.block 0
 (.loop jP)))
 (.seq
 (rG 36864 [mv 28 3,mv 2 28])
 .ret))))
def qHm (n_registers_active:Nat):AC:=
 (.seq
 (rG 4096 [oO 2 .box [.tmp 0],mC 4 (.t (.bool false))])
 (.seq
 (rG 8192 [oO 5 (.load 2 true) [.tmp 2],cL 6 n_registers_active false [.tmp 5],mv 7 1,oO 8 (.conv .u64) [.tmp 7],bT 9 .shr 6 8,bN 10 .and 9 1,bN 11 .eql 10 1,mv 4 11])
 .ret))
def vB:AC:=
 (.seq
 (rG 32768 [bT 22 .lss 21 20])
 (.seq
 (.cond (.tmp 22)
 .skip
 (.exit 2))
 (.seq
 (.block 3
 (.seq
 (rG 36864 [oO 23 (.iaddr 1) [.tmp 19,.tmp 21],oO 24 (.load 1 false) [.tmp 23],mv 8 24])
 (rG 40960 [mv 25 6,mv 26 8,oO 27 (.append 1 1) [.cst .nil,.tmp 26],oO 28 (.bslice 1 1 .nil [0]) [.tmp 27],oO 29 (.append 1 24) [.tmp 25,.tmp 28],mv 6 29])))
 (rG 45056 [bN 30 .add 21 1,mv 21 30]))))
def vA:AC:=
 (.seq
 (rG 16384 [bT 16 .lss 15 14])
 (.seq
 (.cond (.tmp 16)
 .skip
 (.exit 0))
 (.seq
 (.block 1
 (.seq
 (rG 20480 [oO 17 (.iaddr 1) [.tmp 13,.tmp 15],oO 18 (.load 1 false) [.tmp 17],mv 5 18])
 (.seq
 (rG 24576 [mC 6 .nil])
 (.seq
 (.seq
 (rG 28672 [mv 19 5,oO 20 .len [.tmp 19],mC 21 (.t (.int .i64 0))])
 (.block 2
 (.loop vB)))
 (rG 49152 [oO 31 (.faddr 0) [.tmp 3],oO 32 (.load 1 false) [.tmp 31],mv 33 6,oO 34 (.bslice 1 1 .nil [0]) [.tmp 33],oO 35 (.append 1 24) [.tmp 32,.tmp 34],oO 36 (.faddr 0) [.tmp 3],oS 1 36 35])))))
 (rG 53248 [bN 37 .add 15 1,mv 15 37]))))
def wJ:AC:=
 (.seq
 (rG 4096 [oO 1 .box [.tmp 0],oO 2 (.new 2 [(.agg [.nil,(.t (.int .i64 0))])]) []])
 (.seq
 (rG 8192 [oO 9 (.faddr 1) [.tmp 1],oO 10 (.load 1 false) [.tmp 9],oO 11 (.build [.nil,(.t (.int .i64 0))] [(1,1)]) [.tmp 10],oO 3 (.new 2 [(.agg [.nil,(.t (.int .i64 0))])]) [],oS 2 3 11])
 (.seq
 (.seq
 (rG 12288 [oO 12 (.faddr 0) [.tmp 1],oO 13 (.load 1 false) [.tmp 12],oO 14 .len [.tmp 13],mC 15 (.t (.int .i64 0))])
 (.block 0
 (.loop vA)))
 (.seq
 (rG 57344 [oO 38 (.load 2 true) [.tmp 3],oS 2 2 38])
 .ret))))
def qFc (n_bytes_Repeat:Nat):AC:=
 (.seq
 (rG 4096 [mC 4 .nil])
 (.seq
 (rG 8192 [mv 5 1,oO 6 (.bslice 1 1 (.t (qA 0)) [0]) [.tmp 5],mv 7 0,cL 8 n_bytes_Repeat false [.tmp 6,.tmp 7],mv 4 8])
 .ret))
def kH:AC:=
 (.seq
 (rG 4096 [mC 2 (.t (.bool false))])
 (.seq
 (rG 8192 [mv 3 0,bN 4 .geq 3 0,mv 5 4,mG 6 0 5,oG 7 5 (.bin .lss) [.tmp 6,.cst (.t (.int .i64 16))],oO 8 .pick [.tmp 5,.tmp 7,.cst (.t (.bool false))],mv 2 8])
 .ret))
def qV (n_digest_Size n_registers_fill:Nat):AC:=
 (.seq
 (.seq
 (rG 40960 [mv 15 6,bN 16 .lss 15 16,mv 17 16,mG 18 0 17,mG 19 4 17,oG 20 17 (.conv .u64) [.tmp 19],oG 21 17 (.bin .shr) [.tmp 18,.tmp 20],oG 22 17 (.bin .and) [.tmp 21,.cst (.t (.int .i64 1))],oG 23 17 (.bin .eql) [.tmp 22,.cst (.t (.int .i64 1))],oO 24 .pick [.tmp 17,.tmp 23,.cst (.t (.bool false))]])
 (.cond (.tmp 24)
 .skip
 (.exit 2)))
 (.seq
 (.block 3
 (.seq
 (rG 49152 [mC 7 (.t (qA 0))])
 (.seq
 (.seq
 (rG 53248 [mv 27 6,bN 28 .geq 27 12])
 (.cond (.tmp 28)
 (rG 57344 [mC 7 (.t (qA 255))])
 .skip))
 (rG 61440 [mv 29 5,mv 30 4,cL 31 n_digest_Size false [.tmp 30],mv 32 7,cL 33 n_registers_fill false [.tmp 31,.tmp 32],oO 34 (.bslice 1 1 .nil [0]) [.tmp 33],oO 35 (.append 1 24) [.tmp 29,.tmp 34],mv 5 35]))))
 (rG 45056 [mv 25 6,bN 26 .add 25 1,mv 6 26])))
def zM (n_digest_Size n_registers_fill:Nat):AC:=
 (.seq
 (rG 24576 [bN 13 .lss 12 2])
 (.seq
 (.cond (.tmp 13)
 .skip
 (.exit 0))
 (.seq
 (.block 1
 (.seq
 (rG 28672 [mv 14 12,mv 4 14])
 (.seq
 (rG 32768 [mC 5 .nil])
 (.seq
 (.seq
 (rG 36864 [mC 6 (.t (.int .i64 0))])
 (.block 2
 (.loop (qV n_digest_Size n_registers_fill))))
 (rG 65536 [oO 36 (.faddr 0) [.tmp 3],oO 37 (.load 1 false) [.tmp 36],mv 38 5,oO 39 (.bslice 1 1 .nil [0]) [.tmp 38],oO 40 (.append 1 24) [.tmp 37,.tmp 39],oO 41 (.faddr 0) [.tmp 3],oS 1 41 40])))))
 (rG 69632 [bN 42 .add 12 1,mv 12 42]))))
def yI (n_digest_Size n_registers_fill:Nat):AC:=
 (.seq
 (rG 4096 [oO 2 (.new 2 [(.agg [.nil,(.t (.int .i64 0))])]) []])
 (.seq
 (.seq
 (rG 8192 [mv 8 0,bN 9 .and 8 3,bN 10 .eql 9 0])
 (.cond (.tmp 10)
 (.seq
 (rG 12288 [oO 11 (.build [.nil,(.t (.int .i64 0))] []) [],oS 2 2 11])
 .ret)
 .skip))
 (.seq
 (rG 16384 [oO 3 (.new 2 [(.agg [.nil,(.t (.int .i64 0))])]) []])
 (.seq
 (.seq
 (rG 20480 [mC 12 (.t (.int .i64 0))])
 (.block 0
 (.loop (zM n_digest_Size n_registers_fill))))
 (.seq
 (rG 73728 [oO 43 (.load 2 true) [.tmp 3],oS 2 2 43])
 .ret)))))
def qEe:AC:=
 (.seq
 (rG 4096 [mC 4 (.t (.int .i64 0))])
 (.seq
 (.block 0
 (.seq
 (rG 8192 [mv 6 1,mv 7 6,mG 8 0 7,oG 9 7 (.bin .lss) [.tmp 8,.cst (.t (.int .i64 12))],oO 10 .pick [.tmp 7,.tmp 9,.cst (.t (.bool false))],mv 5 10])
 (.cond (.tmp 5)
 (.seq
 (rG 12288 [mC 4 (.t (.int .i64 5))])
 .ret)
 (.seq
 (rG 16384 [mv 12 0,bN 13 .eql 12 14,mv 11 13])
 (.cond (.tmp 11)
 (.seq
 (.seq
 (rG 20480 [mv 14 1])
 (.cond (.tmp 14)
 (.seq
 (rG 24576 [mC 4 (.t (.int .i64 3))])
 .ret)
 .skip))
 (.seq
 (rG 28672 [mC 4 (.t (.int .i64 2))])
 .ret))
 (.seq
 (rG 32768 [mv 16 0,bN 17 .eql 16 15,mv 15 17])
 (.cond (.tmp 15)
 (.seq
 (.seq
 (rG 36864 [mv 18 1])
 (.cond (.tmp 18)
 (.seq
 (rG 40960 [mC 4 (.t (.int .i64 4))])
 .ret)
 .skip))
 (.seq
 (rG 45056 [mC 4 (.t (.int .i64 3))])
 .ret))
 .skip)))))))
 (.seq
 (rG 49152 [mC 4 (.t (.int .i64 0))])
 .ret)))
def qX (n_registers_on:Nat):AC:=
 (.seq
 (rG 28672 [bT 41 .lss 40 39])
 (.seq
 (.cond (.tmp 41)
 .skip
 (.exit 0))
 (.seq
 (.block 1
 (.seq
 (rG 32768 [mv 42 40,oO 43 (.iaddr 1) [.tmp 38,.tmp 40],oO 44 (.load 1 false) [.tmp 43],mv 10 42,mv 11 44])
 (.seq
 (rG 36864 [oO 45 (.load 2 true) [.tmp 4],mv 46 10,cL 47 n_registers_on false [.tmp 45,.tmp 46],oO 48 (.un .not) [.tmp 47],mv 49 48,mG 50 11 49,oG 51 49 .len [.tmp 50],oG 52 49 (.bin .gtr) [.tmp 51,.cst (.t (.int .i64 0))],oO 53 .pick [.tmp 49,.tmp 52,.cst (.t (.bool false))]])
 (.cond (.tmp 53)
 (.seq
 (rG 40960 [oO 54 (.build [.nil,(.t (.int .i64 0))] []) [],oS 2 8 54,mC 9 (.t (.int .i64 27))])
 .ret)
 .skip))))
 (rG 45056 [bN 55 .add 40 1,mv 40 55]))))
def zE (n_registers_on n_digest_Size:Nat):AC:=
 (.seq
 (rG 53248 [bT 59 .lss 58 57])
 (.seq
 (.cond (.tmp 59)
 .skip
 (.exit 2))
 (.seq
 (.block 3
 (.seq
 (rG 57344 [mv 60 58,oO 61 (.iaddr 1) [.tmp 56,.tmp 58],oO 62 (.load 1 false) [.tmp 61],mv 12 60,mv 13 62])
 (.seq
 (rG 61440 [oO 63 (.load 2 true) [.tmp 4],mv 64 12,cL 65 n_registers_on false [.tmp 63,.tmp 64],mv 66 65,mG 67 13 66,oG 68 66 .len [.tmp 67],mG 69 12 66,cG 70 66 n_digest_Size false [.tmp 69],oG 71 66 (.bin .neq) [.tmp 68,.tmp 70],oO 72 .pick [.tmp 66,.tmp 71,.cst (.t (.bool false))]])
 (.cond (.tmp 72)
 (.seq
 (rG 65536 [oO 73 (.build [.nil,(.t (.int .i64 0))] []) [],oS 2 8 73,mC 9 (.t (.int .i64 24))])
 .ret)
 .skip))))
 (rG 69632 [bN 74 .add 58 1,mv 58 74]))))
def qR (n_registers_on n_digest_Sum:Nat):AC:=
 (.seq
 (rG 81920 [bT 81 .lss 80 79])
 (.seq
 (.cond (.tmp 81)
 .skip
 (.exit 4))
 (.seq
 (.block 5
 (.seq
 (rG 86016 [mv 82 80,mv 15 82])
 (.seq
 (rG 90112 [oO 83 (.load 2 true) [.tmp 4],mv 84 15,cL 85 n_registers_on false [.tmp 83,.tmp 84]])
 (.cond (.tmp 85)
 (.reg 94208 (some [0,1,0,7,15,0,0,0,128,0,896,1920,0,8064,16256,32640,0,0,196608,458752,1048448,2097088,4194303,8388607]) [oO 86 (.faddr 0) [.tmp 14],oO 87 (.load 1 false) [.tmp 86],mv 88 15,oO 89 (.iaddr 1) [.tmp 87,.tmp 88],oO 90 (.load 1 false) [.tmp 89],mv 91 2,mv 92 15,oO 93 (.faddr 0) [.tmp 4],oO 94 (.load 1 false) [.tmp 93],mv 95 15,oO 96 (.iaddr 1) [.tmp 94,.tmp 95],oO 97 (.load 1 false) [.tmp 96],mv 98 2,oO 99 (.iaddr 1) [.tmp 97,.tmp 98],oO 100 (.load 1 false) [.tmp 99],oO 101 (.append 1 1) [.cst .nil,.tmp 100],mv 102 3,mv 103 15,oO 104 (.iaddr 1) [.tmp 102,.tmp 103],oO 105 (.load 1 false) [.tmp 104],oO 106 (.append 1 1) [.tmp 101,.tmp 105],cL 107 n_digest_Sum false [.tmp 92,.tmp 106],oO 108 (.iaddr 1) [.tmp 90,.tmp 91],oS 1 108 107])
 .skip))))
 (rG 98304 [bN 109 .add 80 1,mv 80 109]))))
def zF (n_registers_index n_registers_least n_registers_on n_digest_Size n_registers_twin n_digest_Sum:Nat):AC:=
 (.seq
 (rG 4096 [oO 4 .box [.tmp 0],oO 8 (.new 2 [(.agg [.nil,(.t (.int .i64 0))])]) [],mC 9 (.t (.int .i64 0))])
 (.seq
 (.seq
 (rG 8192 [mv 16 1,bN 17 .lss 16 0,mv 18 17,mF 19 1 18,oF 20 18 (.bin .gtr) [.tmp 19,.cst (.t (.int .i64 4))],oO 21 .pick [.tmp 18,.cst (.t (.bool true)),.tmp 20],mv 22 21,mF 23 2 22,cF 24 22 n_registers_index false [.tmp 23],oF 25 22 (.un .not) [.tmp 24],oO 26 .pick [.tmp 22,.cst (.t (.bool true)),.tmp 25],mv 27 26,mF 28 3 27,oF 29 27 .len [.tmp 28],oF 30 27 (.bin .neq) [.tmp 29,.cst (.t (.int .i64 2))],oO 31 .pick [.tmp 27,.cst (.t (.bool true)),.tmp 30]])
 (.cond (.tmp 31)
 (.seq
 (rG 12288 [oO 32 (.build [.nil,(.t (.int .i64 0))] []) [],oS 2 8 32,mC 9 (.t (.int .i64 1))])
 .ret)
 .skip))
 (.seq
 (.seq
 (rG 16384 [mv 33 1,mv 34 2,cL 35 n_registers_least false [.tmp 34,.cst (.t (.bool false))],bT 36 .lss 33 35])
 (.cond (.tmp 36)
 (.seq
 (rG 20480 [oO 37 (.build [.nil,(.t (.int .i64 0))] []) [],oS 2 8 37,mC 9 (.t (.int .i64 13))])
 .ret)
 .skip))
 (.seq
 (.seq
 (rG 24576 [mv 38 3,oO 39 .len [.tmp 38],mC 40 (.t (.int .i64 0))])
 (.block 0
 (.loop (qX n_registers_on))))
 (.seq
 (.seq
 (rG 49152 [mv 56 3,oO 57 .len [.tmp 56],mC 58 (.t (.int .i64 0))])
 (.block 2
 (.loop (zE n_registers_on n_digest_Size))))
 (.seq
 (rG 73728 [oO 75 (.load 2 true) [.tmp 4],cL 76 n_registers_twin true [.tmp 75],oO 14 (.new 2 [(.agg [.nil,(.t (.int .i64 0))])]) [],oS 2 14 76])
 (.seq
 (.seq
 (rG 77824 [oO 77 (.faddr 0) [.tmp 14],oO 78 (.load 1 false) [.tmp 77],oO 79 .len [.tmp 78],mC 80 (.t (.int .i64 0))])
 (.block 4
 (.loop (qR n_registers_on n_digest_Sum))))
 (.seq
 (rG 102400 [oO 110 (.faddr 1) [.tmp 14],oO 111 (.load 1 false) [.tmp 110],bN 112 .add 111 1,oO 113 (.faddr 1) [.tmp 14],oS 1 113 112])
 (.seq
 (rG 106496 [oO 114 (.load 2 true) [.tmp 14],oS 2 8 114,mC 9 (.t (.int .i64 0))])
 .ret)))))))))
def zQ (n_wire_Uint:Nat):AC:=
 (.seq
 (rG 16384 [bN 15 .lss 14 2])
 (.seq
 (.cond (.tmp 15)
 .skip
 (.exit 0))
 (.seq
 (.block 1
 (.seq
 (rG 20480 [oO 16 (.index 2 1 false) [.tmp 13,.tmp 14],mv 9 16])
 (.seq
 (.seq
 (rG 24576 [mv 17 9,bN 18 .lss 17 0,mv 19 18,mF 20 9 19,oF 21 19 (.bin .gtr) [.tmp 20,.cst (.t (.int .i64 65535))],oO 22 .pick [.tmp 19,.cst (.t (.bool true)),.tmp 21]])
 (.cond (.tmp 22)
 (.seq
 (rG 28672 [mC 4 .nil,mC 5 (.t (.int .i64 1))])
 .ret)
 .skip))
 (rG 32768 [mv 23 6,mv 24 9,cL 25 n_wire_Uint false [.tmp 23,.cst (.t (.int .i64 2)),.tmp 24],mv 6 25]))))
 (rG 36864 [bN 26 .add 14 1,mv 14 26]))))
def zA:AC:=
 (.seq
 (rG 65536 [bN 41 .lss 40 16])
 (.seq
 (.cond (.tmp 41)
 .skip
 (.exit 4))
 (.seq
 (.block 5
 (.seq
 (rG 69632 [mv 42 40,mv 12 42])
 (.seq
 (rG 73728 [mv 43 11,mv 44 12,oO 45 (.conv .u64) [.tmp 44],bT 46 .shr 43 45,bN 47 .and 46 1,bN 48 .eql 47 1])
 (.cond (.tmp 48)
 (rG 77824 [mv 49 7,oO 50 (.faddr 0) [.tmp 2],oO 51 (.load 1 false) [.tmp 50],mv 52 10,oO 53 (.iaddr 1) [.tmp 51,.tmp 52],oO 54 (.load 1 false) [.tmp 53],mv 55 12,oO 56 (.iaddr 1) [.tmp 54,.tmp 55],oO 57 (.load 1 false) [.tmp 56],oO 58 (.append 1 1) [.tmp 49,.tmp 57],mv 7 58])
 .skip))))
 (rG 81920 [bN 59 .add 40 1,mv 40 59]))))
def zR (n_registers_on:Nat):AC:=
 (.seq
 (rG 45056 [bN 29 .lss 28 2])
 (.seq
 (.cond (.tmp 29)
 .skip
 (.exit 2))
 (.seq
 (.block 3
 (.seq
 (rG 49152 [mv 30 28,oO 31 (.index 2 1 false) [.tmp 27,.tmp 28],mv 10 30,mv 11 31])
 (.seq
 (.seq
 (rG 53248 [mv 32 11,bN 33 .neq 32 0,mv 34 33,oG 35 34 (.load 2 true) [.tmp 2],mG 36 10 34,cG 37 34 n_registers_on false [.tmp 35,.tmp 36],oG 38 34 (.un .not) [.tmp 37],oO 39 .pick [.tmp 34,.tmp 38,.cst (.t (.bool false))]])
 (.cond (.tmp 39)
 (.seq
 (rG 57344 [mC 4 .nil,mC 5 (.t (.int .i64 27))])
 .ret)
 .skip))
 (.seq
 (rG 61440 [mC 40 (.t (.int .i64 0))])
 (.block 4
 (.loop zA))))))
 (rG 86016 [bN 60 .add 28 1,mv 28 60]))))
def qDd (n_wire_Uint n_registers_on n_digest_Hash:Nat):AC:=
 (.seq
 (rG 4096 [oO 2 .box [.tmp 0],oO 3 .boxArr [.tmp 1],mC 4 .nil,mC 5 (.t (.int .i64 0))])
 (.seq
 (rG 8192 [mC 6 .nil,mC 7 .nil])
 (.seq
 (.seq
 (rG 12288 [oO 13 (.load 2 true) [.tmp 3],mC 14 (.t (.int .i64 0))])
 (.block 0
 (.loop (zQ n_wire_Uint))))
 (.seq
 (.seq
 (rG 40960 [oO 27 (.load 2 true) [.tmp 3],mC 28 (.t (.int .i64 0))])
 (.block 2
 (.loop (zR n_registers_on))))
 (.seq
 (rG 90112 [mv 61 6,mv 62 7,oO 63 (.bslice 1 2 .nil [0,1]) [.tmp 61,.tmp 62],cL 64 n_digest_Hash false [.cst (.t (.int .i64 5)),.tmp 63],mv 4 64,mC 5 (.t (.int .i64 0))])
 .ret)))))
def qDc:AC:=
 (.seq
 (.seq
 (rG 16384 [mv 9 6,mv 10 0,bT 11 .lss 9 10])
 (.cond (.tmp 11)
 .skip
 (.exit 0)))
 (.seq
 (.block 1
 (rG 24576 [mv 14 5,mv 15 6,mv 16 1,oO 17 (.iaddr 1) [.tmp 14,.tmp 15],oS 1 17 16]))
 (rG 20480 [mv 12 6,bN 13 .add 12 1,mv 6 13])))
def qHj:AC:=
 (.seq
 (rG 4096 [mC 4 .nil])
 (.seq
 (rG 8192 [mv 7 0,oO 8 (.mkslice 1 1 (.t (qA 0))) [.tmp 7,.tmp 7],mv 5 8])
 (.seq
 (.seq
 (rG 12288 [mC 6 (.t (.int .i64 0))])
 (.block 0
 (.loop qDc)))
 (.seq
 (rG 28672 [mv 18 5,mv 4 18])
 .ret))))
def qHk (n_ref1_Size n_ref8_fill:Nat):AC:=
 (.seq
 (rG 4096 [mC 4 .nil])
 (.seq
 (.seq
 (rG 8192 [mv 5 1,bN 6 .geq 5 12])
 (.cond (.tmp 6)
 (.seq
 (rG 12288 [mv 7 0,cL 8 n_ref1_Size false [.tmp 7],cL 9 n_ref8_fill false [.tmp 8,.cst (.t (qA 255))],mv 4 9])
 .ret)
 .skip))
 (.seq
 (rG 16384 [mv 10 0,cL 11 n_ref1_Size false [.tmp 10],cL 12 n_ref8_fill false [.tmp 11,.cst (.t (qA 0))],mv 4 12])
 .ret)))
def jR (n_ref8_initial:Nat):AC:=
 (.seq
 (.seq
 (rG 40960 [mv 16 6,bN 17 .lss 16 16,mv 18 17,mG 19 0 18,mG 20 4 18,oG 21 18 (.conv .u64) [.tmp 20],oG 22 18 (.bin .shr) [.tmp 19,.tmp 21],oG 23 18 (.bin .and) [.tmp 22,.cst (.t (.int .i64 1))],oG 24 18 (.bin .eql) [.tmp 23,.cst (.t (.int .i64 1))],oO 25 .pick [.tmp 18,.tmp 24,.cst (.t (.bool false))]])
 (.cond (.tmp 25)
 .skip
 (.exit 2)))
 (.seq
 (.block 3
 (rG 49152 [mv 28 5,mv 29 4,mv 30 6,cL 31 n_ref8_initial false [.tmp 29,.tmp 30],oO 32 (.bslice 1 1 .nil [0]) [.tmp 31],oO 33 (.append 1 24) [.tmp 28,.tmp 32],mv 5 33]))
 (rG 45056 [mv 26 6,bN 27 .add 26 1,mv 6 27])))
def yC (n_ref8_initial:Nat):AC:=
 (.seq
 (.seq
 (rG 24576 [mv 12 4,bN 13 .lss 12 2])
 (.cond (.tmp 13)
 .skip
 (.exit 0)))
 (.seq
 (.block 1
 (.seq
 (rG 32768 [mC 5 .nil])
 (.seq
 (.seq
 (rG 36864 [mC 6 (.t (.int .i64 0))])
 (.block 2
 (.loop (jR n_ref8_initial))))
 (rG 53248 [oO 34 (.faddr 0) [.tmp 3],oO 35 (.load 1 false) [.tmp 34],mv 36 5,oO 37 (.bslice 1 1 .nil [0]) [.tmp 36],oO 38 (.append 1 24) [.tmp 35,.tmp 37],oO 39 (.faddr 0) [.tmp 3],oS 1 39 38]))))
 (rG 28672 [mv 14 4,bN 15 .add 14 1,mv 4 15])))
def kT (n_ref8_initial:Nat):AC:=
 (.seq
 (rG 4096 [oO 2 (.new 2 [(.agg [.nil,(.t (.int .i64 0))])]) []])
 (.seq
 (rG 8192 [oO 7 (.build [.nil,(.t (.int .i64 0))] []) [],oO 3 (.new 2 [(.agg [.nil,(.t (.int .i64 0))])]) [],oS 2 3 7])
 (.seq
 (.seq
 (rG 12288 [mv 8 0,bN 9 .and 8 3,bN 10 .eql 9 0])
 (.cond (.tmp 10)
 (.seq
 (rG 16384 [oO 11 (.load 2 true) [.tmp 3],oS 2 2 11])
 .ret)
 .skip))
 (.seq
 (.seq
 (rG 20480 [mC 4 (.t (.int .i64 0))])
 (.block 0
 (.loop (yC n_ref8_initial))))
 (.seq
 (rG 57344 [oO 40 (.load 2 true) [.tmp 3],oS 2 2 40])
 .ret)))))
def xT:AC:=
 (.seq
 (rG 4096 [oO 2 .box [.tmp 0],mC 4 (.t (.bool false))])
 (.seq
 (rG 8192 [mv 5 1,oO 6 (.faddr 0) [.tmp 2],oO 7 (.load 1 false) [.tmp 6],oO 8 .len [.tmp 7],bT 9 .lss 5 8,mv 10 9,oG 11 10 (.faddr 0) [.tmp 2],oG 12 10 (.load 1 false) [.tmp 11],mG 13 1 10,oG 14 10 (.iaddr 1) [.tmp 12,.tmp 13],oG 15 10 (.load 1 false) [.tmp 14],oG 16 10 .len [.tmp 15],oG 17 10 (.bin .gtr) [.tmp 16,.cst (.t (.int .i64 0))],oO 18 .pick [.tmp 10,.tmp 17,.cst (.t (.bool false))],mv 4 18])
 .ret))
def kS (n_ref1_Copy:Nat):AC:=
 (.seq
 (.seq
 (rG 32768 [mv 17 6,oO 18 (.faddr 0) [.tmp 1],oO 19 (.load 1 false) [.tmp 18],mv 20 4,oO 21 (.iaddr 1) [.tmp 19,.tmp 20],oO 22 (.load 1 false) [.tmp 21],oO 23 .len [.tmp 22],bT 24 .lss 17 23])
 (.cond (.tmp 24)
 .skip
 (.exit 2)))
 (.seq
 (.block 3
 (rG 40960 [mv 27 5,oO 28 (.faddr 0) [.tmp 1],oO 29 (.load 1 false) [.tmp 28],mv 30 4,oO 31 (.iaddr 1) [.tmp 29,.tmp 30],oO 32 (.load 1 false) [.tmp 31],mv 33 6,oO 34 (.iaddr 1) [.tmp 32,.tmp 33],oO 35 (.load 1 false) [.tmp 34],cL 36 n_ref1_Copy false [.tmp 35],oO 37 (.bslice 1 1 .nil [0]) [.tmp 36],oO 38 (.append 1 24) [.tmp 27,.tmp 37],mv 5 38]))
 (rG 36864 [mv 25 6,bN 26 .add 25 1,mv 6 26])))
def kR (n_ref1_Copy:Nat):AC:=
 (.seq
 (.seq
 (rG 16384 [mv 10 4,oO 11 (.faddr 0) [.tmp 1],oO 12 (.load 1 false) [.tmp 11],oO 13 .len [.tmp 12],bT 14 .lss 10 13])
 (.cond (.tmp 14)
 .skip
 (.exit 0)))
 (.seq
 (.block 1
 (.seq
 (rG 24576 [mC 5 .nil])
 (.seq
 (.seq
 (rG 28672 [mC 6 (.t (.int .i64 0))])
 (.block 2
 (.loop (kS n_ref1_Copy))))
 (rG 45056 [oO 39 (.faddr 0) [.tmp 3],oO 40 (.load 1 false) [.tmp 39],mv 41 5,oO 42 (.bslice 1 1 .nil [0]) [.tmp 41],oO 43 (.append 1 24) [.tmp 40,.tmp 42],oO 44 (.faddr 0) [.tmp 3],oS 1 44 43]))))
 (rG 20480 [mv 15 4,bN 16 .add 15 1,mv 4 16])))
def qBz (n_ref1_Copy:Nat):AC:=
 (.seq
 (rG 4096 [oO 1 .box [.tmp 0],oO 2 (.new 2 [(.agg [.nil,(.t (.int .i64 0))])]) []])
 (.seq
 (rG 8192 [oO 7 (.faddr 1) [.tmp 1],oO 8 (.load 1 false) [.tmp 7],oO 9 (.build [.nil,(.t (.int .i64 0))] [(1,1)]) [.tmp 8],oO 3 (.new 2 [(.agg [.nil,(.t (.int .i64 0))])]) [],oS 2 3 9])
 (.seq
 (.seq
 (rG 12288 [mC 4 (.t (.int .i64 0))])
 (.block 0
 (.loop (kR n_ref1_Copy))))
 (.seq
 (rG 49152 [oO 45 (.load 2 true) [.tmp 3],oS 2 2 45])
 .ret))))
def qLf:AC:=
 (.seq
 (rG 4096 [mC 4 (.t (.int .i64 0))])
 (.seq
 (.block 0
 (.seq
 (rG 8192 [mv 6 1,mv 7 6,mG 8 0 7,oG 9 7 (.bin .lss) [.tmp 8,.cst (.t (.int .i64 12))],oO 10 .pick [.tmp 7,.tmp 9,.cst (.t (.bool false))],mv 5 10])
 (.cond (.tmp 5)
 (.seq
 (rG 12288 [mC 4 (.t (.int .i64 (-1)))])
 .ret)
 (.seq
 (rG 16384 [mv 12 0,bN 13 .eql 12 14,mv 14 13,mG 15 1 14,oO 16 .pick [.tmp 14,.tmp 15,.cst (.t (.bool false))],mv 11 16])
 (.cond (.tmp 11)
 (.seq
 (rG 20480 [mC 4 (.t (.int .i64 3))])
 .ret)
 (.seq
 (rG 24576 [mv 18 0,bN 19 .eql 18 15,mv 20 19,mG 21 1 20,oO 22 .pick [.tmp 20,.tmp 21,.cst (.t (.bool false))],mv 17 22])
 (.cond (.tmp 17)
 (.seq
 (rG 28672 [mC 4 (.t (.int .i64 4))])
 .ret)
 (.seq
 (rG 32768 [mv 24 0,bN 25 .eql 24 14,mv 23 25])
 (.cond (.tmp 23)
 (.seq
 (rG 36864 [mC 4 (.t (.int .i64 2))])
 .ret)
 (.seq
 (rG 40960 [mv 27 0,bN 28 .eql 27 15,mv 26 28])
 (.cond (.tmp 26)
 (.seq
 (rG 45056 [mC 4 (.t (.int .i64 3))])
 .ret)
 .skip)))))))))))
 (.seq
 (rG 49152 [mC 4 (.t (.int .i64 0))])
 .ret)))
def zL (n_ref8_Active:Nat):AC:=
 (.seq
 (.seq
 (rG 28672 [mv 39 10,bN 40 .lss 39 2])
 (.cond (.tmp 40)
 .skip
 (.exit 0)))
 (.seq
 (.block 1
 (.seq
 (rG 36864 [oO 43 (.load 2 true) [.tmp 4],mv 44 10,cL 45 n_ref8_Active false [.tmp 43,.tmp 44],oO 46 (.un .not) [.tmp 45],mv 47 46,mG 48 3 47,mG 49 10 47,oG 50 47 (.iaddr 1) [.tmp 48,.tmp 49],oG 51 47 (.load 1 false) [.tmp 50],oG 52 47 .len [.tmp 51],oG 53 47 (.bin .gtr) [.tmp 52,.cst (.t (.int .i64 0))],oO 54 .pick [.tmp 47,.tmp 53,.cst (.t (.bool false))]])
 (.cond (.tmp 54)
 (.seq
 (rG 40960 [oO 55 (.build [.nil,(.t (.int .i64 0))] []) [],oS 2 8 55,mC 9 (.t (.int .i64 27))])
 .ret)
 .skip)))
 (rG 32768 [mv 41 10,bN 42 .add 41 1,mv 10 42])))
def zY (n_ref8_Active n_ref1_Size:Nat):AC:=
 (.seq
 (.seq
 (rG 49152 [mv 56 11,bN 57 .lss 56 2])
 (.cond (.tmp 57)
 .skip
 (.exit 2)))
 (.seq
 (.block 3
 (.seq
 (.reg 57344 (some [0,0,3,7,15,15,63,127,255,15,527,2047,4095]) [oO 60 (.load 2 true) [.tmp 4],mv 61 11,cL 62 n_ref8_Active false [.tmp 60,.tmp 61],mv 63 62,mG 64 3 63,mG 65 11 63,oG 66 63 (.iaddr 1) [.tmp 64,.tmp 65],oG 67 63 (.load 1 false) [.tmp 66],oG 68 63 .len [.tmp 67],mG 69 11 63,cG 70 63 n_ref1_Size false [.tmp 69],oG 71 63 (.bin .neq) [.tmp 68,.tmp 70],oO 72 .pick [.tmp 63,.tmp 71,.cst (.t (.bool false))]])
 (.cond (.tmp 72)
 (.seq
 (rG 61440 [oO 73 (.build [.nil,(.t (.int .i64 0))] []) [],oS 2 8 73,mC 9 (.t (.int .i64 24))])
 .ret)
 .skip)))
 (rG 53248 [mv 58 11,bN 59 .add 58 1,mv 11 59])))
def zD (n_ref8_Active n_ref1_Copy n_ref1_Sum:Nat):AC:=
 (.seq
 (.seq
 (rG 73728 [mv 76 13,bN 77 .lss 76 2])
 (.cond (.tmp 77)
 .skip
 (.exit 4)))
 (.seq
 (.block 5
 (.seq
 (rG 81920 [oO 80 (.load 2 true) [.tmp 4],mv 81 13,cL 82 n_ref8_Active false [.tmp 80,.tmp 81]])
 (.cond (.tmp 82)
 (.reg 86016 (some [0,1,0,7,15,0,0,0,128,0,896,1920,0,8064,16256,32640,0,0,196608,458752,1048448,2097088,4194303,8388607]) [oO 83 (.faddr 0) [.tmp 12],oO 84 (.load 1 false) [.tmp 83],mv 85 13,oO 86 (.iaddr 1) [.tmp 84,.tmp 85],oO 87 (.load 1 false) [.tmp 86],mv 88 2,mv 89 13,oO 90 (.faddr 0) [.tmp 4],oO 91 (.load 1 false) [.tmp 90],mv 92 13,oO 93 (.iaddr 1) [.tmp 91,.tmp 92],oO 94 (.load 1 false) [.tmp 93],mv 95 2,oO 96 (.iaddr 1) [.tmp 94,.tmp 95],oO 97 (.load 1 false) [.tmp 96],cL 98 n_ref1_Copy false [.tmp 97],mv 99 3,mv 100 13,oO 101 (.iaddr 1) [.tmp 99,.tmp 100],oO 102 (.load 1 false) [.tmp 101],oO 103 (.append 1 1) [.tmp 98,.tmp 102],cL 104 n_ref1_Sum false [.tmp 89,.tmp 103],oO 105 (.iaddr 1) [.tmp 87,.tmp 88],oS 1 105 104])
 .skip)))
 (rG 77824 [mv 78 13,bN 79 .add 78 1,mv 13 79])))
def jG (n_ref8_Least n_ref8_Active n_ref1_Size n_ref8_Copy n_ref1_Copy n_ref1_Sum:Nat):AC:=
 (.seq
 (rG 4096 [oO 4 .box [.tmp 0],oO 8 (.new 2 [(.agg [.nil,(.t (.int .i64 0))])]) [],mC 9 (.t (.int .i64 0))])
 (.seq
 (.seq
 (rG 8192 [mv 14 1,bN 15 .lss 14 0,mv 16 15,mF 17 1 16,oF 18 16 (.bin .gtr) [.tmp 17,.cst (.t (.int .i64 4))],oO 19 .pick [.tmp 16,.cst (.t (.bool true)),.tmp 18],mv 20 19,mF 21 2 20,oF 22 20 (.bin .lss) [.tmp 21,.cst (.t (.int .i64 0))],oO 23 .pick [.tmp 20,.cst (.t (.bool true)),.tmp 22],mv 24 23,mF 25 2 24,oF 26 24 (.bin .geq) [.tmp 25,.cst (.t (.int .i64 16))],oO 27 .pick [.tmp 24,.cst (.t (.bool true)),.tmp 26],mv 28 27,mF 29 3 28,oF 30 28 .len [.tmp 29],oF 31 28 (.bin .neq) [.tmp 30,.cst (.t (.int .i64 2))],oO 32 .pick [.tmp 28,.cst (.t (.bool true)),.tmp 31]])
 (.cond (.tmp 32)
 (.seq
 (rG 12288 [oO 33 (.build [.nil,(.t (.int .i64 0))] []) [],oS 2 8 33,mC 9 (.t (.int .i64 1))])
 .ret)
 .skip))
 (.seq
 (.seq
 (rG 16384 [mv 34 1,mv 35 2,cL 36 n_ref8_Least false [.tmp 35,.cst (.t (.bool false))],bT 37 .lss 34 36])
 (.cond (.tmp 37)
 (.seq
 (rG 20480 [oO 38 (.build [.nil,(.t (.int .i64 0))] []) [],oS 2 8 38,mC 9 (.t (.int .i64 13))])
 .ret)
 .skip))
 (.seq
 (.seq
 (rG 24576 [mC 10 (.t (.int .i64 0))])
 (.block 0
 (.loop (zL n_ref8_Active))))
 (.seq
 (.seq
 (rG 45056 [mC 11 (.t (.int .i64 0))])
 (.block 2
 (.loop (zY n_ref8_Active n_ref1_Size))))
 (.seq
 (rG 65536 [oO 74 (.load 2 true) [.tmp 4],cL 75 n_ref8_Copy true [.tmp 74],oO 12 (.new 2 [(.agg [.nil,(.t (.int .i64 0))])]) [],oS 2 12 75])
 (.seq
 (.seq
 (rG 69632 [mC 13 (.t (.int .i64 0))])
 (.block 4
 (.loop (zD n_ref8_Active n_ref1_Copy n_ref1_Sum))))
 (.seq
 (rG 90112 [oO 106 (.faddr 1) [.tmp 12],oO 107 (.load 1 false) [.tmp 106],bN 108 .add 107 1,oO 109 (.faddr 1) [.tmp 12],oS 1 109 108])
 (.seq
 (rG 94208 [oO 110 (.load 2 true) [.tmp 12],oS 2 8 110,mC 9 (.t (.int .i64 0))])
 .ret)))))))))
def vI:AC:=
 (.seq
 (.seq
 (rG 12288 [mv 10 6,bN 11 .lss 10 2])
 (.cond (.tmp 11)
 .skip
 (.exit 0)))
 (.seq
 (.block 1
 (.seq
 (rG 20480 [mv 14 6,oO 15 (.aaddr 2 1) [.tmp 3,.tmp 14],oO 16 (.load 1 false) [.tmp 15],bN 17 .lss 16 0,mv 18 17,mF 19 6 18,oF 20 18 (.aaddr 2 1) [.tmp 3,.tmp 19],oF 21 18 (.load 1 false) [.tmp 20],oF 22 18 (.bin .gtr) [.tmp 21,.cst (.t (.int .i64 65535))],oO 23 .pick [.tmp 18,.cst (.t (.bool true)),.tmp 22]])
 (.cond (.tmp 23)
 (.seq
 (rG 24576 [mC 4 .nil,mC 5 (.t (.int .i64 1))])
 .ret)
 .skip)))
 (rG 16384 [mv 12 6,bN 13 .add 12 1,mv 6 13])))
def zT:AC:=
 (.seq
 (.seq
 (rG 57344 [mv 38 9,bN 39 .lss 38 16])
 (.cond (.tmp 39)
 .skip
 (.exit 4)))
 (.seq
 (.block 5
 (.seq
 (rG 65536 [mv 42 8,oO 43 (.aaddr 2 1) [.tmp 3,.tmp 42],oO 44 (.load 1 false) [.tmp 43],mv 45 9,oO 46 (.conv .u64) [.tmp 45],bT 47 .shr 44 46,bN 48 .and 47 1,bN 49 .eql 48 1])
 (.cond (.tmp 49)
 (rG 69632 [mv 50 7,oO 51 (.faddr 0) [.tmp 2],oO 52 (.load 1 false) [.tmp 51],mv 53 8,oO 54 (.iaddr 1) [.tmp 52,.tmp 53],oO 55 (.load 1 false) [.tmp 54],mv 56 9,oO 57 (.iaddr 1) [.tmp 55,.tmp 56],oO 58 (.load 1 false) [.tmp 57],oO 59 (.append 1 1) [.tmp 50,.tmp 58],mv 7 59])
 .skip)))
 (rG 61440 [mv 40 9,bN 41 .add 40 1,mv 9 41])))
def jW (n_ref8_Active:Nat):AC:=
 (.seq
 (.seq
 (rG 36864 [mv 24 8,bN 25 .lss 24 2])
 (.cond (.tmp 25)
 .skip
 (.exit 2)))
 (.seq
 (.block 3
 (.seq
 (.seq
 (rG 45056 [mv 28 8,oO 29 (.aaddr 2 1) [.tmp 3,.tmp 28],oO 30 (.load 1 false) [.tmp 29],bN 31 .neq 30 0,mv 32 31,oG 33 32 (.load 2 true) [.tmp 2],mG 34 8 32,cG 35 32 n_ref8_Active false [.tmp 33,.tmp 34],oG 36 32 (.un .not) [.tmp 35],oO 37 .pick [.tmp 32,.tmp 36,.cst (.t (.bool false))]])
 (.cond (.tmp 37)
 (.seq
 (rG 49152 [mC 4 .nil,mC 5 (.t (.int .i64 27))])
 .ret)
 .skip))
 (.seq
 (rG 53248 [mC 9 (.t (.int .i64 0))])
 (.block 4
 (.loop zT)))))
 (rG 40960 [mv 26 8,bN 27 .add 26 1,mv 8 27])))
def qJi (n_ref8_Active n_ref3_Uint n_ref1_Hash:Nat):AC:=
 (.seq
 (rG 4096 [oO 2 .box [.tmp 0],oO 3 .boxArr [.tmp 1],mC 4 .nil,mC 5 (.t (.int .i64 0))])
 (.seq
 (.seq
 (rG 8192 [mC 6 (.t (.int .i64 0))])
 (.block 0
 (.loop vI)))
 (.seq
 (rG 28672 [mC 7 .nil])
 (.seq
 (.seq
 (rG 32768 [mC 8 (.t (.int .i64 0))])
 (.block 2
 (.loop (jW n_ref8_Active))))
 (.seq
 (.reg 73728 (some [0,1,3,0,8,31,0,127,255,511,1023]) [oO 60 (.aaddr 2 1) [.tmp 3,.cst (.t (.int .i64 0))],oO 61 (.load 1 false) [.tmp 60],cL 62 n_ref3_Uint false [.cst .nil,.cst (.t (.int .i64 2)),.tmp 61],oO 63 (.aaddr 2 1) [.tmp 3,.cst (.t (.int .i64 1))],oO 64 (.load 1 false) [.tmp 63],cL 65 n_ref3_Uint false [.tmp 62,.cst (.t (.int .i64 2)),.tmp 64],mv 66 7,oO 67 (.bslice 1 2 .nil [0,1]) [.tmp 65,.tmp 66],cL 68 n_ref1_Hash false [.cst (.t (.int .i64 5)),.tmp 67],mv 4 68,mC 5 (.t (.int .i64 0))])
 .ret)))))
end Go.Eng
end
section
set_option maxRecDepth 20000
set_option maxHeartbeats 8000000
namespace Go.Eng
theorem qZ1 (tab:Tab) (gl:Gl) (n:Int) (hn:n=20∨n=32):qFt.wp tab gl (qE 0 [.t (.int .u64 1),.t (.int .u64 n)]) (qE 0 []) (zZ [(4,none),(5,none)] 0 (fun r o=>r = .tup [.t (.int .u64 0),.t (.int .u64 n)]∧o=[])):=by
 rcases hn with rfl | rfl
 ·simp (disch:=omega) only [go_sem,seval,qFt,BitVec.reduceOfInt,BitVec.reduceAnd,BitVec.reduceToNat,Int.reduceFDiv]
 ·simp (disch:=omega) only [go_sem,seval,qFt,BitVec.reduceOfInt,BitVec.reduceAnd,BitVec.reduceToNat,Int.reduceFDiv]
def qEl:Ct where
 α:=Int
 as x:=[.t (.int .u64 1),.t (.int .u64 x)]
 ins _:=[]
 pre x:=x=20∨x=32
 r x:= .tup [.t (.int .u64 0),.t (.int .u64 x)]
 outs _:=[]
 inj:=by
  intro a b h _
  simp at h
  subst h;exact⟨rfl,rfl⟩
theorem zFk {n:Int} (h:n=20∨n=32):qEl.fs [.t (.int .u64 1),.t (.int .u64 n)] []=some (.tup [.t (.int .u64 0),.t (.int .u64 n)],[]):=qEl.eq n h
theorem zH5 (tab:Tab) (gl:Gl) (n1 n2:Nat) (h2:tab.look n2=some qEl.fs) (n:Int) (hn:n=20∨n=32):(qQa n1 n2).wp tab gl (qE 0 [.t (.int .u64 1),.t (.int .u64 n)]) (qE 0 []) (zZ [(4,none),(5,none)] 0 (fun r o=>r = .tup [.t (.int .u64 0),.t (.int .u64 n)]∧o=[])):=by
 simp (disch:=omega) only [go_sem,seval,qQa,h2,zFk]
def qYi:Ct where
 α:=Int
 as x:=[.t (.int .i64 x)]
 ins _:=[]
 pre x:=x=20∨x=32
 r x:= .sl 0 0 x.toNat
 outs _:=[.live 1 [] true false]
 inj:=by
  intro a b h _
  simp at h
  subst h;exact⟨rfl,rfl⟩
theorem zZ4 {n:Int} (h:n=20∨n=32):qYi.fs [.t (.int .i64 n)] []=some (.sl 0 0 n.toNat,[.live 1 [] true false]):=qYi.eq n h
theorem qZx {α:Type} {l xs:List α}:jJ l l.length xs=l++xs:=by simp[jJ]
theorem qTr (tab:Tab) (gl:Gl) (n1 n2:Nat) (h1:tab.look n1=some qEl.fs) (h2:tab.look n2=some qYi.fs) (x:UInt8) (n:Nat) (hn:n=20∨n=32) :
  (qG7 n1 n2).wp tab gl (qE 0 [.t (.sl ([x].map qA)),.t (.int .i64 n)]) (qE 0 []) (xM [] [(4,none)] 0 (fun r o=>r = .sl 0 0 n∧o=[.live 1 (((List.replicate n x).map qA).map V.t) true false])):=by
 have hn2:(n:Int)=20∨(n:Int)=32:=by omega
 have ht1 : ∀ v:V,List.take n [v]=[v]:=fun v=>List.take_of_length_le (by simp only[List.length_cons,List.length_nil];omega)
 simp (disch:=omega) only [go_sem,seval,qG7,h1,h2,zFk,zZ4,ht1]
 refine qH6 (ι := { p:Nat // 1≤p∧p≤n }) (fun p=>([(7,.t (.int .i64 n)),(8,.t (.int .i64 n)),(9,.sl 69648 0 n),(10,.t (.int .i64 p.1))],[(69648,.live 1 (((List.replicate p.1 x).map qA).map V.t) true false)])) (fun p=>n-p.1) ⟨1,by omega⟩ ?_ (fun p=>?_)
 ·refine qI.rd id ?_ ?_ rfl
  all_goals simp (disch:=omega) only [go_sem,seval,id,List.map_cons,List.map_nil]
 ·obtain⟨p,hp1,hp2⟩:=p
  by_cases hlt:p<n
  ·have hse : ∀ xs,jJ (List.map V.t (List.map qA (List.replicate p x))) p xs=List.map V.t (List.map qA (List.replicate p x))++xs:=by
    intro xs
    have:=qZx (l:=List.map V.t (List.map qA (List.replicate p x))) (xs:=xs)
    simpa using this
   have hm:(if (n:Int)<(p:Int) then (n:Int) else (p:Int))=p:=if_neg (by omega)
   by_cases hd:p≤n-p
   ·simp (disch:=omega) only [go_sem,seval,kB,hse,List.take_replicate,hm]
    refine⟨rfl,⟨p+p,by omega⟩,by simp only;omega,qI.rd id ?_ ?_ rfl⟩
    all_goals simp (disch:=omega) only [go_sem,seval,id,List.replicate_append_replicate]
   ·simp (disch:=omega) only [go_sem,seval,kB,hse,List.take_replicate,hm]
    refine⟨rfl,⟨p+(n-p),by omega⟩,by simp only;omega,qI.rd id ?_ ?_ rfl⟩
    all_goals simp (disch:=omega) only [go_sem,seval,id,List.replicate_append_replicate]
  ·have e:p=n:=by omega
   subst e
   simp (disch:=omega) only [go_sem,seval,kB]
def qHx:Ct where
 α:=UInt8×Nat
 as x:=[.t (.sl ([x.1].map qA)),.t (.int .i64 x.2)]
 ins _:=[]
 pre x:=x.2=20∨x.2=32
 r x:= .sl 0 0 x.2
 outs x:=[.live 1 (((List.replicate x.2 x.1).map qA).map V.t) true false]
 inj:=by
  rintro⟨a,b⟩ ⟨c,d⟩ h _
  simp[qPq,Int.natCast_inj] at h
  obtain⟨rfl,rfl⟩:=h
  exact⟨rfl,rfl⟩
theorem zL2 {x:UInt8} {n:Nat} (h:n=20∨n=32):qHx.fs [.t (.sl [qA x]),.t (.int .i64 n)] []=some (.sl 0 0 n,[.live 1 (((List.replicate n x).map qA).map V.t) true false]):=qHx.eq (x,n) h
theorem qPi (tab:Tab) (gl:Gl) (n1:Nat) (h1:tab.look n1=some qHx.fs) (x:UInt8) (n:Nat) (hn:n=20∨n=32):(qFc n1).wp tab gl (qE 0 [.t (.int .i64 n),.t (qA x)]) (qE 0 []) (xM [] [(4,none)] 0 (fun r o=>r = .sl 0 0 n∧o=[.live 1 (((List.replicate n x).map qA).map V.t) true false])):=by
 simp (disch:=omega) only [go_sem,seval,qFc,h1,zL2]
theorem zRk {α:Type} {x d:α} {n k:Nat} (h:k<n):(List.replicate k x++List.replicate (n-k) d).set k x=List.replicate (k+1) x++List.replicate (n-(k+1)) d:=by
 rw[show n-k=(n-(k+1))+1 by omega,List.replicate_succ,List.set_append_right _ _ (by simp)]
 simp[List.replicate_succ']
theorem zD4 (tab:Tab) (gl:Gl) (x:UInt8) (n:Nat) (hn:n<1000000000):qHj.wp tab gl (qE 0 [.t (.int .i64 n),.t (qA x)]) (qE 0 []) (xM [] [(4,none)] 0 (fun r o=>r = .sl 0 0 n∧o=[.live 1 (((List.replicate n x).map qA).map V.t) true false])):=by
 simp (disch:=omega) only [go_sem,seval,qHj]
 refine qD n (fun k=>[(0,.t (.int .i64 n)),(1,.t (qA x)),(5,.sl 8208 0 n),(6,.t (.int .i64 k))]) (fun k=>[(8208,.live 1 (((List.replicate k x++List.replicate (n-k) 0).map qA).map V.t) true false)]) ?_ (fun k hk=>?_)
 ·refine qI.rd id ?_ ?_ rfl
  all_goals simp (disch:=omega) only [go_sem,seval,id]
 ·by_cases hlt:k<n
  ·simp (config := { maxSteps:=2000000 }) (disch:=(first | omega | (simp only[wL,wK];omega))) only [go_sem,seval,qDc]
   refine⟨hlt,qI.rd id ?_ ?_ rfl⟩
   all_goals simp (disch:=omega) only [go_sem,seval,id,zRk hlt]
  ·have e:k=n:=by omega
   subst e
   simp (disch:=omega) only [go_sem,seval,qDc,Nat.sub_self,List.append_nil]
end Go.Eng
end
section
set_option maxRecDepth 20000
set_option maxHeartbeats 8000000
namespace Go.Eng
abbrev jH:=List (List UInt8)
def qCi (b:jH):T:= .sl (b.map bsT)
def vY (bk:List jH) (u:Int):T:= .agg [.sl (bk.map qCi),.int .i64 u]
theorem zI5 {b:jH}:qCi b = .sl (b.map bsT):=Eq.trans (Eq.refl _) rfl
theorem zQi {bk:List jH} {u:Int}:vY bk u = .agg [.sl (bk.map qCi),.int .i64 u]:=Eq.trans (Eq.refl _) rfl
attribute [go_sem] zI5 zQi
def qVr (b:jH):Prop:=b.length=0∨b.length=16
def zNx (b0 b1:jH):Int:=(if b0.length=16 then 1 else 0)+(if b1.length=16 then 2 else 0)
theorem qKu (tab:Tab) (gl:Gl) (u:Int):vL.wp tab gl (qE 0 [.t (vY [] u)]) (qE 0 []) (zZ [(2,none)] 0 (fun r o=>r = .t (.int .i64 0)∧o=[])):=by
 simp (disch:=omega) only [go_sem,seval,vL,List.map_nil,List.map_cons]
 refine qF 1 ?_
 simp (disch:=omega) only [go_sem,seval,qB,jP]
theorem qKv (tab:Tab) (gl:Gl) (b0 b1:jH) (h0:b0.length<1000000000) (h1:b1.length<1000000000) (u:Int):vL.wp tab gl (qE 0 [.t (vY [b0,b1] u)]) (qE 0 []) (zZ [(2,none)] 0 (fun r o=>r = .t (.int .i64 (zNx b0 b1))∧o=[])):=by
 simp (disch:=omega) only [go_sem,seval,vL,List.map_nil,List.map_cons]
 refine qF 3 ?_
 by_cases e0:b0.length=16
 ·by_cases e1:b1.length=16
  ·simp (disch:=omega) only [go_sem,seval,qB,jP,zNx,e0,e1,BitVec.reduceOfInt,BitVec.reduceOr,BitVec.reduceToNat]
  ·simp (disch:=omega) only [go_sem,seval,qB,jP,zNx,e0,e1,BitVec.reduceOfInt,BitVec.reduceOr,BitVec.reduceToNat]
 ·by_cases e1:b1.length=16
  ·simp (disch:=omega) only [go_sem,seval,qB,jP,zNx,e0,e1,BitVec.reduceOfInt,BitVec.reduceOr,BitVec.reduceToNat]
  ·simp (disch:=omega) only [go_sem,seval,qB,jP,zNx,e0,e1,BitVec.reduceOfInt,BitVec.reduceOr,BitVec.reduceToNat]
inductive RK:List jH→Prop
 | nil:RK []
 | two (b0 b1:jH) (h0:qVr b0) (h1:qVr b1):RK [b0,b1]
def zIw:List jH→Int
 | [b0,b1]=>zNx b0 b1
 | _=>0
theorem zI6 {a b:jH} (h:qCi a=qCi b):a=b:=by
 simpa [qCi,qA6] using h
theorem qIr {a b:List jH} {u v:Int} (h:vY a u=vY b v):a=b∧u=v:=by
 simp only[vY,T.agg.injEq,List.cons.injEq,T.sl.injEq,T.int.injEq,true_and,and_true] at h
 exact⟨kJ (fun _ _=>zI6) h.1,h.2⟩
def wT:Ct where
 α:=List jH×Int
 as x:=[.t (vY x.1 x.2)]
 ins _:=[]
 pre x:=RK x.1
 r x:= .t (.int .i64 (zIw x.1))
 outs _:=[]
 inj:=by
  rintro⟨a,u⟩ ⟨b,v⟩ h _
  simp only[List.cons.injEq,V.t.injEq,and_true] at h
  obtain⟨rfl,rfl⟩:=qIr h
  exact⟨rfl,rfl⟩
theorem zIx {bk:List jH} {u:Int} (h:RK bk):wT.fs [.t (.agg [.sl (bk.map qCi),.int .i64 u])] []=some (.t (.int .i64 (zIw bk)),[]):=wT.eq (bk,u) h
def onB (bk:List jH) (a:Nat):Bool:=decide ((bk.getD a []).length=16)
theorem qUd (tab:Tab) (gl:Gl) (n1:Nat) (h1:tab.look n1=some wT.fs) (bk:List jH) (u:Int) (hk:RK bk) (a:Nat) (ha:a<2):(qHm n1).wp tab gl (qE 0 [.t (vY bk u),.t (.int .i64 a)]) (qE 0 []) (zZ [(4,none)] 0 (fun r o=>r = .t (.bool (onB bk a))∧o=[])):=by
 have he:=zIx (u:=u) hk
 have hv:zIw bk=0∨zIw bk=1∨zIw bk=2∨zIw bk=3:=by
  cases hk with
  | nil=>left;rfl
  | two b0 b1 h0 h1=>simp only[zIw,zNx];split<;>split<;>simp
 have hon:onB bk a=decide ((zIw bk).toNat/2^a%2=1):=by
  cases hk with
  | nil=>
   rcases (show a=0∨a=1 by omega) with rfl | rfl<;>simp[onB,zIw]
  | two b0 b1 h0 h1=>
   rcases (show a=0∨a=1 by omega) with rfl | rfl
   ·simp only[onB,zIw,zNx,List.getD_cons_zero];split<;>split<;>simp_all
   ·simp only[onB,zIw,zNx,List.getD_cons_succ,List.getD_cons_zero];split<;>split<;>simp_all
 rw[hon]
 rcases (show a=0∨a=1 by omega) with rfl | rfl<;>rcases hv with hv | hv | hv | hv<;>rw[hv] at he<;>simp only[hv]
 all_goals simp (disch:=omega) only [go_sem,seval,qHm,h1,he,Int.reduceFDiv,Int.reduceToNat,Nat.reduceDiv,Nat.reduceMod,Int.reduceBEq]
theorem qNr (tab:Tab) (gl:Gl) (i:Int):kH.wp tab gl (qE 0 [.t (.int .i64 i)]) (qE 0 []) (zZ [(2,none)] 0 (fun r o=>r = .t (.bool (decide (0≤i∧i<16)))∧o=[])):=by
 by_cases h:0≤i
 ·by_cases h2:i<16
  ·simp (disch:=omega) only [go_sem,seval,kH,h,h2]
  ·simp (disch:=omega) only [go_sem,seval,kH,h,h2]
 ·simp (disch:=omega) only [go_sem,seval,kH,h]
def yV (i:Int) (reset:Bool):Int:=if reset=true∧i<12 then 5 else if i=14 then (if reset then 3 else 2) else if i=15 then (if reset then 4 else 3) else 0
theorem qNs (tab:Tab) (gl:Gl) (i:Int) (rs:Bool):qEe.wp tab gl (qE 0 [.t (.int .i64 i),.t (.bool rs)]) (qE 0 []) (zZ [(4,none)] 0 (fun r o=>r = .t (.int .i64 (yV i rs))∧o=[])):=by
 cases rs<;>by_cases h12:i<12<;>by_cases h14:i=14<;>by_cases h15:i=15
 all_goals try omega
 all_goals simp (disch:=omega) only [go_sem,seval,qEe,yV,h12,h14,h15]
theorem zAp (tab:Tab) (gl:Gl) (i:Int) (rs:Bool):qLf.wp tab gl (qE 0 [.t (.int .i64 i),.t (.bool rs)]) (qE 0 []) (zZ [(4,none)] 0 (fun r o=>r = .t (.int .i64 (if yV i rs=5 then -1 else yV i rs))∧o=[])):=by
 cases rs<;>by_cases h12:i<12<;>by_cases h14:i=14<;>by_cases h15:i=15
 all_goals try omega
 all_goals simp (disch:=omega) only [go_sem,seval,qLf,yV,h12,h14,h15]
def zNo (bk:List jH) (a:Nat):Bool:=decide (a<bk.length)&&decide (0<(bk.getD a []).length)
theorem qXl (tab:Tab) (gl:Gl) (bk:List jH) (u:Int) (a:Nat) (ha:a<1000000000) (hb:bk.length<1000000000) (hm : ∀ b∈bk,b.length<1000000000):xT.wp tab gl (qE 0 [.t (vY bk u),.t (.int .i64 a)]) (qE 0 []) (zZ [(4,none)] 0 (fun r o=>r = .t (.bool (zNo bk a))∧o=[])):=by
 by_cases h:a<bk.length
 ·have hg:bk[a]?=some (bk.getD a []):=by simp[List.getD,h]
  have hl:(bk.getD a []).length<1000000000:=by
   have:bk.getD a []=bk[a]:=by simp[List.getD,h]
   rw[this];exact hm _ (List.getElem_mem h)
  by_cases h0:0<(bk.getD a []).length
  ·simp (disch:=omega) only [go_sem,seval,xT,zNo,h,hg,h0]
  ·simp (disch:=omega) only [go_sem,seval,xT,zNo,h,hg,h0]
 ·simp (disch:=omega) only [go_sem,seval,xT,zNo,h]
end Go.Eng
end
section
set_option maxRecDepth 20000
set_option maxHeartbeats 8000000
namespace Go.Eng
theorem qNt (tab:Tab) (gl:Gl) (u:Int):wJ.wp tab gl (qE 0 [.t (vY [] u)]) (qE 0 []) (xM [] [(2,some (2,true))] 0 (fun r o=>r = .agg [.nil,.t (.int .i64 u)]∧o=[])):=by
 simp (disch:=omega) only [go_sem,seval,wJ,List.map_nil,Int.natCast_zero]
 refine qF 1 ?_
 simp (disch:=omega) only [go_sem,seval,qB,vA]
theorem qNu (tab:Tab) (gl:Gl) (b0 b1:jH) (u:Int) (m0:zA6 b0) (m1:zA6 b1):wJ.wp tab gl (qE 0 [.t (vY [b0,b1] u)]) (qE 0 []) (xM [] [(2,some (2,true))] 0 (fun r o=>r = .agg [.sl 0 0 2,.t (.int .i64 u)]∧o=[.live 1 [.sl 1 0 b0.length,.sl 2 0 b1.length] true false,.live 1 ((b0.map bsT).map V.t) true false,.live 1 ((b1.map bsT).map V.t) true false])):=by
 simp (disch:=omega) only [go_sem,seval,wJ,List.map_nil,List.map_cons]
 have hl0:=m0.1
 have hl1:=m1.1
 refine qD 2 (fun k=>match k with | 0=>[(2,.ref 4112 0 0),(3,.ref 8240 0 0),(15,.t (.int .i64 0)),(13,.t (T.sl [T.sl (List.map bsT b0),T.sl (List.map bsT b1)])),(14,.t (.int .i64 2))] | 1=>[(2,.ref 4112 0 0),(3,.ref 8240 0 0),(15,.t (.int .i64 1)),(13,.t (T.sl [T.sl (List.map bsT b0),T.sl (List.map bsT b1)])),(14,.t (.int .i64 2))] | _=>[(2,.ref 4112 0 0),(3,.ref 8240 0 0),(15,.t (.int .i64 2)),(13,.t (T.sl [T.sl (List.map bsT b0),T.sl (List.map bsT b1)])),(14,.t (.int .i64 2))]) (fun k=>match k with | 0=>[(8240,.live 2 [.agg [.nil,.t (.int .i64 u)]] true true),(4112,.live 2 [.agg [.nil,.t (.int .i64 0)]] true true)] | 1=>[(8240,.live 2 [.agg [.sl 9000 0 1,.t (.int .i64 u)]] true true),(9000,.live 1 [.sl 9001 0 b0.length] true false),(9001,.live 1 ((b0.map bsT).map V.t) true false),(4112,.live 2 [.agg [.nil,.t (.int .i64 0)]] true true)] | _=>[(8240,.live 2 [.agg [.sl 9000 0 2,.t (.int .i64 u)]] true true),(9000,.live 1 [.sl 9001 0 b0.length,.sl 9002 0 b1.length] true false),(9001,.live 1 ((b0.map bsT).map V.t) true false),(9002,.live 1 ((b1.map bsT).map V.t) true false),(4112,.live 2 [.agg [.nil,.t (.int .i64 0)]] true true)]) ?_ (fun k hk=>?_)
 ·refine qI.rd id ?_ ?_ rfl
  all_goals simp (disch:=omega) only [go_sem,seval,id]
 ·rcases (show k=0∨k=1∨k=2 by omega) with rfl | rfl | rfl
  ·simp (disch:=omega) only [go_sem,seval,vA]
   refine qD b0.length (fun i=>[(2,.ref 4112 0 0),(3,.ref 8240 0 0),(15,.t (.int .i64 0)),(13,.t (T.sl [T.sl (List.map bsT b0),T.sl (List.map bsT b1)])),(14,.t (.int .i64 2)),(6,.sl 9100 0 i),(21,.t (.int .i64 (i:Nat))),(19,.t (.sl (b0.map bsT))),(20,.t (.int .i64 b0.length))]) (fun i=>[(9100,.live 1 (((b0.take i).map bsT).map V.t) true false),(8240,.live 2 [.agg [.nil,.t (.int .i64 u)]] true true),(4112,.live 2 [.agg [.nil,.t (.int .i64 0)]] true true)]) ?_ (fun i hi=>?_)
   ·refine qI.cv0 (hv:=[(9100,.live 1 [] true false)]) (ho:=[(8240,.live 2 [.agg [.nil,.t (.int .i64 u)]] true true),(4112,.live 2 [.agg [.nil,.t (.int .i64 0)]] true true)]) id ?_ ?_ rfl rfl
    all_goals simp (disch:=omega) only [go_sem,seval,id,List.map_cons,List.map_nil]
   ·have hm:=qF9 m0 i
    by_cases hlt:i<b0.length
    ·simp (disch:=omega) only [go_sem,seval,vB]
     refine⟨hlt,qI.cv (hv:=[]) [40992] (fun j=>if j=9100 then 41024 else j) ?_ rfl⟩
     simp (disch:=omega) only [go_sem,seval,qDy (d:=[]) hlt]
     rfl
    ·have e:i=b0.length:=by omega
     subst e
     simp (disch:=omega) only [go_sem,seval,vB]
     refine qI.rd (fun j=>if j=9000 then 49216 else if j=9001 then 9100 else j) ?_ ?_ rfl
     all_goals simp (disch:=omega) only [go_sem,seval]
  ·simp (disch:=omega) only [go_sem,seval,vA]
   refine qD b1.length (fun i=>[(2,.ref 4112 0 0),(3,.ref 8240 0 0),(15,.t (.int .i64 1)),(13,.t (T.sl [T.sl (List.map bsT b0),T.sl (List.map bsT b1)])),(14,.t (.int .i64 2)),(6,.sl 9100 0 i),(21,.t (.int .i64 (i:Nat))),(19,.t (.sl (b1.map bsT))),(20,.t (.int .i64 b1.length))]) (fun i=>[(9100,.live 1 (((b1.take i).map bsT).map V.t) true false),(8240,.live 2 [.agg [.sl 9000 0 1,.t (.int .i64 u)]] true true),(9000,.live 1 [.sl 9001 0 b0.length] true false),(9001,.live 1 ((b0.map bsT).map V.t) true false),(4112,.live 2 [.agg [.nil,.t (.int .i64 0)]] true true)]) ?_ (fun i hi=>?_)
   ·refine qI.cv0 (hv:=[(9100,.live 1 [] true false)]) (ho:=[(8240,.live 2 [.agg [.sl 9000 0 1,.t (.int .i64 u)]] true true),(9000,.live 1 [.sl 9001 0 b0.length] true false),(9001,.live 1 ((b0.map bsT).map V.t) true false),(4112,.live 2 [.agg [.nil,.t (.int .i64 0)]] true true)]) id ?_ ?_ rfl rfl
    all_goals simp (disch:=omega) only [go_sem,seval,id,List.map_cons,List.map_nil]
   ·have hm:=qF9 m1 i
    by_cases hlt:i<b1.length
    ·simp (disch:=omega) only [go_sem,seval,vB]
     refine⟨hlt,qI.cv (hv:=[]) [40992] (fun j=>if j=9100 then 41024 else j) ?_ rfl⟩
     simp (disch:=omega) only [go_sem,seval,qDy (d:=[]) hlt]
     rfl
    ·have e:i=b1.length:=by omega
     subst e
     simp (disch:=omega) only [go_sem,seval,vB]
     refine qI.rd (fun j=>if j=9000 then 49216 else if j=9002 then 9100 else j) ?_ ?_ rfl
     all_goals simp (disch:=omega) only [go_sem,seval]
  ·simp (disch:=omega) only [go_sem,seval,vA]
theorem zAn (tab:Tab) (gl:Gl) (n1:Nat) (u:Int):(qBz n1).wp tab gl (qE 0 [.t (vY [] u)]) (qE 0 []) (xM [] [(2,some (2,true))] 0 (fun r o=>r = .agg [.nil,.t (.int .i64 u)]∧o=[])):=by
 simp (disch:=omega) only [go_sem,seval,qBz,List.map_nil]
 refine qF 1 ?_
 simp (disch:=omega) only [go_sem,seval,qB,kR]
def qF1:Ct where
 α:=List UInt8
 as x:=[.t (.sl (x.map qA))]
 ins _:=[]
 pre x:=x.length<1000000000
 r x:= .sl 0 0 x.length
 outs x:=[.live 1 ((x.map qA).map V.t) true false]
 inj:=by
  intro a b h _
  simp[qZ] at h
  subst h;exact⟨rfl,rfl⟩
theorem jS {bs:List UInt8} (h:bs.length<1000000000):qF1.fs [.t (.sl (bs.map qA))] []=some (.sl 0 0 bs.length,[.live 1 ((bs.map qA).map V.t) true false]):=qF1.eq bs h
theorem zAo (tab:Tab) (gl:Gl) (n1:Nat) (h1:tab.look n1=some qF1.fs) (b0 b1:jH) (u:Int) (m0:zA6 b0) (m1:zA6 b1):(qBz n1).wp tab gl (qE 0 [.t (vY [b0,b1] u)]) (qE 0 []) (xM [] [(2,some (2,true))] 0 (fun r o=>r = .agg [.sl 0 0 2,.t (.int .i64 u)]∧o=[.live 1 [.sl 1 0 b0.length,.sl 2 0 b1.length] true false,.live 1 ((b0.map bsT).map V.t) true false,.live 1 ((b1.map bsT).map V.t) true false])):=by
 simp (disch:=omega) only [go_sem,seval,qBz,List.map_nil,List.map_cons]
 have hl0:=m0.1
 have hl1:=m1.1
 refine qD 2 (fun k=>match k with | 0=>[(2,.ref 4112 0 0),(3,.ref 8240 0 0),(4,.t (.int .i64 0)),(1,.ref 4096 0 0)] | 1=>[(2,.ref 4112 0 0),(3,.ref 8240 0 0),(4,.t (.int .i64 1)),(1,.ref 4096 0 0)] | _=>[(2,.ref 4112 0 0),(3,.ref 8240 0 0),(4,.t (.int .i64 2)),(1,.ref 4096 0 0)]) (fun k=>match k with | 0=>[(8240,.live 2 [.agg [.nil,.t (.int .i64 u)]] true true),(4112,.live 2 [.agg [.nil,.t (.int .i64 0)]] true true),(4096,.live 2 [.t (.agg [T.sl [T.sl (List.map bsT b0),T.sl (List.map bsT b1)],.int .i64 u])] true true)] | 1=>[(8240,.live 2 [.agg [.sl 9000 0 1,.t (.int .i64 u)]] true true),(9000,.live 1 [.sl 9001 0 b0.length] true false),(9001,.live 1 ((b0.map bsT).map V.t) true false),(4112,.live 2 [.agg [.nil,.t (.int .i64 0)]] true true),(4096,.live 2 [.t (.agg [T.sl [T.sl (List.map bsT b0),T.sl (List.map bsT b1)],.int .i64 u])] true true)] | _=>[(8240,.live 2 [.agg [.sl 9000 0 2,.t (.int .i64 u)]] true true),(9000,.live 1 [.sl 9001 0 b0.length,.sl 9002 0 b1.length] true false),(9001,.live 1 ((b0.map bsT).map V.t) true false),(9002,.live 1 ((b1.map bsT).map V.t) true false),(4112,.live 2 [.agg [.nil,.t (.int .i64 0)]] true true),(4096,.live 2 [.t (.agg [T.sl [T.sl (List.map bsT b0),T.sl (List.map bsT b1)],.int .i64 u])] true true)]) ?_ (fun k hk=>?_)
 ·refine qI.rd id ?_ ?_ rfl
  all_goals simp (disch:=omega) only [go_sem,seval,id]
 ·rcases (show k=0∨k=1∨k=2 by omega) with rfl | rfl | rfl
  ·simp (disch:=omega) only [go_sem,seval,kR,h1,jS]
   refine qD b0.length (fun i=>[(2,.ref 4112 0 0),(3,.ref 8240 0 0),(4,.t (.int .i64 0)),(1,.ref 4096 0 0),(5,.sl 9100 0 i),(6,.t (.int .i64 (i:Nat)))]) (fun i=>[(9100,.live 1 (((b0.take i).map bsT).map V.t) true false),(8240,.live 2 [.agg [.nil,.t (.int .i64 u)]] true true),(4112,.live 2 [.agg [.nil,.t (.int .i64 0)]] true true),(4096,.live 2 [.t (.agg [T.sl [T.sl (List.map bsT b0),T.sl (List.map bsT b1)],.int .i64 u])] true true)]) ?_ (fun i hi=>?_)
   ·refine qI.cv0 (hv:=[(9100,.live 1 [] true false)]) (ho:=[(8240,.live 2 [.agg [.nil,.t (.int .i64 u)]] true true),(4112,.live 2 [.agg [.nil,.t (.int .i64 0)]] true true),(4096,.live 2 [.t (.agg [T.sl [T.sl (List.map bsT b0),T.sl (List.map bsT b1)],.int .i64 u])] true true)]) id ?_ ?_ rfl rfl
    all_goals simp (disch:=omega) only [go_sem,seval,id,List.map_cons,List.map_nil]
   ·have hm:=qF9 m0 i
    by_cases hlt:i<b0.length
    ·simp (disch:=omega) only [go_sem,seval,kS,h1,jS]
     refine⟨hlt,qI.cv (hv:=[]) [41104] (fun j=>if j=9100 then 41136 else j) ?_ rfl⟩
     simp (disch:=omega) only [go_sem,seval,qDy (d:=[]) hlt]
     rfl
    ·have e:i=b0.length:=by omega
     subst e
     simp (disch:=omega) only [go_sem,seval,kS,h1,jS]
     refine qI.rd (fun j=>if j=9000 then 45120 else if j=9001 then 9100 else j) ?_ ?_ rfl
     all_goals simp (disch:=omega) only [go_sem,seval]
  ·simp (disch:=omega) only [go_sem,seval,kR,h1,jS]
   refine qD b1.length (fun i=>[(2,.ref 4112 0 0),(3,.ref 8240 0 0),(4,.t (.int .i64 1)),(1,.ref 4096 0 0),(5,.sl 9100 0 i),(6,.t (.int .i64 (i:Nat)))]) (fun i=>[(9100,.live 1 (((b1.take i).map bsT).map V.t) true false),(8240,.live 2 [.agg [.sl 9000 0 1,.t (.int .i64 u)]] true true),(9000,.live 1 [.sl 9001 0 b0.length] true false),(9001,.live 1 ((b0.map bsT).map V.t) true false),(4112,.live 2 [.agg [.nil,.t (.int .i64 0)]] true true),(4096,.live 2 [.t (.agg [T.sl [T.sl (List.map bsT b0),T.sl (List.map bsT b1)],.int .i64 u])] true true)]) ?_ (fun i hi=>?_)
   ·refine qI.cv0 (hv:=[(9100,.live 1 [] true false)]) (ho:=[(8240,.live 2 [.agg [.sl 9000 0 1,.t (.int .i64 u)]] true true),(9000,.live 1 [.sl 9001 0 b0.length] true false),(9001,.live 1 ((b0.map bsT).map V.t) true false),(4112,.live 2 [.agg [.nil,.t (.int .i64 0)]] true true),(4096,.live 2 [.t (.agg [T.sl [T.sl (List.map bsT b0),T.sl (List.map bsT b1)],.int .i64 u])] true true)]) id ?_ ?_ rfl rfl
    all_goals simp (disch:=omega) only [go_sem,seval,id,List.map_cons,List.map_nil]
   ·have hm:=qF9 m1 i
    by_cases hlt:i<b1.length
    ·simp (disch:=omega) only [go_sem,seval,kS,h1,jS]
     refine⟨hlt,qI.cv (hv:=[]) [41104] (fun j=>if j=9100 then 41136 else j) ?_ rfl⟩
     simp (disch:=omega) only [go_sem,seval,qDy (d:=[]) hlt]
     rfl
    ·have e:i=b1.length:=by omega
     subst e
     simp (disch:=omega) only [go_sem,seval,kS,h1,jS]
     refine qI.rd (fun j=>if j=9000 then 45120 else if j=9002 then 9100 else j) ?_ ?_ rfl
     all_goals simp (disch:=omega) only [go_sem,seval]
  ·simp (disch:=omega) only [go_sem,seval,kR,h1,jS]
def twR (bk:List jH) (u:Int):V:=match bk with
 | [_,_]=> .agg [.sl 0 0 2,.t (.int .i64 u)]
 | _=> .agg [.nil,.t (.int .i64 u)]
def twO (bk:List jH):List Ob:=match bk with
 | [b0,b1]=>[.live 1 [.sl 1 0 b0.length,.sl 2 0 b1.length] true false,.live 1 ((b0.map bsT).map V.t) true false,.live 1 ((b1.map bsT).map V.t) true false]
 | _=>[]
def RM (bk:List jH):Prop:=RK bk ∧ ∀ b∈bk,zA6 b
def yJ:Ct where
 α:=List jH×Int
 as x:=[.t (vY x.1 x.2)]
 ins _:=[]
 pre x:=RM x.1
 r x:=twR x.1 x.2
 outs x:=twO x.1
 inj:=by
  rintro⟨a,u⟩ ⟨b,v⟩ h _
  simp only[List.cons.injEq,V.t.injEq,and_true] at h
  obtain⟨rfl,rfl⟩:=qIr h
  exact⟨rfl,rfl⟩
theorem zGa {u:Int}:yJ.fs [.t (.agg [.sl [],.int .i64 u])] []=some (.agg [.nil,.t (.int .i64 u)],[]):=yJ.eq ([],u) ⟨.nil,by simp⟩
theorem qY {b0 b1:jH} {u:Int} (h:RM [b0,b1]):yJ.fs [.t (.agg [.sl [.sl (b0.map bsT),.sl (b1.map bsT)],.int .i64 u])] [] =
  some (.agg [.sl 0 0 2,.t (.int .i64 u)],[.live 1 [.sl 1 0 b0.length,.sl 2 0 b1.length] true false,.live 1 ((b0.map bsT).map V.t) true false,.live 1 ((b1.map bsT).map V.t) true false]):=yJ.eq ([b0,b1],u) h
end Go.Eng
end
