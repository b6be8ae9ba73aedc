/- A part of an abstract machine, its walks, their tie. -/
import Derived.Test.YtpolalhffkhimaaGreatDoorE8
import Derived.Conc.MuLone
import Derived.KernelRfl
set_option linter.all false
section
namespace Go.Eng
variable {tab:Tab} {gl:Gl} {fs:Fs} {hs:Hs} {Qx:qFp}
theorem zZr {g:V→Q V}:rdL g [] = .ret []:=Eq.trans (Eq.refl _) rfl
theorem qYn {g:V→Q V}{c:V}{r:List V}:rdL g (c::r)=(g c).bind fun x=>(rdL g r).bind fun y=> .ret (x::y):=Eq.trans (Eq.refl _) rfl
theorem zZx {n:Nat}{x:T}:rdV n (.t x) = .ret (.t x):=by cases n<;>rfl
theorem zZv {n:Nat}:rdV n .nil = .ret .nil:=by cases n<;>rfl
theorem jGb {n:Nat}{cs:List T}:rdV n (.ro cs) = .ret (.ro cs):=by cases n<;>rfl
theorem zZw {n id i f:Nat}:rdV n (.ref id i f) = .ret (.ref id i f):=by cases n<;>rfl
theorem jF8 {n g id i f:Nat}:rdV n (.bd g id i f) = .ret (.bd g id i f):=by cases n<;>rfl
theorem jF9 {n:Nat}:rdV n .bq = .ret .bq:=by cases n<;>rfl
attribute [go_sem] jF9
attribute [go_sem] jF8
theorem zZy {n:Nat}{cs:List V}:rdV n (.tup cs) = .ret (.tup cs):=by cases n<;>rfl
theorem zZu {n:Nat}{cs:List V}:rdV (n+1) (.agg cs)=(rdL (rdV n) cs).bind fun p=> .ret (V.mk p):=Eq.trans (Eq.refl _) rfl
theorem jGa {n:Nat}{f:FuncId}{cs:List V}:rdV (n+1) (.fn f cs)=(rdL (rdV n) cs).bind fun p=> .ret (.fn f p):=Eq.trans (Eq.refl _) rfl
theorem jGc {n id off len:Nat}:rdV (n+1) (.sl id off len) = .get id fun
  | .live _ _ false _=>(zK (n+1) (.sl id off len)).bind fun p=>Q.assert (p.2=[]) (.ret p.1)
  | _=> .ret (.sl id off len):=Eq.trans (Eq.refl _) rfl
theorem zSt {es:List V}:zPk es=match qD1 es with | some _=> .ret es | none=>rdL (rdV 4) es:=Eq.trans (Eq.refl _) rfl
theorem zIm {α:Type}{q:Q α}:(q.bind fun x=>Q.ret x)=q:=by
 induction q with
 | ret a=>rfl
 | fail=>rfl
 | get id k ih=>simp only[Q.bind,ih]
 | free id k ih=>simp only[Q.bind,ih]
theorem jF4 {n:Nat}{ts:List T}:rdL (rdV n) (ts.map .t) = .ret (ts.map .t):=by
 induction ts with
 | nil=>rfl
 | cons x r ih=>simp[rdL,zZx,ih,Q.bind]
theorem zZq {g:V→Q V}{a b:List V}:rdL g (a++b)=(rdL g a).bind fun x=>(rdL g b).bind fun y=> .ret (x++y):=by
 induction a with
 | nil=>simp[rdL,Q.bind,zIm]
 | cons c r ih=>simp only[List.cons_append,rdL,ih,qEe,Q.bind]
section
variable {ρ:Nat→Nat} {vt ko:List Nat}
theorem jHz:vEq ρ vt ko .nil .nil=True:=by simp[vEq]
theorem jH1 {x:T}:vEq ρ vt ko .nil (.t x)=(x = .sl []):=by simp[vEq]
theorem jH0 {id off len:Nat}:vEq ρ vt ko .nil (.sl id off len)=((vt.contains id=true∧off=0)∧len=0):=by simp only[vEq]
theorem jHv {cs cs':List V}:vEq ρ vt ko (.agg cs) (.agg cs')=qY7 ρ vt ko cs cs':=by simp only[vEq]
theorem jHw {cs:List V}{ts:List T}:vEq ρ vt ko (.agg cs) (.t (.agg ts))=qY7 ρ vt ko cs (ts.map .t):=by simp only[vEq]
theorem jHy {f f':FuncId}{cs cs':List V}:vEq ρ vt ko (.fn f cs) (.fn f' cs')=(f=f'∧qY7 ρ vt ko cs cs'):=by simp only[vEq]
theorem jH6 {x y:T}:vEq ρ vt ko (.t x) (.t y)=(x=y):=by
 have:vEq ρ vt ko (.t x) (.t y)=(V.t x=(V.t y).ren ρ∧((V.t y).ids.all fun i=>ko.contains i)=true):=by cases y<;>simp only[vEq]
 rw[this];simp[V.ren,V.ids]
theorem jH4 {i j k i' j' k':Nat}:vEq ρ vt ko (.ref i j k) (.ref i' j' k')=((i=ρ i'∧j=j'∧k=k')∧ko.contains i'=true):=by
 simp[vEq,V.ren,V.ids]
theorem jH3:vEq ρ vt ko .bq .bq=True:=by
 simp[vEq,V.ren,V.ids]
attribute [go_sem] jH3
theorem jHx {g i j k g' i' j' k':Nat}:vEq ρ vt ko (.bd g i j k) (.bd g' i' j' k')=((g=g'∧i=ρ i'∧j=j'∧k=k')∧ko.contains i'=true):=by
 simp[vEq,V.ren,V.ids]
attribute [go_sem] jHx
theorem jH5 {i j k i' j' k':Nat}:vEq ρ vt ko (.sl i j k) (.sl i' j' k')=((i=ρ i'∧j=j'∧k=k')∧ko.contains i'=true):=by
 simp[vEq,V.ren,V.ids]
theorem jH2 {cs cs':List T}:vEq ρ vt ko (.ro cs) (.ro cs')=(cs=cs'):=by
 simp[vEq,V.ren,V.ids]
theorem zUi:qY7 ρ vt ko [] []=True:=by simp only[qY7]
theorem zOs {c c':V}{r r':List V}:qY7 ρ vt ko (c::r) (c'::r')=(vEq ρ vt ko c c'∧qY7 ρ vt ko r r'):=by simp only[qY7]
theorem zQz {u es':List V}:zYg ρ vt ko u es'=match qD1 u with
 | some _=>u=qFr ρ es'∧((qMx es').all fun i=>ko.contains i)=true
 | none=>qY7 ρ vt ko u es':=Eq.trans (Eq.refl _) rfl
theorem zJb {v v':V}:zI9 hs ρ vt ko (some v) v'=(rdV 4 v).wp hs (fun u _=>vEq ρ vt ko u v'):=Eq.trans (Eq.refl _) rfl
theorem zJa {v':V}:zI9 hs ρ vt ko none v'=False:=Eq.trans (Eq.refl _) rfl
theorem zHq:qKn fs hs ρ vt ko []=True:=Eq.trans (Eq.refl _) rfl
theorem zC4 {t:Nat}{v':V}{r:Fs}:qKn fs hs ρ vt ko ((t,v')::r)=(zI9 hs ρ vt ko (jE fs t) v'∧qKn fs hs ρ vt ko r):=Eq.trans (Eq.refl _) rfl
theorem zPq:zO9 hs ρ vt ko []=True:=Eq.trans (Eq.refl _) rfl
theorem zJ6 {i:Nat}{o':Ob}{r:Hs}:zO9 hs ρ vt ko ((i,o')::r)=(obC hs ρ vt ko (jE hs (ρ i)) o'∧zO9 hs ρ vt ko r):=Eq.trans (Eq.refl _) rfl
theorem zSh {z z':Nat}{es es':List V}{wr wr' full full':Bool}:obC hs ρ vt ko (some (.live z es wr full)) (.live z' es' wr' full') =
  (z=z'∧wr=wr'∧(full'=true→full=true)∧(zPk es).wp hs (fun u _=>zYg ρ vt ko u es')):=Eq.trans (Eq.refl _) rfl
theorem zSg {o:Ob}:obC hs ρ vt ko (some o) .dead=True:=by cases o<;>rfl
end
theorem zRh {es:List V}:zYo es=match qD1 es with | some _=>[] | none=>qMx es:=Eq.trans (Eq.refl _) rfl
theorem zL0 {n:Nat}{ids:List Nat}{obs:List Ob}:qN0 n [] ids obs = .ret (ids,obs):=by cases n<;>rfl
theorem zIa {n id:Nat}{todo ids:List Nat}{obs:List Ob}:qN0 (n+1) (id::todo) ids obs=if ids.contains id then qN0 n todo ids obs else
  .get id fun
   | .live z es true full=>(zPk es).bind fun es'=>qN0 n (todo++zYo es') (ids++[id]) (obs++[.live z es' true full])
   | _=> .fail:=Eq.trans (Eq.refl _) rfl
theorem zTc {n:Nat}{vs:List V}:zWk n vs=(rdL (rdV 4) vs).bind fun us=>(qN0 (40+n) (List.range n++qMx us) [] []).bind fun q=>
  Q.assert ((qMx us).all (fun i=>q.1.contains i)=true) (.ret (zWj (qFr (fun r=>q.1.idxOf r) us),q.2.map (Ob.ren fun r=>q.1.idxOf r))):=Eq.trans (Eq.refl _) rfl
theorem zEe {fz:List Nat}{rs:List (Nat×Option (Nat×Bool))}{n:Nat}{R:V→List Ob→Prop}:kN fz rs n R .normal fs hs=(qW5 fz).wp hs (fun fw _=>((rsQ fs rs).bind fun vs=>zWk n vs).wp (qXg hs fw) (fun p _=>R p.1 p.2)):=Eq.trans (Eq.refl _) rfl
theorem zS8 {fz:List Nat}{rs:List (Nat×Option (Nat×Bool))}{n:Nat}{R:V→List Ob→Prop}:kN fz rs n R .ret fs hs=(qW5 fz).wp hs (fun fw _=>((rsQ fs rs).bind fun vs=>zWk n vs).wp (qXg hs fw) (fun p _=>R p.1 p.2)):=Eq.trans (Eq.refl _) rfl
def unK (tab:Tab)(gl:Gl)(a:AC)(n:Nat)(Qx:qFp):qFp:=fun e fs' hs'=>match e with | .normal=>zBb tab gl a n fs' hs' Qx | e=>Qx e fs' hs'
theorem qF {a:AC}{n:Nat}:zBb tab gl a (n+1) fs hs Qx=a.wp tab gl fs hs (unK tab gl a n Qx):=Eq.trans (Eq.refl _) rfl
theorem zJg {a:AC}{n:Nat}:unK tab gl a n Qx .normal fs hs=zBb tab gl a n fs hs Qx:=Eq.trans (Eq.refl _) rfl
theorem zUc {a:AC}{n id:Nat}:unK tab gl a n Qx (.exit id) fs hs=Qx (.exit id) fs hs:=Eq.trans (Eq.refl _) rfl
theorem jBe {a:AC}{n:Nat}:unK tab gl a n Qx .ret fs hs=Qx .ret fs hs:=Eq.trans (Eq.refl _) rfl
@[congr] theorem zYx {a:AC} {n:Nat} {fs':Fs} {hs':Hs} (h1:fs=fs') (h2:hs=hs'):zBb tab gl a n fs hs Qx=zBb tab gl a n fs' hs' Qx:=by rw[h1,h2]
theorem zBa {ι:Type}{I:ι→Fs×Hs}{μ:ι→Nat}{i:ι}:zR1 I μ i Qx .normal fs hs = ∃ j,μ j<μ i∧qK fs hs (I j).1 (I j).2:=Eq.trans (Eq.refl _) rfl
theorem zIh {ι:Type}{I:ι→Fs×Hs}{μ:ι→Nat}{i:ι}{id:Nat}:zR1 I μ i Qx (.exit id) fs hs=Qx (.exit id) fs hs:=Eq.trans (Eq.refl _) rfl
theorem zMj {ι:Type}{I:ι→Fs×Hs}{μ:ι→Nat}{i:ι}:zR1 I μ i Qx .ret fs hs=Qx .ret fs hs:=Eq.trans (Eq.refl _) rfl
attribute [go_sem] zZr qYn zZx zZv jGb zZw zZy zZu jGa jGc zSt jF4 zZq jHz jH1 jH0 jHv jHw jHy jH6 jH4 jH5 jH2 zUi zOs zQz zJb zJa
 zHq zC4 zPq zJ6 zSh zSg zRh zL0 zIa zTc zEe zS8 zJg zUc jBe zBa zIh zMj
theorem jKh {p:Prop}[Decidable p](h:p):decide p=true:=decide_eq_true h
theorem jKg {p:Prop}[Decidable p](h : ¬ p):decide p=false:=decide_eq_false h
theorem jEc {a b:Int}(h:a=b):(a==b)=true:=by simp[h]
theorem jEb {a b:Int}(h : ¬ a=b):(a==b)=false:=by simp[h]
theorem jEe {a b:Int}(h : ¬ a=b):(a != b)=true:=by simp[h]
theorem jEd {a b:Int}(h:a=b):(a != b)=false:=by simp[h]
attribute [go_sem low] jKh jKg jM7 jEc jEb jEe jEd
theorem zBd {α γ:Type}{f:α→γ}{l:List α}{x:α}{r:List γ}:List.map f l++f x::r=List.map f (l++[x])++r:=sM
theorem zD4 {α γ:Type}{f:α→γ}{l r:List α}:List.map f l++List.map f r=List.map f (l++r):=sM
theorem zK2 {α γ:Type}{f:α→γ}{l:List α}{n:Nat}:List.drop n (List.map f l)=List.map f (List.drop n l):=sM
theorem zOp {α γ:Type}{f:α→γ}{l:List α}{n:Nat}:List.take n (List.map f l)=List.map f (List.take n l):=sM
theorem zT3 {α γ:Type}{f:α→γ}{l:List α}{n:Nat}{x:α}:List.set (List.map f l) n (f x)=List.map f (List.set l n x):=by
 rw[List.map_set]
theorem zRd {α γ:Type}{f:α→γ}{l:List α}{n:Nat}:(List.map f l)[n]?=(l[n]?).map f:=List.getElem?_map
theorem jLq {n:Nat}{x:T}:List.replicate n (V.t x)=List.map V.t (List.replicate n x):=sM
theorem jLp {n:Nat}{x:UInt8}:List.replicate n (qA x)=List.map qA (List.replicate n x):=sM
theorem jLr {n:Nat}{x:UInt32}:List.replicate n (jB x)=List.map jB (List.replicate n x):=sM
theorem jTf {α:Type}{x:α}:List.replicate 0 x=[]:=Eq.trans (Eq.refl _) rfl
theorem jTg {α:Type}{x:α}:List.replicate 1 x=[x]:=Eq.trans (Eq.refl _) rfl
theorem jTh {α:Type}{x:α}:List.replicate 2 x=[x,x]:=Eq.trans (Eq.refl _) rfl
theorem jTi {α:Type}{x:α}:List.replicate 3 x=[x,x,x]:=Eq.trans (Eq.refl _) rfl
theorem jTj {α:Type}{x:α}:List.replicate 4 x=[x,x,x,x]:=Eq.trans (Eq.refl _) rfl
theorem jTk {α:Type}{x:α}:List.replicate 5 x=[x,x,x,x,x]:=Eq.trans (Eq.refl _) rfl
theorem jTl {α:Type}{x:α}:List.replicate 6 x=[x,x,x,x,x,x]:=Eq.trans (Eq.refl _) rfl
theorem jTm {α:Type}{x:α}:List.replicate 7 x=[x,x,x,x,x,x,x]:=Eq.trans (Eq.refl _) rfl
theorem jTn {α:Type}{x:α}:List.replicate 8 x=[x,x,x,x,x,x,x,x]:=Eq.trans (Eq.refl _) rfl
theorem zYc {es:List T}:qCh (.t (.sl es)) = .ret (es.map .t):=Eq.trans (Eq.refl _) rfl
theorem zK6:qCh .nil = .ret []:=Eq.trans (Eq.refl _) rfl
theorem zQx {id off len:Nat}:qCh (.sl id off len) = .get id fun
  | .live _ es _ _=>Q.assert (off+len≤es.length) (.ret ((es.drop off).take len))
  | .dead=> .fail:=Eq.trans (Eq.refl _) rfl
theorem jNm {z:Nat}{ts:List T}:zOk z (ts.map .t)=qWv z ts:=by
 induction ts with
 | nil=>rfl
 | cons x r ih=>
  have:zOk z (V.t x::r.map .t)=((V.t x).cells.length==z&&zOk z (r.map .t)):=rfl;rw[List.map_cons,this,ih];have:qWv z (x::r)=(x.cells.length==z&&qWv z r):=rfl;rw[this,qK7,List.length_map]
theorem jB1 {z:Nat}:zOk z []=true:=Eq.trans (Eq.refl _) rfl
theorem zUz {z:Nat}{x:V}{r:List V}:zOk z (x::r)=(x.cells.length==z&&zOk z r):=Eq.trans (Eq.refl _) rfl
theorem zTe:jB5 []=true:=Eq.trans (Eq.refl _) rfl
theorem jGl {b:UInt8}{r:List T}:jB5 (qA b::r)=jB5 r:=Eq.trans (Eq.refl _) rfl
theorem zUy {z:Nat}:qWv z []=true:=Eq.trans (Eq.refl _) rfl
theorem zO7 {z:Nat}{x:T}{r:List T}:qWv z (x::r)=(x.cells.length==z&&qWv z r):=Eq.trans (Eq.refl _) rfl
theorem qZ5 {α:Type}{z:Nat}{f:α→T}(h : ∀ x,(f x).cells.length=z){l:List α}:qWv z (l.map f)=true:=by
 simp[qWv,h]
theorem jI9 {l:List UInt8}:qWv 1 (l.map qA)=true:=qZ5 (f:=qA) (fun _=>rfl)
theorem jJa {l:List UInt32}:qWv 1 (l.map jB)=true:=qZ5 (f:=jB) (fun _=>rfl)
theorem zHz {es:List V}:qDo es=match qD1 es with | some _=> .ret (es,[]) | none=>qDp (zK 3) es:=Eq.trans (Eq.refl _) rfl
theorem qY1 {α:Type}{l xs:List α}:zW l 0 xs=xs++l.drop xs.length:=by simp[zW]
theorem qY0 {α:Type}{x:α}{l xs:List α}{i:Nat}:zW (x::l) (i+1) xs=x::zW l i xs:=by
 simp[zW,show i+1+xs.length=i+xs.length+1 by omega]
def zLe (b:Bool)(z:List V)(pl:List (Nat×Nat))(vs:List V):Option (List V):=if b then qVq z pl vs else none
@[congr] theorem zYi {b b':Bool} {z:List V} {pl:List (Nat×Nat)} {vs:List V} (h:b=b'):zLe b z pl vs=zLe b' z pl vs:=by rw[h]
theorem zH3 {z:List V}{pl:List (Nat×Nat)}{vs:List V}:zLe true z pl vs=qVq z pl vs:=Eq.trans (Eq.refl _) rfl
theorem zLf {z:List V}:qVq z [] []=some z:=Eq.trans (Eq.refl _) rfl
theorem zH4 {z:List V}{off n:Nat}{pl:List (Nat×Nat)}{v:V}{vs:List V}:qVq z ((off,n)::pl) (v::vs)=zLe (decide (v.cells.length=n∧off+n≤z.length)&&v.plain) (zW z off v.cells) pl vs:=by
 simp only[qVq,zLe,Bool.and_eq_true,decide_eq_true_eq,and_assoc]
def zAy (b:Bool)(z:Nat)(es:List V)(ix:List Nat)(vs:List V):Option (List V):=if b then qVp z es ix vs else none
@[congr] theorem zVs {b b':Bool} {z:Nat} {es:List V} {ix:List Nat} {vs:List V} (h:b=b'):zAy b z es ix vs=zAy b' z es ix vs:=by rw[h]
theorem zDt {z:Nat}{es:List V}{ix:List Nat}{vs:List V}:zAy true z es ix vs=qVp z es ix vs:=Eq.trans (Eq.refl _) rfl
theorem zLd {z:Nat}{es:List V}:qVp z es [] []=some es:=Eq.trans (Eq.refl _) rfl
theorem zH2 {z i:Nat}{es:List V}{ix:List Nat}{v:V}{vs:List V}:qVp z es (i::ix) (v::vs)=zAy (decide (v.cells.length=z∧i<es.length)&&v.plain) z (es.set i v) ix vs:=by
 simp only[qVp,zAy,Bool.and_eq_true,decide_eq_true_eq,and_assoc]
theorem zSl:qT2 []=true:=Eq.trans (Eq.refl _) rfl
theorem zMy {x:V}{r:List V}:qT2 (x::r)=(x.single&&qT2 r):=Eq.trans (Eq.refl _) rfl
theorem zSj {a b:List V}:qT2 (a++b)=(qT2 a&&qT2 b):=by simp[qT2]
theorem qYh {α:Type}{f:α→T}(h : ∀ x,(V.t (f x)).single=true){l:List α}:qT2 ((l.map f).map V.t)=true:=by
 simp only[qT2,List.all_eq_true];intro x hx;simp only[List.map_map,List.mem_map,Function.comp] at hx;obtain⟨a,_,rfl⟩:=hx;exact h a
theorem jFn {l:List UInt8}:qT2 ((l.map qA).map V.t)=true:=qYh (f:=qA) (fun _=>rfl)
theorem jFo {l:List UInt32}:qT2 ((l.map jB).map V.t)=true:=qYh (f:=jB) (fun _=>rfl)
theorem zI2 {k:IntKind}{n:Int}:(V.t (T.int k n)).single=true:=Eq.trans (Eq.refl _) rfl
theorem zEn {n:UInt8}:(V.t (qA n)).single=true:=Eq.trans (Eq.refl _) rfl
theorem zI7 {n:UInt32}:(V.t (jB n)).single=true:=Eq.trans (Eq.refl _) rfl
theorem zEm {n:Bool}:(V.t (T.bool n)).single=true:=Eq.trans (Eq.refl _) rfl
theorem zI5 {n:ByteArray}:(V.t (T.str n)).single=true:=Eq.trans (Eq.refl _) rfl
theorem zI6 {n:List T}:(V.t (T.sl n)).single=true:=Eq.trans (Eq.refl _) rfl
theorem zEp {n:List T}:(V.t (T.agg n)).single=false:=Eq.trans (Eq.refl _) rfl
theorem zI1 {n:List V}:(V.agg n).single=false:=Eq.trans (Eq.refl _) rfl
theorem zOh {i j k:Nat}:(V.sl i j k).single=true:=Eq.trans (Eq.refl _) rfl
theorem zI4 {i j k:Nat}:(V.ref i j k).single=true:=Eq.trans (Eq.refl _) rfl
theorem zOf {g i j k:Nat}:(V.bd g i j k).single=true:=Eq.trans (Eq.refl _) rfl
theorem zOg:V.bq.single=true:=Eq.trans (Eq.refl _) rfl
attribute [go_sem] zOg
attribute [go_sem] zOf
theorem zI3:V.nil.single=true:=Eq.trans (Eq.refl _) rfl
theorem zI8 {n b:Nat}:qCn n b=(n≤9223372036854775807∧n*b≤140737488355328):=Eq.trans (Eq.refl _) rfl
theorem jSp {l:List UInt8}{i:Nat}(h:i<l.length):l[i]?=some (l.getD i 0):=by simp[List.getD,h]
theorem jKs {l:List UInt32}{i:Nat}(h:i<l.length):l[i]?=some (l.getD i 0):=by simp[List.getD,h]
theorem jFc {a b:Nat}:(a:Int)+(b:Int)=((a+b:Nat):Int):=rfl
theorem zY2 {a n:Nat}:(a:Int)+(no_index (@OfNat.ofNat Int n _))=((a + @OfNat.ofNat Nat n (instOfNatNat n):Nat):Int):=rfl
theorem zSa {a n:Nat}:(no_index (@OfNat.ofNat Int n _))+(a:Int)=((@OfNat.ofNat Nat n (instOfNatNat n)+a:Nat):Int):=rfl
theorem jFe {a b:Nat}:(a:Int)*(b:Int)=((a*b:Nat):Int):=rfl
theorem zY4 {a n:Nat}:(no_index (@OfNat.ofNat Int n _))*(a:Int)=((@OfNat.ofNat Nat n (instOfNatNat n)*a:Nat):Int):=rfl
theorem zY6 {a n:Nat}:(a:Int)*(no_index (@OfNat.ofNat Int n _))=((a * @OfNat.ofNat Nat n (instOfNatNat n):Nat):Int):=rfl
theorem zY9 {a n:Nat}:(a:Int).tmod (no_index (@OfNat.ofNat Int n _))=((a % @OfNat.ofNat Nat n (instOfNatNat n):Nat):Int):=rfl
theorem zY8 {a n:Nat}:(a:Int).tdiv (no_index (@OfNat.ofNat Int n _))=((a / @OfNat.ofNat Nat n (instOfNatNat n):Nat):Int):=rfl
theorem zY3 {a n:Nat}:(a:Int).fdiv (no_index (@OfNat.ofNat Int n _))=((a / @OfNat.ofNat Nat n (instOfNatNat n):Nat):Int):=by
 rw[Int.fdiv_eq_ediv_of_nonneg _ (by exact Int.natCast_nonneg n)];rfl
theorem jFf {a b:Nat}(h:b≤a):(a:Int)-(b:Int)=((a-b:Nat):Int):=oM
theorem zY7 {a n:Nat}(h : @OfNat.ofNat Nat n (instOfNatNat n)≤a):(a:Int)-(no_index (@OfNat.ofNat Int n _))=((a - @OfNat.ofNat Nat n (instOfNatNat n):Nat):Int):=by
 have:(@OfNat.ofNat Int n _:Int)=((@OfNat.ofNat Nat n (instOfNatNat n):Nat):Int):=rfl;rw[this];omega
theorem zY5 {a n:Nat}(h:a ≤ @OfNat.ofNat Nat n (instOfNatNat n)):(no_index (@OfNat.ofNat Int n _))-(a:Int)=((@OfNat.ofNat Nat n (instOfNatNat n)-a:Nat):Int):=by
 have:(@OfNat.ofNat Int n _:Int)=((@OfNat.ofNat Nat n (instOfNatNat n):Nat):Int):=rfl;rw[this];omega
theorem jFd {n:Nat}:(no_index (@OfNat.ofNat Int n _)).toNat = @OfNat.ofNat Nat n (instOfNatNat n):=rfl
attribute [go_sem] zSl zMy zSj jFn jFo zI2 zEn zI7 zEm zI5 zI6 zEp zI1 zOh zI4 zI3
attribute [go_sem] zHz qY1 qY0 zH3 zLf zH4 zDt zLd zH2
attribute [go_sem] jTf jTg jTh jTi jTj jTk jTl jTm jTn List.drop_replicate zYc zK6 zQx jNm jB1 zUz zTe jGl zUy zO7 jI9 jJa zI8 jLq jLp jLr
attribute [go_sem] List.idxOf_cons List.idxOf_nil cond_true cond_false Ob.live.injEq
theorem jT7 {n:Int}(h : -9223372036854775808≤n∧n<9223372036854775808):IntKind.i64.wrap n=n:=qBg h
theorem jT9 {n:Int}(h:0≤n∧n<18446744073709551616):IntKind.u64.wrap n=n:=qHi h
theorem jT8 {n:Int}(h:0≤n∧n<4294967296):IntKind.u32.wrap n=n:=zFo h
theorem jG7 {a:Nat}{k k':IntKind}{b:Int}(h:0≤b∧b≤64)(hk:k.bits=64):qNk .shr k (a:Int) k' b=some (.int k ((a/2^b.toNat:Nat):Int)):=by
 change (if b<0 then none else some (T.int k ((a:Int).fdiv (2^min b.toNat k.bits))))=_;rw[if_neg oM,hk,show min b.toNat 64=b.toNat by omega,Int.fdiv_eq_ediv_of_nonneg _ (Int.pow_nonneg oM)]
 norm_cast
theorem jAy {a:Nat}{k':IntKind}{b:Int}(h:0≤b∧b≤64):qNk .shr .u64 (a:Int) k' b=some (.int .u64 ((a/2^b.toNat:Nat):Int)):=jG7 h rfl
theorem zOe {a:Nat}{k':IntKind}{b:Int}(h:0≤b∧b≤64):qNk .shr .i64 (a:Int) k' b=some (.int .i64 ((a/2^b.toNat:Nat):Int)):=jG7 h rfl
theorem jHp {m:Nat}:T.int .u8 (IntKind.u8.wrap (m:Int))=qA (UInt8.ofNat m):=by
 unfold qA;congr 1
attribute [go_sem ↓] jAy zOe
end Go.Eng
end
section
namespace Go.Eng
structure Ct where
 α:Type
 aS:α→List V
 ins:α→List Ob
 pre:α→Prop
 r:α→V
 outs:α→List Ob
 inj : ∀ x y,aS x=aS y→ins x=ins y→r x=r y∧outs x=outs y
open Classical in
noncomputable def Ct.fs (c:Ct):FnS:=fun aS ins=>if h : ∃ x,(c.aS x=aS∧c.ins x=ins)∧c.pre x then some (c.r h.choose,c.outs h.choose) else none
theorem Ct.eq (c:Ct)(x:c.α)(h:c.pre x):c.fs (c.aS x) (c.ins x)=some (c.r x,c.outs x):=by
 have hx : ∃ y,(c.aS y=c.aS x∧c.ins y=c.ins x)∧c.pre y:=⟨x,⟨rfl,rfl⟩,h⟩;unfold Ct.fs;rw[dif_pos hx];obtain⟨h1,h2⟩:=c.inj _ _ hx.choose_spec.1.1 hx.choose_spec.1.2;rw[h1,h2]
theorem Ct.ok {P:Program}{G:Nat→Option (List T)}{f:FuncId}(c:Ct)(hc : ∀ args w,(callFunc f args).run P w = .ok (.enter f args) w)(h : ∀ x,c.pre x→zFp P G f (c.aS x) (c.ins x) (c.r x) (c.outs x)):FOk P G f c.fs:=by
 refine FOk.of hc (fun aS ins r outs hs=>?_);unfold Ct.fs at hs;split at hs
 ·rename_i hx;cases hs;have h1:=hx.choose_spec;generalize hx.choose=y at h1 ⊢;obtain⟨⟨rfl,rfl⟩,h3⟩:=h1;exact h y h3
 ·cases hs
theorem zAi {a b:UInt8}(h:qA a=qA b):a=b:=by
 have:=congrArg d8 h;rw[zDn,zDn] at this;exact Option.some.inj this
theorem zHm {a b:UInt32}(h:jB a=jB b):a=b:=by
 have:=congrArg d32 h;rw[zKz,zKz] at this;exact Option.some.inj this
theorem qBk {α γ:Type}{f:α→γ}(hf : ∀ a b,f a=f b→a=b) : ∀ {l m:List α},l.map f=m.map f→l=m
 | [],[],_=>rfl
 | [],_::_,h=>by simp at h
 | _::_,[],h=>by simp at h
 | a::l,b::m,h=>by
  simp only[List.map_cons,List.cons.injEq] at h;rw[hf _ _ h.1,qBk hf h.2]
theorem jC {l m:List UInt8}:(l.map qA=m.map qA)=(l=m):=propext ⟨qBk (fun _ _=>zAi),fun h=>by rw[h]⟩
theorem zGw {l m:List UInt32}:(l.map jB=m.map jB)=(l=m):=propext ⟨qBk (fun _ _=>zHm),fun h=>by rw[h]⟩
theorem zR7 {l m:List T}:(l.map V.t=m.map V.t)=(l=m):=propext ⟨qBk (fun _ _ h=>V.t.inj h),fun h=>by rw[h]⟩
theorem qNn {a b:UInt8}:(qA a=qA b)=(a=b):=propext ⟨zAi,fun h=>by rw[h]⟩
theorem zEs {a b:UInt32}:(jB a=jB b)=(a=b):=propext ⟨zHm,fun h=>by rw[h]⟩
theorem jL6 {x:UInt32}{k:IntKind}{n:Nat}:qHp .shl (jB x) (.int k (no_index (@OfNat.ofNat Int n _)))=if n<32 then some (jB (x <<< UInt32.ofNat n)) else qHp .shl (jB x) (.int k (n:Int)):=by
 split
 ·exact qS9 (by assumption)
 ·rfl
theorem jL7 {x:UInt32}{k:IntKind}{n:Nat}:qHp .shr (jB x) (.int k (no_index (@OfNat.ofNat Int n _)))=if n<32 then some (jB (x >>> UInt32.ofNat n)) else qHp .shr (jB x) (.int k (n:Int)):=by
 split
 ·exact qTa (by assumption)
 ·rfl
theorem jG4 {x:UInt32}{k:IntKind}{n:Nat}(h:n<32):qHp .shl (jB x) (.int k (n:Int))=some (jB (x <<< UInt32.ofNat n)):=qS9 h
theorem jG6 {x:UInt32}{k:IntKind}{n:Nat}(h:n<32):qHp .shr (jB x) (.int k (n:Int))=some (jB (x >>> UInt32.ofNat n)):=qTa h
theorem qF5 {α:Type}{l:List α}{k:Nat}{d:α}(h:k<l.length):l.take (k+1)=l.take k++[l.getD k d]:=by
 rw[List.take_add_one];simp[List.getD,h]
theorem zV5 {x:Int}{m:Nat}(h:m≤64):(BitVec.ofInt 64 x &&& BitVec.ofInt 64 ((2^m-1:Nat):Int)).toNat=(x%((2^m:Nat):Int)).toNat:=by
 have h0:1≤2^m:=Nat.one_le_two_pow;have h2:2^m≤2^64:=Nat.pow_le_pow_right (n:=2) oM h;rw[BitVec.toNat_and,BitVec.toNat_ofInt,BitVec.toNat_ofInt];have h1:(((2^m-1:Nat):Int)%((2^64:Nat):Int)).toNat=2^m-1:=by
  rw[Int.emod_eq_of_lt oM oM];simp
 rw[h1,Nat.and_two_pow_sub_one_eq_mod];have hd:((2^m:Nat):Int) ∣ ((2^64:Nat):Int):=Int.natCast_dvd_natCast.2 (Nat.pow_dvd_pow 2 h);have e:x%((2^64:Nat):Int)%((2^m:Nat):Int)=x%((2^m:Nat):Int):=Int.emod_emod_of_dvd x hd;rw[←e];have hx0:0≤x%((2^64:Nat):Int):=Int.emod_nonneg _ oM;generalize x%((2^64:Nat):Int)=y at hx0;obtain⟨z,rfl⟩:=Int.eq_ofNat_of_zero_le hx0;rw[←Int.natCast_emod,Int.toNat_natCast,Int.toNat_natCast]
theorem qXs {x:Int}{m:Nat}(h:m≤63):IntKind.i64.wrap ((BitVec.ofInt 64 x &&& BitVec.ofInt 64 ((2^m-1:Nat):Int)).toNat:Int)=x%((2^m:Nat):Int):=by
 rw[zV5 oM];have h0:1≤2^m:=Nat.one_le_two_pow;have h2:2^m≤2^63:=Nat.pow_le_pow_right (n:=2) oM h;have h3:=Int.emod_nonneg x (b:=((2^m:Nat):Int)) oM;have h4:=Int.emod_lt_of_pos x (b:=((2^m:Nat):Int)) oM;rw[qBg oM];omega
theorem jRf {x:Int}:qNk .and .i64 x .i64 1=some (.int .i64 (x%2)):=by
 have h := @qXs x 1 oM;rw[show ((2^1-1:Nat):Int)=1 from rfl,show ((2^1:Nat):Int)=2 from rfl] at h;have h2:=congrArg (fun z=>some (T.int IntKind.i64 z)) h;exact h2
theorem jR9 {x:Int}:qNk .and .i64 x .i64 3=some (.int .i64 (x%4)):=by
 have h := @qXs x 2 oM;rw[show ((2^2-1:Nat):Int)=3 from rfl,show ((2^2:Nat):Int)=4 from rfl] at h;have h2:=congrArg (fun z=>some (T.int IntKind.i64 z)) h;exact h2
theorem jJr {x:Int}:qNk .and .i64 x .i64 15=some (.int .i64 (x%16)):=by
 have h := @qXs x 4 oM;rw[show ((2^4-1:Nat):Int)=15 from rfl,show ((2^4:Nat):Int)=16 from rfl] at h;have h2:=congrArg (fun z=>some (T.int IntKind.i64 z)) h;exact h2
theorem zPx {x:Int}:qNk .and .i64 x .i64 65535=some (.int .i64 (x%65536)):=by
 have h := @qXs x 16 oM;rw[show ((2^16-1:Nat):Int)=65535 from rfl,show ((2^16:Nat):Int)=65536 from rfl] at h;have h2:=congrArg (fun z=>some (T.int IntKind.i64 z)) h;exact h2
theorem jCf {x:Int}:qNk .and .u64 x .u64 31=some (.int .u64 (x%32)):=by
 have h := @zV5 x 5 oM;rw[show ((2^5-1:Nat):Int)=31 from rfl,show ((2^5:Nat):Int)=32 from rfl] at h;have h2:IntKind.u64.wrap ((BitVec.ofInt 64 x &&& BitVec.ofInt 64 31).toNat:Int)=x%32:=by
  rw[h,qSt];omega
 have h3:=congrArg (fun z=>some (T.int IntKind.u64 z)) h2;exact h3
theorem zLn {z:Nat}{es:List V}{wr full:Bool}:(Ob.live z es wr full).flat=qMs es:=Eq.trans (Eq.refl _) rfl
theorem zLk:qMs []=true:=Eq.trans (Eq.refl _) rfl
theorem qW3 {c:V}{r:List V}:qMs (c::r)=(c.flat&&qMs r):=Eq.trans (Eq.refl _) rfl
theorem zLj:qRi []=true:=Eq.trans (Eq.refl _) rfl
theorem qJy {c:T}{r:List T}:qRi (c::r)=(c.flat&&qRi r):=Eq.trans (Eq.refl _) rfl
theorem zYl {ts:List T}:qMs (ts.map .t)=qRi ts:=by
 induction ts with
 | nil=>rfl
 | cons x r ih=>rw[List.map_cons,qW3,ih,qJy];rfl
theorem zYj {l:List UInt8}:qRi (l.map qA)=true:=by
 induction l with
 | nil=>rfl
 | cons x r ih=>rw[List.map_cons,qJy,ih];rfl
theorem zYk {l:List UInt32}:qRi (l.map jB)=true:=by
 induction l with
 | nil=>rfl
 | cons x r ih=>rw[List.map_cons,qJy,ih];rfl
theorem zQ8 {i j k:Nat}:(V.sl i j k).flat=true:=Eq.trans (Eq.refl _) rfl
theorem zLs {i j k:Nat}:(V.ref i j k).flat=true:=Eq.trans (Eq.refl _) rfl
theorem zQ6 {g i j k:Nat}:(V.bd g i j k).flat=true:=Eq.trans (Eq.refl _) rfl
theorem zQ7:V.bq.flat=true:=Eq.trans (Eq.refl _) rfl
attribute [go_sem] zQ7
attribute [go_sem] zQ6
theorem zLr:V.nil.flat=true:=Eq.trans (Eq.refl _) rfl
theorem zLq {cs:List V}:(V.agg cs).flat=qMs cs:=Eq.trans (Eq.refl _) rfl
theorem zLt {cs:List V}:(V.tup cs).flat=qMs cs:=Eq.trans (Eq.refl _) rfl
theorem zQ3 {cs:List T}:(T.sl cs).flat=cs.isEmpty:=Eq.trans (Eq.refl _) rfl
theorem zLp {cs:List T}:(T.agg cs).flat=qRi cs:=Eq.trans (Eq.refl _) rfl
attribute [go_sem] zLn zLk qW3 zLj qJy zYl zYj zYk zQ8 zLs zLr zLq zLt zQ3 zLp List.isEmpty_nil List.isEmpty_cons
attribute [go_sem ↓] jCf
attribute [go_sem ↓] jRf jR9 jJr zPx
attribute [go_sem] jL6 jL7 jG4 jG6 qNn zEs
abbrev LkC (tab:Tab)(n:Nat)(c:Ct):Prop:=tab.look n=some c.fs
end Go.Eng
end
section
namespace Go.Eng
variable {tab:Tab} {gl:Gl} {fs:Fs} {hs:Hs} {Qx:qFp}
def upP (n:Nat)(P:Nat→Prop)(fI:Nat→Fs)(hI:Nat→Hs)(i:Nat)(Qx:qFp):qFp:=fun e fs' hs'=>match e with | .normal=>i<n∧P (i+1)∧qK fs' hs' (fI (i+1)) (hI (i+1)) | e=>Qx e fs' hs'
theorem zJj {n:Nat}{P:Nat→Prop}{fI:Nat→Fs}{hI:Nat→Hs}{i:Nat}:upP n P fI hI i Qx .normal fs hs=(i<n∧P (i+1)∧qK fs hs (fI (i+1)) (hI (i+1))):=Eq.trans (Eq.refl _) rfl
theorem zUf {n:Nat}{P:Nat→Prop}{fI:Nat→Fs}{hI:Nat→Hs}{i id:Nat}:upP n P fI hI i Qx (.exit id) fs hs=Qx (.exit id) fs hs:=Eq.trans (Eq.refl _) rfl
theorem jBg {n:Nat}{P:Nat→Prop}{fI:Nat→Fs}{hI:Nat→Hs}{i:Nat}:upP n P fI hI i Qx .ret fs hs=Qx .ret fs hs:=Eq.trans (Eq.refl _) rfl
attribute [go_sem] zJj zUf jBg
theorem qPz {a:AC}(n:Nat)(P:Nat→Prop)(fI:Nat→Fs)(hI:Nat→Hs)(hP:P 0)(h0:qK fs hs (fI 0) (hI 0))(h : ∀ i,i≤n→P i→a.wp tab gl (fI i) (hI i) (upP n P fI hI i Qx)):qVs tab gl a fs hs Qx:=by
 refine qJo (ι := { i:Nat // i≤n∧P i }) (fun i=>(fI i.1,hI i.1)) (fun i=>n-i.1) ⟨0,Nat.zero_le _,hP⟩ h0 (fun i=>?_);refine zV (fun e f g hq=>?_) (h i.1 i.2.1 i.2.2);cases e with
 | normal=>exact⟨⟨i.1+1,hq.1,hq.2.1⟩,by simp only;have:=hq.1;omega,hq.2.2⟩
 | exit id=>exact hq
 | ret=>exact hq
theorem zT6 {a:Nat}{k':IntKind}{b:Int}(h:0≤b∧b≤32):qNk .shr .u32 (a:Int) k' b=some (.int .u32 ((a/2^b.toNat:Nat):Int)):=by
 change (if b<0 then none else some (T.int .u32 ((a:Int).fdiv (2^min b.toNat 32))))=_;rw[if_neg oM,show min b.toNat 32=b.toNat by omega,Int.fdiv_eq_ediv_of_nonneg _ (Int.pow_nonneg oM)]
 norm_cast
attribute [go_sem ↓] zT6
theorem zFz {a b:UInt8}:((a.toNat:Int)==(b.toNat:Int))=decide (a=b):=by
 by_cases h:a=b
 ·subst h;simp
 ·have : ¬ ((a.toNat:Int)=b.toNat):=fun e=>h (UInt8.toNat_inj.1 oM)
  simp[h,this]
theorem zP5 {a b:UInt8}:qHp .eql (qA a) (qA b)=some (.bool (decide (a=b))):=by
 change some (T.bool ((a.toNat:Int)==(b.toNat:Int)))=_;rw[zFz]
theorem zQa {a b:UInt8}:qHp .neq (qA a) (qA b)=some (.bool (!decide (a=b))):=by
 change some (T.bool (!((a.toNat:Int)==(b.toNat:Int))))=_;rw[zFz]
theorem zP9 {a b:UInt8}:qHp .lss (qA a) (qA b)=some (.bool (decide (a.toNat<b.toNat))):=by
 change some (T.bool (decide ((a.toNat:Int)<(b.toNat:Int))))=_;congr 2;simp
theorem zP7 {a b:UInt8}:qHp .gtr (qA a) (qA b)=some (.bool (decide (a.toNat>b.toNat))):=by
 change some (T.bool (decide ((a.toNat:Int)>(b.toNat:Int))))=_;congr 2;simp
theorem zP8 {a b:UInt8}:qHp .leq (qA a) (qA b)=some (.bool (decide (a.toNat≤b.toNat))):=by
 change some (T.bool (decide ((a.toNat:Int)≤(b.toNat:Int))))=_;congr 2;simp
theorem zP6 {a b:UInt8}:qHp .geq (qA a) (qA b)=some (.bool (decide (a.toNat ≥ b.toNat))):=by
 change some (T.bool (decide ((a.toNat:Int) ≥ (b.toNat:Int))))=_;congr 2;simp
theorem zKh {a b:UInt8}:qHp .xor (qA a) (qA b)=some (qA (a ^^^ b)):=by
 change some (T.int .u8 (IntKind.u8.wrap ((BitVec.ofInt 8 (a.toNat:Int) ^^^ BitVec.ofInt 8 (b.toNat:Int)).toNat:Int)))=_;have e : ∀ x:UInt8,BitVec.ofInt 8 (x.toNat:Int)=x.toBitVec:=fun x=>BitVec.eq_of_toNat_eq sM
 rw[e,e,←UInt8.toBitVec_xor,qVl];have:=(a ^^^ b).toNat_lt;unfold qA;rw[UInt8.toNat_toBitVec];congr 2;omega
attribute [go_sem ↓] zP5 zQa zP9 zP7 zP8 zP6 zKh
attribute [go_sem] UInt8.reduceToNat
theorem qX3 {b:UInt8}:qG9 .u64 [.t (qA b)] = .ret (.t (.int .u64 (b.toNat:Int)),[]):=by
 change Q.ret (V.t (.int .u64 (IntKind.u64.wrap (b.toNat:Int))),([]:Wr))=_;have:=b.toNat_lt;rw[qHi oM]
theorem qX1 {b:UInt8}:qG9 .i64 [.t (qA b)] = .ret (.t (.int .i64 (b.toNat:Int)),[]):=by
 change Q.ret (V.t (.int .i64 (IntKind.i64.wrap (b.toNat:Int))),([]:Wr))=_;have:=b.toNat_lt;rw[qBg oM]
theorem zT5 {a:Nat}{k':IntKind}(h:a<72057594037927936):qNk .shl .u64 (a:Int) k' 8=some (.int .u64 ((256*a:Nat):Int)):=by
 change (if (8:Int)<0 then none else some (T.int .u64 (IntKind.u64.wrap ((a:Int)*2^min (8:Int).toNat 64))))=_;rw[if_neg oM,show (a:Int)*2^min (8:Int).toNat 64=((256*a:Nat):Int) by
  rw[show min (8:Int).toNat 64=8 from rfl];omega,qHi oM]
theorem or8 {a x:Nat}(hx:x<256):(256*a) ||| x=256*a+x:=by
 have:=Nat.shiftLeft_add_eq_or_of_lt (i:=8) (b:=x) oM a;rw[Nat.shiftLeft_eq] at this;rw[Nat.mul_comm];exact this.symm
theorem zZg {a:Nat}{x:UInt8}(h:a<72057594037927936):qNk .or .u64 ((256*a:Nat):Int) .u64 (x.toNat:Int)=some (.int .u64 ((256*a+x.toNat:Nat):Int)):=by
 have hx:=x.toNat_lt;change some (T.int .u64 (IntKind.u64.wrap ((BitVec.ofInt 64 ((256*a:Nat):Int) ||| BitVec.ofInt 64 (x.toNat:Int)).toNat:Int)))=_;have e:(BitVec.ofInt 64 ((256*a:Nat):Int) ||| BitVec.ofInt 64 (x.toNat:Int)).toNat=256*a+x.toNat:=by
  rw[BitVec.toNat_or,BitVec.toNat_ofInt,BitVec.toNat_ofInt,Int.emod_eq_of_lt oM oM,Int.emod_eq_of_lt oM oM,Int.toNat_natCast,Int.toNat_natCast,or8 oM]
 rw[e,qHi oM]
attribute [go_sem ↓] qX3 qX1 zT5 zZg
theorem qG {bs:List UInt8}:bsT bs = .sl (bs.map qA):=Eq.trans (Eq.refl _) rfl
theorem jSr {l:List (List UInt8)}{i:Nat}(h:i<l.length):l[i]?=some (l.getD i []):=by simp[List.getD,h]
theorem jSq {l:List (List (List UInt8))}{i:Nat}(h:i<l.length):l[i]?=some (l.getD i []):=by simp[List.getD,h]
theorem zDe {l:List (List UInt8)}{x:List UInt8}{r:List T}:List.map bsT l++T.sl (List.map qA x)::r=List.map bsT (l++[x])++r:=by simp[bsT]
theorem jB0 {l:List (List UInt8)}:qWv 1 (l.map bsT)=true:=qZ5 (f:=bsT) (fun _=>rfl)
theorem zMx {l:List (List UInt8)}:qT2 ((l.map bsT).map V.t)=true:=qYh (f:=bsT) (fun _=>rfl)
theorem zXq {a b:List UInt8}(h:bsT a=bsT b):a=b:=by
 have:=congrArg dBs h;rw[bsT,bsT,zAt,zAt] at this;exact Option.some.inj this
theorem qBs {l m:List (List UInt8)}:(l.map bsT=m.map bsT)=(l=m):=propext ⟨qBk (fun _ _=>zXq),fun h=>by rw[h]⟩
theorem zPu {ts:List T}{r:List V}:qD1 (ts.map .t++r)=(qD1 r).map (ts ++ ·):=by
 induction ts with
 | nil=>simp[Option.map_id']
 | cons x l ih=>
  rw[List.map_cons,List.cons_append,qS2,ih,Option.map_map];rfl
attribute [go_sem] zPu
attribute [go_sem] qG zDe jB0 zMx
end Go.Eng
end
section
namespace Go.Eng
theorem zFq {ts:List T}{i:Nat}{v:V}(h:i<ts.length)(hv : ∀ x,v≠ .t x):qD1 ((ts.map .t).set i v)=none:=by
 induction ts generalizing i with
 | nil=>simp at h
 | cons x r ih=>
  cases i with
  | zero=>
   rw[List.map_cons,List.set_cons_zero];cases v with
   | t y=>exact absurd rfl (hv y)
   | _=>rfl
  | succ i=>
   rw[List.map_cons,List.set_cons_succ,qS2,ih (by simpa using h)];rfl
theorem zC7 {ts:List T}{i id off len:Nat}(h:i<ts.length):qD1 ((ts.map .t).set i (.sl id off len))=none:=zFq h sM
theorem zAd {ts:List T}{i:Nat}{cs:List V}(h:i<ts.length):qD1 ((ts.map .t).set i (.agg cs))=none:=zFq h sM
theorem zZs {n:Nat}{ts:List T}{i:Nat}{v:V}(h:i<ts.length):rdL (rdV n) ((ts.map .t).set i v)=(rdV n v).bind fun x=> .ret ((ts.map .t).set i x):=by
 induction ts generalizing i with
 | nil=>simp at h
 | cons x r ih=>
  cases i with
  | zero=>rw[List.map_cons,List.set_cons_zero,qYn,jF4];rfl
  | succ i=>
   rw[List.map_cons,List.set_cons_succ,qYn,zZx,ih (by simpa using h),qSd,qEe];rfl
theorem zKv {n:Nat}{ts:List T}:qDp (zK n) (ts.map .t) = .ret (ts.map .t,[]):=by
 induction ts with
 | nil=>rfl
 | cons x r ih=>rw[List.map_cons,qJw,zKw,qSd,ih,qSd];rfl
theorem zKu {n:Nat}{ts:List T}{i:Nat}{v:V}(h:i<ts.length):qDp (zK n) ((ts.map .t).set i v)=(zK n v).bind fun p=> .ret ((ts.map .t).set i p.1,p.2):=by
 induction ts generalizing i with
 | nil=>simp at h
 | cons x r ih=>
  cases i with
  | zero=>
   rw[List.map_cons,List.set_cons_zero,qJw,zKv];simp[Q.bind]
  | succ i=>
   rw[List.map_cons,List.set_cons_succ,qJw,zKw,qSd,ih (by simpa using h),qEe];rfl
theorem zSm {es:List V}{i:Nat}{v:V}(h:qT2 es=true)(hv:v.single=true):qT2 (es.set i v)=true:=by
 simp only[qT2,List.all_eq_true] at *;intro x hx;rcases List.mem_or_eq_of_mem_set hx with h1 | rfl
 ·exact h x h1
 ·exact hv
theorem zEb {l:List (List UInt8)}{i id off len:Nat}:qT2 (((l.map bsT).map V.t).set i (.sl id off len))=true:=zSm zMx rfl
theorem jCs {l:List (List UInt8)}{i:Nat}{x:List UInt8}:List.set (List.map bsT l) i (T.sl (List.map qA x))=List.map bsT (l.set i x):=by
 rw[List.map_set];rfl
attribute [go_sem] zC7 zAd zZs zKv zKu zEb jCs
theorem qC5 {tab:Tab}{gl:Gl}{a:AC}{fs fs':Fs}{hs hs':Hs}{Qx:qFp}(h:qK fs hs fs' hs')(hl:qVs tab gl a fs' hs' Qx):qVs tab gl a fs hs Qx:=by
 obtain⟨ι,I,μ,i0,h0,hr⟩:=hl;exact⟨ι,I,μ,i0,h.trans h0,hr⟩
end Go.Eng
end
section
set_option maxRecDepth 20000
namespace Go.Eng
open Go.MuLone
theorem jT5 {P:Program}{G:Gl}{tab:Tab}{f:FuncId}{fn:Func}{c:Code}{ac:AC}{hints:List (Nat×List Nat)}{rs:List (Nat×Option (Nat×Bool))}(hf:P.funcs[f]?=some fn)(hname:(fn.name == "runtime.NumGoroutine")=false)(hb:fn.body=some c)(hann:ann P fn.ntmps hints c=some ac)(hmx:P.follows .mixedOrders=true)
  (ht:qAu P G tab) (hrs:qKc P fn.results.toList=some rs) (ct:Ct) (hn : ∀ x,(ct.aS x).length≤fn.ntmps) (hi : ∀ x,(ct.ins x).length≤100)
  (h : ∀ x,ct.pre x→ac.wp tab G (qE 0 (ct.aS x)) (qE 0 (ct.ins x)) (zA rs (ct.ins x).length (fun r' o'=>r'=ct.r x∧o'=ct.outs x))):FOk P G f ct.fs:=
 ct.ok (fun args w=>run_callFunc_enter hf hname hb args w) (fun x hx=>zEr hf hb hann hmx ht hrs (hn x) (hi x) (h x hx))
theorem jT2 {P:Program}{G:Gl}{tab:Tab}{f:FuncId}{fn:Func}{c:Code}{ac:AC}{hints:List (Nat×List Nat)}{rs:List (Nat×Option (Nat×Bool))}(fz:List Nat)(hf:P.funcs[f]?=some fn)(hname:(fn.name == "runtime.NumGoroutine")=false)(hb:fn.body=some c)(hann:ann P fn.ntmps hints c=some ac)(hmx:P.follows .mixedOrders=true)
  (ht:qAu P G tab) (hrs:qKc P fn.results.toList=some rs) (ct:Ct) (hn : ∀ x,(ct.aS x).length≤fn.ntmps) (hi : ∀ x,(ct.ins x).length≤100)
  (h : ∀ x,ct.pre x→ac.wp tab G (qE 0 (ct.aS x)) (qE 0 (ct.ins x)) (kN fz rs (ct.ins x).length (fun r' o'=>r'=ct.r x∧o'=ct.outs x))):FOk P G f ct.fs:=
 ct.ok (fun args w=>run_callFunc_enter hf hname hb args w) (fun x hx=>zB6 fz hf hb hann hmx ht hrs (hn x) (hi x) (h x hx))
theorem jT3 {P:Program}{G:Gl}{tab:Tab}{f:FuncId}{fn:Func}{c:Code}{ac:AC}{hints:List (Nat×List Nat)}{rs:List (Nat×Option (Nat×Bool))}(hf:P.funcs[f]?=some fn)(hb:fn.body=some c)(hann:ann P fn.ntmps hints c=some ac)(hmx:P.follows .mixedOrders=true)
  (ht:qAu P G tab) (hrs:qKc P fn.results.toList=some rs) {aS:List V} (hn:aS.length≤fn.ntmps)
  (h:ac.wp tab G (qE 0 aS) (qE 0 []) (zA rs 0 (fun r o=>r = .t (.bool true)∧o=[]))):zFp P G f aS [] (.t (.bool true)) []:=
 zEr hf hb hann hmx ht hrs hn (Nat.zero_le _) h
theorem jMk {P:Program}{G:Gl}{tab:Tab}{f:FuncId}(fn:Func)(hints:List (Nat×List Nat))(ac:AC)(rs:List (Nat×Option (Nat×Bool)))(ht:qAu P G tab){aS:List V}
  (h:ac.wp tab G (qE 0 aS) (qE 0 []) (zA rs 0 (fun r o=>r = .t (.bool true)∧o=[])))
  (hf:P.funcs[f]?=some fn:=by kernel_rfl) (hb:fn.body=some (fn.body.getD .skip):=by kernel_rfl) (hann:ann P fn.ntmps hints (fn.body.getD .skip)=some ac:=by kernel_rfl) (hmx:P.follows .mixedOrders=true:=by kernel_rfl)
  (hrs:qKc P fn.results.toList=some rs:=by kernel_rfl) (hn:aS.length≤fn.ntmps:=by exact Nat.le_of_ble_eq_true (by kernel_rfl)):zFp P G f aS [] (.t (.bool true)) []:=jT3 hf hb hann hmx ht hrs hn h
end Go.Eng
end
section
set_option maxRecDepth 20000
namespace Go.Eng
open Go.MuLone
structure ECt where
 α:Type
 β:Type
 d:β:=by exact default
 aS:α→List V
 ins:α→List Ob:=fun _=>[]
 pre:α→Prop
 r:β→V
 outs:β→List Ob:=fun _=>[]
 R:α→β→Prop
 inj : ∀ x y,aS x=aS y→ins x=ins y→x=y:=by simp only[Prod.forall,xU,qJ7,Prod.mk.injEq];intros;assumption
structure EF (E:ECt) where
 F:E.α→E.β
 ok : ∀ x,E.pre x→E.R x (F x)
def ECt.ct (E:ECt)(G:EF E):Ct:=⟨E.α,E.aS,E.ins,E.pre,fun x=>E.r (G.F x),fun x=>E.outs (G.F x),fun x y h h'=>by rw[E.inj x y h h'];exact⟨rfl,rfl⟩⟩
noncomputable def ECt.fs (E:ECt)(G:EF E):FnS:=(E.ct G).fs
theorem ECt.eq (E:ECt)(G:EF E)(x:E.α)(h:E.pre x) : ∃ y,E.R x y∧E.fs G (E.aS x) (E.ins x)=some (E.r y,E.outs y):=⟨G.F x,G.ok x h,(E.ct G).eq x h⟩
theorem fnQ (E:ECt){g:EF E}(x:E.α)(h:E.pre x){e:E.β}(hr : ∀ y,E.R x y→y=e:=by exact fun _ h=>h):E.fs g (E.aS x) (E.ins x)=some (E.r e,E.outs e):=by
 obtain⟨y,h1,h2⟩:=E.eq g x h;cases hr y h1;exact h2
theorem EF.ok_of {P:Program}{G:Gl}{f:FuncId}(E:ECt)(hc : ∀ args w,(callFunc f args).run P w = .ok (.enter f args) w)
  (h : ∀ x,E.pre x → ∃ y,E.R x y∧zFp P G f (E.aS x) (E.ins x) (E.r y) (E.outs y)) : ∃ g:EF E,FOk P G f (E.fs g):=by
 classical
 refine⟨⟨fun x=>if hx:E.pre x then (h x hx).choose else E.d,fun x hx=>?_⟩,(E.ct _).ok hc (fun x hx=>?_)⟩
 ·simp only[dif_pos hx];exact (h x hx).choose_spec.1
 ·show zFp P G f (E.aS x) (E.ins x) (E.r _) (E.outs _);simp only[dif_pos (show E.pre x from hx)];exact (h x hx).choose_spec.2
def ECt.K (E:ECt)(x:E.α)(r:V)(o:List Ob):Prop := ∃ y,E.R x y∧r=E.r y∧o=E.outs y
theorem jAa {rs:List (Nat×Option (Nat×Bool))}{n:Nat}{κ:Type}{A:κ→V→List Ob→Prop}{e:AE}{fs:Fs}{hs:Hs}(h:zA rs n (fun r o => ∃ y,A y r o) e fs hs) : ∃ y,zA rs n (A y) e fs hs:=by
 cases e with
 | exit id=>exact h.elim
 | normal=>obtain⟨p,l,h1,y,h2⟩:=h;exact⟨y,p,l,h1,h2⟩
 | ret=>obtain⟨p,l,h1,y,h2⟩:=h;exact⟨y,p,l,h1,h2⟩
theorem zZ9 {fz:List Nat}{rs:List (Nat×Option (Nat×Bool))}{n:Nat}{κ:Type}{A:κ→V→List Ob→Prop}{e:AE}{fs:Fs}{hs:Hs}(h:kN fz rs n (fun r o => ∃ y,A y r o) e fs hs) : ∃ y,kN fz rs n (A y) e fs hs:=by
 cases e with
 | exit id=>exact h.elim
 | normal=>
  obtain⟨p,l,h1,p2,l2,h2,y,h3⟩:=h;exact⟨y,p,l,h1,p2,l2,h2,h3⟩
 | ret=>
  obtain⟨p,l,h1,p2,l2,h2,y,h3⟩:=h;exact⟨y,p,l,h1,p2,l2,h2,h3⟩
theorem zVq {α:Type}{R A:α→Prop}(h : ∃ y,R y∧A y) : ∃ z : { y // R y },A z.1:=let ⟨y,h1,h2⟩:=h;⟨⟨y,h1⟩,h2⟩
theorem jMi {P:Program}{G:Gl}{tab:Tab}{f:FuncId}(fn:Func)(hints:List (Nat×List Nat))(ac:AC)(rs:List (Nat×Option (Nat×Bool)))(ht:qAu P G tab)(E:ECt)
  (h : ∀ x,E.pre x→ac.wp tab G (qE 0 (E.aS x)) (qE 0 (E.ins x)) (zA rs (E.ins x).length (E.K x)))
  (hf:P.funcs[f]?=some fn:=by kernel_rfl) (hname:(fn.name == "runtime.NumGoroutine")=false:=by kernel_rfl) (hb:fn.body=some (fn.body.getD .skip):=by kernel_rfl) (hann:ann P fn.ntmps hints (fn.body.getD .skip)=some ac:=by kernel_rfl) (hmx:P.follows .mixedOrders=true:=by kernel_rfl)
  (hrs:qKc P fn.results.toList=some rs:=by kernel_rfl) (hst:ac.strict=true:=by kernel_rfl) (hn : ∀ x,(E.aS x).length≤fn.ntmps:=by exact fun _=>Nat.le_of_ble_eq_true (by kernel_rfl)) (hi : ∀ x,(E.ins x).length≤100:=by exact fun _=>Nat.le_of_ble_eq_true (by kernel_rfl)) : ∃ g:EF E,FOk P G f (E.fs g):=
 EF.ok_of E (fun args w=>run_callFunc_enter hf hname hb args w) (fun x hx=>by
  obtain⟨z,hz⟩:=zCu (Q:=fun z : { y // E.R x y }=>zA rs (E.ins x).length (fun r o=>r=E.r z.1∧o=E.outs z.1)) hst (zV (fun e f g hq=>by
   obtain⟨y,hy⟩:=jAa hq;have : ∃ y,E.R x y∧zA rs (E.ins x).length (fun r o=>r=E.r y∧o=E.outs y) e f g:=by
    cases e with
    | exit id=>exact hy.elim
    | normal=>obtain⟨p,l,h1,h2,h3⟩:=hy;exact⟨y,h2,p,l,h1,h3⟩
    | ret=>obtain⟨p,l,h1,h2,h3⟩:=hy;exact⟨y,h2,p,l,h1,h3⟩
   exact zVq this) (h x hx))
  exact⟨z.1,z.2,zEr hf hb hann hmx ht hrs (hn x) (hi x) hz⟩)
theorem jMj {P:Program}{G:Gl}{tab:Tab}{f:FuncId}(fz:List Nat)(fn:Func)(hints:List (Nat×List Nat))(ac:AC)(rs:List (Nat×Option (Nat×Bool)))(ht:qAu P G tab)(E:ECt)
  (h : ∀ x,E.pre x→ac.wp tab G (qE 0 (E.aS x)) (qE 0 (E.ins x)) (kN fz rs (E.ins x).length (E.K x)))
  (hf:P.funcs[f]?=some fn:=by kernel_rfl) (hname:(fn.name == "runtime.NumGoroutine")=false:=by kernel_rfl) (hb:fn.body=some (fn.body.getD .skip):=by kernel_rfl) (hann:ann P fn.ntmps hints (fn.body.getD .skip)=some ac:=by kernel_rfl) (hmx:P.follows .mixedOrders=true:=by kernel_rfl)
  (hrs:qKc P fn.results.toList=some rs:=by kernel_rfl) (hst:ac.strict=true:=by kernel_rfl) (hn : ∀ x,(E.aS x).length≤fn.ntmps:=by exact fun _=>Nat.le_of_ble_eq_true (by kernel_rfl)) (hi : ∀ x,(E.ins x).length≤100:=by exact fun _=>Nat.le_of_ble_eq_true (by kernel_rfl)) : ∃ g:EF E,FOk P G f (E.fs g):=
 EF.ok_of E (fun args w=>run_callFunc_enter hf hname hb args w) (fun x hx=>by
  obtain⟨z,hz⟩:=zCu (Q:=fun z : { y // E.R x y }=>kN fz rs (E.ins x).length (fun r o=>r=E.r z.1∧o=E.outs z.1)) hst (zV (fun e f g hq=>by
   obtain⟨y,hy⟩:=zZ9 hq;have : ∃ y,E.R x y∧kN fz rs (E.ins x).length (fun r o=>r=E.r y∧o=E.outs y) e f g:=by
    cases e with
    | exit id=>exact hy.elim
    | normal=>obtain⟨p,l,h1,p2,l2,h2,h3,h4⟩:=hy;exact⟨y,h3,p,l,h1,p2,l2,h2,h4⟩
    | ret=>obtain⟨p,l,h1,p2,l2,h2,h3,h4⟩:=hy;exact⟨y,h3,p,l,h1,p2,l2,h2,h4⟩
   exact zVq this) (h x hx))
  exact⟨z.1,z.2,zB6 fz hf hb hann hmx ht hrs (hn x) (hi x) hz⟩)
theorem zXu:(∀ b:Bool,((!b)=true)=(b=false))∧(∀ b:Bool,((!b)=false)=(b=true))∧(∀ (p:Prop) [Decidable p],(decide p=true)=p)∧(∀ (p:Prop) [Decidable p],(decide p=false) = ¬ p)∧(∀ p:Prop,(¬ ¬ p)=p)∧
  (∀ a b:Int,((a==b)=true)=(a=b))∧(∀ a b:Int,((a==b)=false) = ¬ (a=b))∧(∀ a b:Int,((a != b)=true) = ¬ (a=b))∧(∀ a b:Int,((a != b)=false)=(a=b)):=by
 refine⟨sM,sM,sM,sM,sM,sM,sM,sM,sM⟩
abbrev LkE (tab:Tab)(n:Nat)(E:ECt)(g:EF E):Prop:=tab.look n=some (E.fs g)
end Go.Eng
end
section
namespace Go.Eng
theorem jSv {α:Type}:(∀ (n:Nat) (l:List α),(l.take n).length=min n l.length)∧(∀ (n:Nat) (l:List α),(l.drop n).length=l.length-n)∧(∀ (l m:List α),(l++m).length=l.length+m.length)∧(∀ (a:α) (l:List α),(a::l).length=l.length+1)∧(([]:List α).length=0)∧(∀ (n:Nat) (a:α),(List.replicate n a).length=n)∧(∀ (l:List α) (n:Nat) (a:α),(l.set n a).length=l.length):=sM
theorem jSu {α γ:Type}(f:α→γ)(l:List α):(l.map f).length=l.length:=List.length_map f
theorem dS {p:Prop}(h:p:=by first|omega|(simp only[jSv,jSu];omega)):p:=h
theorem aiG {a b:Prop}(k:b)(h:a:=by first|rfl|omega):a∧b:=⟨h,k⟩
attribute [go_sem] Bool.false_eq_true Int.toNat_natCast Bool.and_self false_and and_false or_true true_or or_false false_or Bool.or_self Bool.or_true Bool.true_or Bool.or_false Bool.false_or Bool.and_false Bool.false_and not_true_eq_false not_false_eq_true and_self List.length_append List.length_set List.take_length Option.getD_some Option.getD_none false_implies implies_true Option.some.injEq forall_eq_apply_imp_iff forall_eq forall_eq' List.length_drop List.length_take List.getElem?_drop Nat.mul_one Nat.one_mul Nat.zero_add Nat.add_zero Nat.sub_zero Nat.add_sub_cancel_left Nat.add_sub_cancel jT7 jT9 jT8 zBd zD4 zK2 zOp zT3 zRd jSp jKs jSr jSq jFc zY2 zSa jFe zY4 zY6 zY9 zY8 zY3 jHp Nat.min_eq_left Nat.min_eq_right jFf zY7 zY5 jFd Int.cast_ofNat_Int Int.natCast_zero Int.natCast_one
variable {tab:Tab} {gl:Gl} {fs:Fs} {hs:Hs} {Qx:qFp} {fm:Nat→Option V} {nb:Nat} {K:V×Wr→List Nat→Prop}
def mv (d s:Nat):zS:=⟨some d,.op .mov,[.tmp s],none⟩
theorem jS4 {d s:Nat}:((mv d s).q tab gl fm nb).wp hs K=((⟨some d,.op .mov,[.tmp s],none⟩:zS).q tab gl fm nb).wp hs K:=Eq.trans (Eq.refl _) rfl
theorem jS3 {d s:Nat}:(mv d s).dst=some d:=Eq.trans (Eq.refl _) rfl
def mG (d s t:Nat):zS:=⟨some d,.op .mov,[.tmp s],some (t,true)⟩
theorem jS1 {d s t:Nat}:((mG d s t).q tab gl fm nb).wp hs K=((⟨some d,.op .mov,[.tmp s],some (t,true)⟩:zS).q tab gl fm nb).wp hs K:=Eq.trans (Eq.refl _) rfl
theorem jS0 {d s t:Nat}:(mG d s t).dst=some d:=Eq.trans (Eq.refl _) rfl
def mC (d:Nat)(v:V):zS:=⟨some d,.op .mov,[.cst v],none⟩
theorem jSx {d:Nat}{v:V}:((mC d v).q tab gl fm nb).wp hs K=((⟨some d,.op .mov,[.cst v],none⟩:zS).q tab gl fm nb).wp hs K:=Eq.trans (Eq.refl _) rfl
theorem jSw {d:Nat}{v:V}:(mC d v).dst=some d:=Eq.trans (Eq.refl _) rfl
def oO (d:Nat)(a:AO)(xs:List qFs):zS:=⟨some d,.op a,xs,none⟩
theorem jTa {d:Nat}{a:AO}{xs:List qFs}:((oO d a xs).q tab gl fm nb).wp hs K=((⟨some d,.op a,xs,none⟩:zS).q tab gl fm nb).wp hs K:=Eq.trans (Eq.refl _) rfl
theorem jS9 {d:Nat}{a:AO}{xs:List qFs}:(oO d a xs).dst=some d:=Eq.trans (Eq.refl _) rfl
def oG (d t:Nat)(a:AO)(xs:List qFs):zS:=⟨some d,.op a,xs,some (t,true)⟩
theorem jS8 {d t:Nat}{a:AO}{xs:List qFs}:((oG d t a xs).q tab gl fm nb).wp hs K=((⟨some d,.op a,xs,some (t,true)⟩:zS).q tab gl fm nb).wp hs K:=Eq.trans (Eq.refl _) rfl
theorem jS7 {d t:Nat}{a:AO}{xs:List qFs}:(oG d t a xs).dst=some d:=Eq.trans (Eq.refl _) rfl
def bT (d:Nat)(o:BinOp)(x y:Nat):zS:=⟨some d,.op (.bin o),[.tmp x,.tmp y],none⟩
theorem jSd {d:Nat}{o:BinOp}{x y:Nat}:((bT d o x y).q tab gl fm nb).wp hs K=((⟨some d,.op (.bin o),[.tmp x,.tmp y],none⟩:zS).q tab gl fm nb).wp hs K:=Eq.trans (Eq.refl _) rfl
theorem jSc {d:Nat}{o:BinOp}{x y:Nat}:(bT d o x y).dst=some d:=Eq.trans (Eq.refl _) rfl
def bN (d:Nat)(o:BinOp)(x:Nat)(n:Int):zS:=⟨some d,.op (.bin o),[.tmp x,.cst (.t (.int .i64 n))],none⟩
theorem jSb {d:Nat}{o:BinOp}{x:Nat}{n:Int}:((bN d o x n).q tab gl fm nb).wp hs K=((⟨some d,.op (.bin o),[.tmp x,.cst (.t (.int .i64 n))],none⟩:zS).q tab gl fm nb).wp hs K:=Eq.trans (Eq.refl _) rfl
theorem jSa {d:Nat}{o:BinOp}{x:Nat}{n:Int}:(bN d o x n).dst=some d:=Eq.trans (Eq.refl _) rfl
def cL (d f:Nat)(k:Bool)(xs:List qFs):zS:=⟨some d,.call f k,xs,none⟩
theorem jSk {d f:Nat}{k:Bool}{xs:List qFs}:((cL d f k xs).q tab gl fm nb).wp hs K=((⟨some d,.call f k,xs,none⟩:zS).q tab gl fm nb).wp hs K:=Eq.trans (Eq.refl _) rfl
theorem jSj {d f:Nat}{k:Bool}{xs:List qFs}:(cL d f k xs).dst=some d:=Eq.trans (Eq.refl _) rfl
def mF (d s t:Nat):zS:=⟨some d,.op .mov,[.tmp s],some (t,false)⟩
theorem jSz {d s t:Nat}:((mF d s t).q tab gl fm nb).wp hs K=((⟨some d,.op .mov,[.tmp s],some (t,false)⟩:zS).q tab gl fm nb).wp hs K:=Eq.trans (Eq.refl _) rfl
theorem jSy {d s t:Nat}:(mF d s t).dst=some d:=Eq.trans (Eq.refl _) rfl
def oF (d t:Nat)(a:AO)(xs:List qFs):zS:=⟨some d,.op a,xs,some (t,false)⟩
theorem jS6 {d t:Nat}{a:AO}{xs:List qFs}:((oF d t a xs).q tab gl fm nb).wp hs K=((⟨some d,.op a,xs,some (t,false)⟩:zS).q tab gl fm nb).wp hs K:=Eq.trans (Eq.refl _) rfl
theorem jS5 {d t:Nat}{a:AO}{xs:List qFs}:(oF d t a xs).dst=some d:=Eq.trans (Eq.refl _) rfl
def cG (d t f:Nat)(k:Bool)(xs:List qFs):zS:=⟨some d,.call f k,xs,some (t,true)⟩
theorem jSi {d t f:Nat}{k:Bool}{xs:List qFs}:((cG d t f k xs).q tab gl fm nb).wp hs K=((⟨some d,.call f k,xs,some (t,true)⟩:zS).q tab gl fm nb).wp hs K:=Eq.trans (Eq.refl _) rfl
theorem jSh {d t f:Nat}{k:Bool}{xs:List qFs}:(cG d t f k xs).dst=some d:=Eq.trans (Eq.refl _) rfl
def cF (d t f:Nat)(k:Bool)(xs:List qFs):zS:=⟨some d,.call f k,xs,some (t,false)⟩
theorem jSg {d t f:Nat}{k:Bool}{xs:List qFs}:((cF d t f k xs).q tab gl fm nb).wp hs K=((⟨some d,.call f k,xs,some (t,false)⟩:zS).q tab gl fm nb).wp hs K:=Eq.trans (Eq.refl _) rfl
theorem jSf {d t f:Nat}{k:Bool}{xs:List qFs}:(cF d t f k xs).dst=some d:=Eq.trans (Eq.refl _) rfl
attribute [go_sem ↓] jSz jS6 jSi jSg
attribute [go_sem] jSy jS5 jSh jSf
def oS (n x y:Nat):zS:=⟨none,.op (.store n),[.tmp x,.tmp y],none⟩
theorem jTc {n x y:Nat}:((oS n x y).q tab gl fm nb).wp hs K=((⟨none,.op (.store n),[.tmp x,.tmp y],none⟩:zS).q tab gl fm nb).wp hs K:=Eq.trans (Eq.refl _) rfl
theorem jTb {n x y:Nat}:(oS n x y).dst=none:=Eq.trans (Eq.refl _) rfl
def rG (nb:Nat)(os:List zS):AC:= .reg nb none os
theorem jTd {os:List zS}:(rG nb os).wp tab gl fs hs Qx=(AC.reg nb none os).wp tab gl fs hs Qx:=Eq.trans (Eq.refl _) rfl
attribute [go_sem ↓] jTd jS4 jS1 jSx jTa jS8 jSd jSb jSk jTc
attribute [go_sem] jS3 jS0 jSw jS9 jS7 jSc jSa jSj jTb
attribute [go_sem] Int.reduceAdd Int.reduceBEq Int.reduceDiv Int.reduceEq Int.reduceFDiv Int.reduceGE Int.reduceGT Int.reduceLE Int.reduceLT Int.reduceMod Int.reduceMul Int.reduceNeg Int.reducePow Int.reduceSub Int.reduceTDiv Int.reduceTMod Int.reduceToNat Nat.reduceAdd Nat.reduceBEq Nat.reduceBneDiff Nat.reduceDiv Nat.reduceEqDiff Nat.reduceGT Nat.reduceLT Nat.reduceLeDiff Nat.reduceMod Nat.reduceMul Nat.reducePow Nat.reduceSub reduceCtorEq
attribute [go_sem ↓] reduceIte
theorem mcn {α β:Type}:(∀ (f:α→β) (a:α) (l:List α),List.map f (a::l)=f a::List.map f l) ∧ ∀ f:α→β,List.map f []=[]:=⟨fun _ _ _=>rfl,fun _=>rfl⟩
theorem oms {α β:Type}{f:α→β}{a:α}:Option.map f (some a)=some (f a):=rfl
end Go.Eng
end
section
namespace Go.Eng
def qKg (s:List UInt8):T:= .str ⟨s.toArray⟩
theorem zT8 {s:List UInt8}:T.str ⟨s.toArray⟩=qKg s:=Eq.trans (Eq.refl _) rfl
theorem qS6 (b:ByteArray) : ∀ (n i:Nat) (r:List UInt8),n=b.size-i→ByteArray.toList.loop b i r=r.reverse++b.data.toList.drop i
 | 0,i,r,h=>by
  unfold ByteArray.toList.loop;rw[if_neg oM];have:b.data.toList.drop i=[]:=List.drop_eq_nil_of_le (by have:b.data.toList.length=b.size:=rfl;omega);rw[this,List.append_nil]
 | n+1,i,r,h=>by
  unfold ByteArray.toList.loop;have hi:i<b.size:=oM;have hl:b.data.toList.length=b.size:=rfl;rw[if_pos hi,qS6 b n (i+1) _ oM];have e:b.data.toList.drop i=b.data.toList[i]'(oM)::b.data.toList.drop (i+1):=List.drop_eq_getElem_cons oM;rw[e];have e2:b.get! i=b.data.toList[i]'(oM):=by
   show b.data[i]! = _;have hi':i<b.data.size:=hi;rw[getElem!_pos b.data i hi'];simp
  rw[e2];simp
theorem zFt {s:List UInt8}:(ByteArray.mk s.toArray).toList=s:=by
 unfold ByteArray.toList;rw[qS6 _ _ 0 [] rfl];simp
theorem zQc {a b:List UInt8}:qHp .eql (qKg a) (qKg b)=some (.bool (decide (a=b))):=by
 show some (T.bool ((ByteArray.mk a.toArray).toList==(ByteArray.mk b.toArray).toList))=_;rw[zFt,zFt];by_cases h:a=b<;>simp[h]
theorem zQd {a b:List UInt8}:qHp .neq (qKg a) (qKg b)=some (.bool (!decide (a=b))):=by
 show some (T.bool (!((ByteArray.mk a.toArray).toList==(ByteArray.mk b.toArray).toList)))=_;rw[zFt,zFt];by_cases h:a=b<;>simp[h]
theorem zKi {a b:List UInt8}(h:a.length+b.length≤9223372036854775807):qHp .add (qKg a) (qKg b)=some (qKg (a++b)):=by
 show (if (ByteArray.mk a.toArray).size+(ByteArray.mk b.toArray).size≤maxLen then some (T.str (ByteArray.mk a.toArray++ByteArray.mk b.toArray)) else none)=_;have h1:(ByteArray.mk a.toArray).size=a.length:=rfl;have h2:(ByteArray.mk b.toArray).size=b.length:=rfl;have h3:maxLen=9223372036854775807:=by decide
 rw[h1,h2,h3,if_pos h];have e:ByteArray.mk a.toArray++ByteArray.mk b.toArray=⟨(a++b).toArray⟩:=by
  apply ByteArray.ext;simp[ByteArray.data_append]
 rw[e];rfl
theorem zOi {a:List UInt8}:qP7 [.t (qKg a)] = .ret (.t (.int .i64 a.length),[]):=Eq.trans (Eq.refl _) rfl
theorem qUn {a:List UInt8}{k:IntKind}{i:Nat}(h:i<a.length):qDx [.t (qKg a),.t (.int k (i:Nat))] = .ret (.t (qA (a.getD i 0)),[]):=by
 have e:(ByteArray.mk a.toArray).data.toList[(i:Int).toNat]?=some (a.getD i 0):=by simp[List.getD,h]
 simp only[qKg,qDx,vO,Q.of,Q.bind,Q.assert,e];rw[if_pos oM]
theorem zTg {a:List UInt8}{nb:Nat}:qXe nb [.t (qKg a)]=Q.assert (qCn a.length 1) (.free nb (.ret (.sl nb 0 a.length,[(nb,.live 1 ((a.map qA).map V.t) true false)]))):=by
 have h1:(ByteArray.mk a.toArray).size=a.length:=rfl;have h2:((ByteArray.mk a.toArray).data.toList.map fun b=>V.t (qA b))=(a.map qA).map V.t:=by simp[List.map_map,Function.comp_def]
 simp only[qKg,qXe,h1,h2]
theorem zAj {bs:List UInt8}:qGl ((bs.map qA).map V.t)=some bs:=by
 have:=qNo (bs:=bs);rw[List.map_map];exact this
theorem zHk {a b:List UInt8}:(qKg a=qKg b)=(a=b):=by
 apply propext;constructor
 ·intro h;have h1:=congrArg (fun x=>match x with | T.str s=>s.data.toList | _=>[]) h;simpa [qKg] using h1
 ·rintro rfl;rfl
theorem jBd {s:List UInt8}:(qKg s).cells=[qKg s]:=Eq.trans (Eq.refl _) rfl
theorem jBo {s:List UInt8}:(V.t (qKg s)).cells=[V.t (qKg s)]:=Eq.trans (Eq.refl _) rfl
theorem jBu {s:List UInt8}:(V.t (qKg s)).plain=true:=Eq.trans (Eq.refl _) rfl
theorem zEo {s:List UInt8}:(V.t (qKg s)).single=true:=Eq.trans (Eq.refl _) rfl
theorem zLo {s:List UInt8}:(qKg s).flat=true:=Eq.trans (Eq.refl _) rfl
attribute [go_sem ↓] zQc zQd zKi zOi qUn zTg
attribute [go_sem] zT8 zAj zHk jBd jBo jBu zEo zLo
end Go.Eng
end
section
namespace Go.Eng
variable {tab:Tab} {gl:Gl} {fs:Fs} {hs:Hs} {Qx:qFp}
def qTy {σ:Type}(Inv:σ→Prop)(μ:σ→Nat)(fI:σ→Fs)(hI:σ→Hs)(s:σ)(fs:Fs)(hs:Hs):Prop := ∃ t,Inv t∧μ t<μ s∧qK fs hs (fI t) (hI t)
def jJf {σ:Type}(Inv:σ→Prop)(μ:σ→Nat)(fI:σ→Fs)(hI:σ→Hs)(s:σ)(Qx:qFp):qFp:=fun e fs' hs'=>match e with | .normal=>qTy Inv μ fI hI s fs' hs' | e=>Qx e fs' hs'
theorem zD2 {σ:Type}{Inv:σ→Prop}{μ:σ→Nat}{fI:σ→Fs}{hI:σ→Hs}{s:σ}:jJf Inv μ fI hI s Qx .normal fs hs=qTy Inv μ fI hI s fs hs:=Eq.trans (Eq.refl _) rfl
theorem zL8 {σ:Type}{Inv:σ→Prop}{μ:σ→Nat}{fI:σ→Fs}{hI:σ→Hs}{s:σ}{id:Nat}:jJf Inv μ fI hI s Qx (.exit id) fs hs=Qx (.exit id) fs hs:=Eq.trans (Eq.refl _) rfl
theorem zRk {σ:Type}{Inv:σ→Prop}{μ:σ→Nat}{fI:σ→Fs}{hI:σ→Hs}{s:σ}:jJf Inv μ fI hI s Qx .ret fs hs=Qx .ret fs hs:=Eq.trans (Eq.refl _) rfl
attribute [go_sem] zD2 zL8 zRk
theorem qTy.of {σ:Type}{Inv:σ→Prop}{μ:σ→Nat}{fI:σ→Fs}{hI:σ→Hs}{s:σ}(t:σ)(h1:Inv t)(h2:μ t<μ s)(h3:qK fs hs (fI t) (hI t)):qTy Inv μ fI hI s fs hs:=⟨t,h1,h2,h3⟩
theorem vK {a:AC}{σ:Type}(Inv:σ→Prop)(μ:σ→Nat)(fI:σ→Fs)(hI:σ→Hs)(s0:σ)(hP:Inv s0)(h0:qK fs hs (fI s0) (hI s0))(h : ∀ s,Inv s→a.wp tab gl (fI s) (hI s) (jJf Inv μ fI hI s Qx)):qVs tab gl a fs hs Qx:=by
 refine qJo (ι := { s:σ // Inv s }) (fun i=>(fI i.1,hI i.1)) (fun i=>μ i.1) ⟨s0,hP⟩ h0 (fun i=>?_);refine zV (fun e f g hq=>?_) (h i.1 i.2);cases e with
 | normal=>
  obtain⟨t,h1,h2,h3⟩:=hq;exact⟨⟨t,h1⟩,h2,h3⟩
 | exit id=>exact hq
 | ret=>exact hq
end Go.Eng
end
section
set_option maxRecDepth 20000
namespace Go.Eng
theorem u8f (n:Nat)(h:n<256):T.int .u8 (no_index (OfNat.ofNat n))=qA (OfNat.ofNat n):=by
 have e:(UInt8.ofNat n).toNat=n:=by rw[UInt8.toNat_ofNat'];omega
 show T.int .u8 (Int.ofNat n)=T.int .u8 (((UInt8.ofNat n).toNat:Nat):Int);rw[e];rfl
theorem jT6 (n:Nat)(h:n<4294967296):T.int .u32 (no_index (OfNat.ofNat n))=jB (OfNat.ofNat n):=by
 have e:(UInt32.ofNat n).toNat=n:=by rw[UInt32.toNat_ofNat'];omega
 show T.int .u32 (Int.ofNat n)=T.int .u32 (((UInt32.ofNat n).toNat:Nat):Int);rw[e];rfl
theorem jT0 (s:List UInt8):T.str ⟨Array.mk s⟩=qKg s:=rfl
theorem jTp (x:V):[x,x,x,x,x,x,x,x,x,x,x,x,x,x,x,x,x,x,x,x,x,x,x,x,x,x,x,x,x,x,x,x,x,x,x,x,x,x,x,x,x,x,x,x,x,x,x,x,x,x,x,x,x,x,x,x,x,x,x,x,x,x,x,x]=List.replicate 64 x:=rfl
theorem jTq (x:V):[x,x,x,x,x,x,x,x,x,x,x,x,x,x,x,x,x,x,x,x,x,x,x,x,x,x,x,x,x,x,x,x,x,x,x,x,x,x,x,x,x,x,x,x,x,x,x,x,x,x,x,x,x,x,x,x,x,x,x,x,x,x,x,x,x,x,x,x,x,x,x,x,x,x,x,x,x,x,x,x]=List.replicate 80 x:=rfl
theorem jLt (x:V):[x,x,x,x,x,x,x,x,x,x,x,x,x,x,x,x,x,x,x,x,x,x,x,x,x,x,x,x,x,x,x,x,x,x,x,x,x,x,x,x,x,x,x,x,x,x,x,x,x,x,x,x,x,x,x,x,x,x,x,x,x,x,x,x,x,x,x,x,x,x,x,x,x,x,x,x,x,x,x,x,x,x,x,x,x,x,x,x,x,x,x,x,x,x,x,x,x,x,x,x,x,x,x,x,x,x,x,x,x,x,x,x,x,x,x,x,x,x,x,x,x,x,x,x,x,x,x,x,x,x,x,x,x,x,x,x]=List.replicate 136 x:=rfl
end Go.Eng
end
