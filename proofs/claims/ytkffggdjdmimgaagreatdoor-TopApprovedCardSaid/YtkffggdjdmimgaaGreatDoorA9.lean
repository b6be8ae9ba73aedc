/- A part of an abstract machine, its walks, their tie. -/
import Derived.Test.YtkffggdjdmimgaaGreatDoorA8
import Derived.Conc.MuLone
import Derived.KernelRfl
set_option linter.all false
section
namespace Go.Eng
open List
variable {tab:Tab} {gl:Gl} {fs:Fs} {hs:Hs} {Qx:qHw}
theorem jH1 {g:V→Q V}:rdL g [] = .ret []:=Eq.trans (Eq.refl _) rfl
theorem zDx {g:V→Q V}{c:V}{r:List V}:rdL g (c::r)=(g c).bind fun x=>(rdL g r).bind fun y=> .ret (x::y):=Eq.trans (Eq.refl _) rfl
theorem jH7 {n:Nat}{x:T}:rdV n (.t x) = .ret (.t x):=by cases n<;>rfl
theorem jH5 {n:Nat}:rdV n .nil = .ret .nil:=by cases n<;>rfl
theorem jOi {n:Nat}{cs:List T}:rdV n (.ro cs) = .ret (.ro cs):=by cases n<;>rfl
theorem jH6 {n id i f:Nat}:rdV n (.ref id i f) = .ret (.ref id i f):=by cases n<;>rfl
theorem jOf {n g id i f:Nat}:rdV n (.bd g id i f) = .ret (.bd g id i f):=by cases n<;>rfl
theorem jOg {n:Nat}:rdV n .bq = .ret .bq:=by cases n<;>rfl
attribute [go_sem] jOg
attribute [go_sem] jOf
theorem jH8 {n:Nat}{cs:List V}:rdV n (.tup cs) = .ret (.tup cs):=by cases n<;>rfl
theorem jH4 {n:Nat}{cs:List V}:rdV (n+1) (.agg cs)=(rdL (rdV n) cs).bind fun p=> .ret (V.mk p):=Eq.trans (Eq.refl _) rfl
theorem jOh {n:Nat}{f:FuncId}{cs:List V}:rdV (n+1) (.fn f cs)=(rdL (rdV n) cs).bind fun p=> .ret (.fn f p):=Eq.trans (Eq.refl _) rfl
theorem jOj {n id off len:Nat}:rdV (n+1) (.sl id off len) = .get id fun
  | .live _ _ false _=>(zO (n+1) (.sl id off len)).bind fun p=>Q.assert (p.2=[]) (.ret p.1)
  | _=> .ret (.sl id off len):=Eq.trans (Eq.refl _) rfl
theorem jAb {es:List V}:zW4 es=match qF4 es with | some _=> .ret es | none=>rdL (rdV 4) es:=Eq.trans (Eq.refl _) rfl
theorem zPs {α:Type}{q:Q α}:(q.bind fun x=>Q.ret x)=q:=by
 induction q with
 | ret a=>rfl
 | fail=>rfl
 | get id k ih=>simp only[Q.bind,ih]
 | free id k ih=>simp only[Q.bind,ih]
theorem jOe {n:Nat}{ts:List T}:rdL (rdV n) (ts.map .t) = .ret (ts.map .t):=by
 induction ts with
 | nil=>rfl
 | cons x r ih=>simp[rdL,jH7,ih,Q.bind]
theorem jH0 {g:V→Q V}{a b:List V}:rdL g (a++b)=(rdL g a).bind fun x=>(rdL g b).bind fun y=> .ret (x++y):=by
 induction a with
 | nil=>simp[rdL,Q.bind,zPs]
 | cons c r ih=>simp only[cons_append,rdL,ih,qGf,Q.bind]
section
variable {ρ:Nat→Nat} {vt ko:List Nat}
theorem jQd:vEq ρ vt ko .nil .nil=True:=by simp[vEq]
theorem jQf {x:T}:vEq ρ vt ko .nil (.t x)=(x = .sl []):=by simp[vEq]
theorem jQe {id off len:Nat}:vEq ρ vt ko .nil (.sl id off len)=((vt.contains id=true∧off=0)∧len=0):=by simp only[vEq]
theorem jP9 {cs cs':List V}:vEq ρ vt ko (.agg cs) (.agg cs')=zEi ρ vt ko cs cs':=by simp only[vEq]
theorem jQa {cs:List V}{ts:List T}:vEq ρ vt ko (.agg cs) (.t (.agg ts))=zEi ρ vt ko cs (ts.map .t):=by simp only[vEq]
theorem jQc {f f':FuncId}{cs cs':List V}:vEq ρ vt ko (.fn f cs) (.fn f' cs')=(f=f'∧zEi ρ vt ko cs cs'):=by simp only[vEq]
theorem jQk {x y:T}:vEq ρ vt ko (.t x) (.t y)=(x=y):=by
 have:vEq ρ vt ko (.t x) (.t y)=(V.t x=(V.t y).ren ρ∧((V.t y).ids.all fun i=>ko.contains i)=true):=by cases y<;>simp only[vEq]
 rw[this];simp[V.ren,V.ids]
theorem jQi {i j k i' j' k':Nat}:vEq ρ vt ko (.ref i j k) (.ref i' j' k')=((i=ρ i'∧j=j'∧k=k')∧ko.contains i'=true):=by
 simp[vEq,V.ren,V.ids]
theorem jQh:vEq ρ vt ko .bq .bq=True:=by
 simp[vEq,V.ren,V.ids]
attribute [go_sem] jQh
theorem jQb {g i j k g' i' j' k':Nat}:vEq ρ vt ko (.bd g i j k) (.bd g' i' j' k')=((g=g'∧i=ρ i'∧j=j'∧k=k')∧ko.contains i'=true):=by
 simp[vEq,V.ren,V.ids]
attribute [go_sem] jQb
theorem jQj {i j k i' j' k':Nat}:vEq ρ vt ko (.sl i j k) (.sl i' j' k')=((i=ρ i'∧j=j'∧k=k')∧ko.contains i'=true):=by
 simp[vEq,V.ren,V.ids]
theorem jQg {cs cs':List T}:vEq ρ vt ko (.ro cs) (.ro cs')=(cs=cs'):=by
 simp[vEq,V.ren,V.ids]
theorem jB8:zEi ρ vt ko [] []=True:=by simp only[zEi]
theorem zWd {c c':V}{r r':List V}:zEi ρ vt ko (c::r) (c'::r')=(vEq ρ vt ko c c'∧zEi ρ vt ko r r'):=by simp only[zEi]
theorem zYf {u es':List V}:jGq ρ vt ko u es'=match qF4 u with
 | some _=>u=qHz ρ es'∧((qQm es').all fun i=>ko.contains i)=true
 | none=>zEi ρ vt ko u es':=Eq.trans (Eq.refl _) rfl
theorem zQi {v v':V}:zQg hs ρ vt ko (some v) v'=(rdV 4 v).wp hs (fun u _=>vEq ρ vt ko u v'):=Eq.trans (Eq.refl _) rfl
theorem zQh {v':V}:zQg hs ρ vt ko none v'=False:=Eq.trans (Eq.refl _) rfl
theorem zOx:qNv fs hs ρ vt ko []=True:=Eq.trans (Eq.refl _) rfl
theorem zJc {t:Nat}{v':V}{r:Fs}:qNv fs hs ρ vt ko ((t,v')::r)=(zQg hs ρ vt ko (jM fs t) v'∧qNv fs hs ρ vt ko r):=Eq.trans (Eq.refl _) rfl
theorem zW7:zWy hs ρ vt ko []=True:=Eq.trans (Eq.refl _) rfl
theorem zRl {i:Nat}{o':Ob}{r:Hs}:zWy hs ρ vt ko ((i,o')::r)=(obC hs ρ vt ko (jM hs (ρ i)) o'∧zWy hs ρ vt ko r):=Eq.trans (Eq.refl _) rfl
theorem zZx {z z':Nat}{es es':List V}{wr wr' full full':Bool}:obC hs ρ vt ko (some (.live z es wr full)) (.live z' es' wr' full') =
  (z=z'∧wr=wr'∧(full'=true→full=true)∧(zW4 es).wp hs (fun u _=>jGq ρ vt ko u es')):=Eq.trans (Eq.refl _) rfl
theorem zZw {o:Ob}:obC hs ρ vt ko (some o) .dead=True:=by cases o<;>rfl
end
theorem zYw {es:List V}:jGz es=match qF4 es with | some _=>[] | none=>qQm es:=Eq.trans (Eq.refl _) rfl
theorem zTh {n:Nat}{ids:List Nat}{obs:List Ob}:qRv n [] ids obs = .ret (ids,obs):=by cases n<;>rfl
theorem zPg {n id:Nat}{todo ids:List Nat}{obs:List Ob}:qRv (n+1) (id::todo) ids obs=if ids.contains id then qRv n todo ids obs else
  .get id fun
   | .live z es true full=>(zW4 es).bind fun es'=>qRv n (todo++jGz es') (ids++[id]) (obs++[.live z es' true full])
   | _=> .fail:=Eq.trans (Eq.refl _) rfl
theorem jAz {n:Nat}{vs:List V}:jEp n vs=(rdL (rdV 4) vs).bind fun us=>(qRv (40+n) (List.range n++qQm us) [] []).bind fun q=>
  Q.assert ((qQm us).all (fun i=>q.1.contains i)=true) (.ret (jEo (qHz (fun r=>q.1.idxOf r) us),q.2.map (Ob.ren fun r=>q.1.idxOf r))):=Eq.trans (Eq.refl _) rfl
theorem zKq {fz:List Nat}{rs:List (Nat×Option (Nat×Bool))}{n:Nat}{R:V→List Ob→Prop}:kG fz rs n R .normal fs hs=(zB4 fz).wp hs (fun fw _=>((rsQ fs rs).bind fun vs=>jEp n vs).wp (zCg hs fw) (fun p _=>R p.1 p.2)):=Eq.trans (Eq.refl _) rfl
theorem jAv {fz:List Nat}{rs:List (Nat×Option (Nat×Bool))}{n:Nat}{R:V→List Ob→Prop}:kG fz rs n R .ret fs hs=(zB4 fz).wp hs (fun fw _=>((rsQ fs rs).bind fun vs=>jEp n vs).wp (zCg hs fw) (fun p _=>R p.1 p.2)):=Eq.trans (Eq.refl _) rfl
def unK (tab:Tab)(gl:Gl)(a:AC)(n:Nat)(Qx:qHw):qHw:=fun e fs' hs'=>match e with | .normal=>zG5 tab gl a n fs' hs' Qx | e=>Qx e fs' hs'
theorem qD {a:AC}{n:Nat}:zG5 tab gl a (n+1) fs hs Qx=a.wp tab gl fs hs (unK tab gl a n Qx):=Eq.trans (Eq.refl _) rfl
theorem zQn {a:AC}{n:Nat}:unK tab gl a n Qx .normal fs hs=zG5 tab gl a n fs hs Qx:=Eq.trans (Eq.refl _) rfl
theorem jB2 {a:AC}{n id:Nat}:unK tab gl a n Qx (.exit id) fs hs=Qx (.exit id) fs hs:=Eq.trans (Eq.refl _) rfl
theorem jJm {a:AC}{n:Nat}:unK tab gl a n Qx .ret fs hs=Qx .ret fs hs:=Eq.trans (Eq.refl _) rfl
@[congr] theorem jG8 {a:AC} {n:Nat} {fs':Fs} {hs':Hs} (h1:fs=fs') (h2:hs=hs'):zG5 tab gl a n fs hs Qx=zG5 tab gl a n fs' hs' Qx:=by rw[h1,h2]
theorem zG4 {ι:Type}{I:ι→Fs×Hs}{μ:ι→Nat}{i:ι}:zZg I μ i Qx .normal fs hs = ∃ j,μ j<μ i∧qJ fs hs (I j).1 (I j).2:=Eq.trans (Eq.refl _) rfl
theorem zPo {ι:Type}{I:ι→Fs×Hs}{μ:ι→Nat}{i:ι}{id:Nat}:zZg I μ i Qx (.exit id) fs hs=Qx (.exit id) fs hs:=Eq.trans (Eq.refl _) rfl
theorem zTz {ι:Type}{I:ι→Fs×Hs}{μ:ι→Nat}{i:ι}:zZg I μ i Qx .ret fs hs=Qx .ret fs hs:=Eq.trans (Eq.refl _) rfl
attribute [go_sem] jH1 zDx jH7 jH5 jOi jH6 jH8 jH4 jOh jOj jAb jOe jH0 jQd jQf jQe jP9 jQa jQc jQk jQi jQj jQg jB8 zWd zYf zQi zQh
 zOx zJc zW7 zRl zZx zZw zYw zTh zPg jAz zKq jAv zQn jB2 jJm zG4 zPo zTz
theorem jTg {p:Prop}[Decidable p](h:p):decide p=true:=decide_eq_true h
theorem jTf {p:Prop}[Decidable p](h : ¬ p):decide p=false:=decide_eq_false h
theorem jMp {a b:Int}(h:a=b):(a==b)=true:=by simp[h]
theorem jMo {a b:Int}(h : ¬ a=b):(a==b)=false:=by simp[h]
theorem jMr {a b:Int}(h : ¬ a=b):(a != b)=true:=by simp[h]
theorem jMq {a b:Int}(h:a=b):(a != b)=false:=by simp[h]
attribute [go_sem low] jTg jTf jV5 jMp jMo jMr jMq
theorem zG7 {α γ:Type}{f:α→γ}{l:List α}{x:α}{r:List γ}:List.map f l++f x::r=List.map f (l++[x])++r:=sM
theorem zKd {α γ:Type}{f:α→γ}{l r:List α}:List.map f l++List.map f r=List.map f (l++r):=sM
theorem zSl {α γ:Type}{f:α→γ}{l:List α}{n:Nat}:List.drop n (List.map f l)=List.map f (List.drop n l):=sM
theorem zV9 {α γ:Type}{f:α→γ}{l:List α}{n:Nat}:List.take n (List.map f l)=List.map f (List.take n l):=sM
theorem jBr {α γ:Type}{f:α→γ}{l:List α}{n:Nat}{x:α}:List.set (List.map f l) n (f x)=List.map f (List.set l n x):=by
 rw[map_set]
theorem zYs {α γ:Type}{f:α→γ}{l:List α}{n:Nat}:(List.map f l)[n]?=(l[n]?).map f:=getElem?_map
theorem jUn {n:Nat}{x:T}:List.replicate n (V.t x)=List.map V.t (List.replicate n x):=sM
theorem jUm {n:Nat}{x:UInt8}:List.replicate n (qA x)=List.map qA (List.replicate n x):=sM
theorem jUo {n:Nat}{x:UInt32}:List.replicate n (jC x)=List.map jC (List.replicate n x):=sM
theorem yDv {α:Type}{x:α}:List.replicate 0 x=[]:=Eq.trans (Eq.refl _) rfl
theorem yDw {α:Type}{x:α}:List.replicate 1 x=[x]:=Eq.trans (Eq.refl _) rfl
theorem yDx {α:Type}{x:α}:List.replicate 2 x=[x,x]:=Eq.trans (Eq.refl _) rfl
theorem yDy {α:Type}{x:α}:List.replicate 3 x=[x,x,x]:=Eq.trans (Eq.refl _) rfl
theorem yDz {α:Type}{x:α}:List.replicate 4 x=[x,x,x,x]:=Eq.trans (Eq.refl _) rfl
theorem yD0 {α:Type}{x:α}:List.replicate 5 x=[x,x,x,x,x]:=Eq.trans (Eq.refl _) rfl
theorem yD1 {α:Type}{x:α}:List.replicate 6 x=[x,x,x,x,x,x]:=Eq.trans (Eq.refl _) rfl
theorem yD2 {α:Type}{x:α}:List.replicate 7 x=[x,x,x,x,x,x,x]:=Eq.trans (Eq.refl _) rfl
theorem yD3 {α:Type}{x:α}:List.replicate 8 x=[x,x,x,x,x,x,x,x]:=Eq.trans (Eq.refl _) rfl
theorem jGm {es:List T}:qD6 (.t (.sl es)) = .ret (es.map .t):=Eq.trans (Eq.refl _) rfl
theorem zSs:qD6 .nil = .ret []:=Eq.trans (Eq.refl _) rfl
theorem zYd {id off len:Nat}:qD6 (.sl id off len) = .get id fun
  | .live _ es _ _=>Q.assert (off+len≤es.length) (.ret ((es.drop off).take len))
  | .dead=> .fail:=Eq.trans (Eq.refl _) rfl
theorem jWq {z:Nat}{ts:List T}:zOk z (ts.map .t)=zBn z ts:=by
 induction ts with
 | nil=>rfl
 | cons x r ih=>
  have:zOk z (V.t x::r.map .t)=((V.t x).cells.length==z&&zOk z (r.map .t)):=rfl;rw[map_cons,this,ih];have:zBn z (x::r)=(x.cells.length==z&&zBn z r):=rfl;rw[this,qOi,length_map]
theorem jJ9 {z:Nat}:zOk z []=true:=Eq.trans (Eq.refl _) rfl
theorem jCo {z:Nat}{x:V}{r:List V}:zOk z (x::r)=(x.cells.length==z&&zOk z r):=Eq.trans (Eq.refl _) rfl
theorem jA2:jKl []=true:=Eq.trans (Eq.refl _) rfl
theorem jOt {b:UInt8}{r:List T}:jKl (qA b::r)=jKl r:=Eq.trans (Eq.refl _) rfl
theorem jCn {z:Nat}:zBn z []=true:=Eq.trans (Eq.refl _) rfl
theorem zWu {z:Nat}{x:T}{r:List T}:zBn z (x::r)=(x.cells.length==z&&zBn z r):=Eq.trans (Eq.refl _) rfl
theorem zFq {α:Type}{z:Nat}{f:α→T}(h : ∀ x,(f x).cells.length=z){l:List α}:zBn z (l.map f)=true:=by
 simp[zBn,h]
theorem jRx {l:List UInt8}:zBn 1 (l.map qA)=true:=zFq (f:=qA) (fun _=>rfl)
theorem jRy {l:List UInt32}:zBn 1 (l.map jC)=true:=zFq (f:=jC) (fun _=>rfl)
theorem zO7 {es:List V}:qFm es=match qF4 es with | some _=> .ret (es,[]) | none=>qFn (zO 3) es:=Eq.trans (Eq.refl _) rfl
theorem zD9 {α:Type}{l xs:List α}:jE l 0 xs=xs++l.drop xs.length:=by simp[jE]
theorem zD8 {α:Type}{x:α}{l xs:List α}{i:Nat}:jE (x::l) (i+1) xs=x::jE l i xs:=by
 simp[jE,show i+1+xs.length=i+xs.length+1 by omega]
def zSx (b:Bool)(z:List V)(pl:List (Nat×Nat))(vs:List V):Option (List V):=if b then qZ4 z pl vs else none
@[congr] theorem jGs {b b':Bool} {z:List V} {pl:List (Nat×Nat)} {vs:List V} (h:b=b'):zSx b z pl vs=zSx b' z pl vs:=by rw[h]
theorem zPa {z:List V}{pl:List (Nat×Nat)}{vs:List V}:zSx true z pl vs=qZ4 z pl vs:=Eq.trans (Eq.refl _) rfl
theorem zSy {z:List V}:qZ4 z [] []=some z:=Eq.trans (Eq.refl _) rfl
theorem zPb {z:List V}{off n:Nat}{pl:List (Nat×Nat)}{v:V}{vs:List V}:qZ4 z ((off,n)::pl) (v::vs)=zSx (decide (v.cells.length=n∧off+n≤z.length)&&v.plain) (jE z off v.cells) pl vs:=by
 simp only[qZ4,zSx,Bool.and_eq_true,decide_eq_true_eq,and_assoc]
def zGo (b:Bool)(z:Nat)(es:List V)(ix:List Nat)(vs:List V):Option (List V):=if b then qZ3 z es ix vs else none
@[congr] theorem jDq {b b':Bool} {z:Nat} {es:List V} {ix:List Nat} {vs:List V} (h:b=b'):zGo b z es ix vs=zGo b' z es ix vs:=by rw[h]
theorem zJ2 {z:Nat}{es:List V}{ix:List Nat}{vs:List V}:zGo true z es ix vs=qZ3 z es ix vs:=Eq.trans (Eq.refl _) rfl
theorem zSw {z:Nat}{es:List V}:qZ3 z es [] []=some es:=Eq.trans (Eq.refl _) rfl
theorem zO9 {z i:Nat}{es:List V}{ix:List Nat}{v:V}{vs:List V}:qZ3 z es (i::ix) (v::vs)=zGo (decide (v.cells.length=z∧i<es.length)&&v.plain) z (es.set i v) ix vs:=by
 simp only[qZ3,zGo,Bool.and_eq_true,decide_eq_true_eq,and_assoc]
theorem zZ1:qX8 []=true:=Eq.trans (Eq.refl _) rfl
theorem zUg {x:V}{r:List V}:qX8 (x::r)=(x.single&&qX8 r):=Eq.trans (Eq.refl _) rfl
theorem zZz {a b:List V}:qX8 (a++b)=(qX8 a&&qX8 b):=by simp[qX8]
theorem zDr {α:Type}{f:α→T}(h : ∀ x,(V.t (f x)).single=true){l:List α}:qX8 ((l.map f).map V.t)=true:=by
 simp only[qX8,all_eq_true];intro x hx;simp only[map_map,mem_map,Function.comp] at hx;obtain⟨a,_,rfl⟩:=hx;exact h a
theorem jNz {l:List UInt8}:qX8 ((l.map qA).map V.t)=true:=zDr (f:=qA) (fun _=>rfl)
theorem jN0 {l:List UInt32}:qX8 ((l.map jC).map V.t)=true:=zDr (f:=jC) (fun _=>rfl)
theorem zP9 {k:IntKind}{n:Int}:(V.t (T.int k n)).single=true:=Eq.trans (Eq.refl _) rfl
theorem zK2 {n:UInt8}:(V.t (qA n)).single=true:=Eq.trans (Eq.refl _) rfl
theorem zQe {n:UInt32}:(V.t (jC n)).single=true:=Eq.trans (Eq.refl _) rfl
theorem zK1 {n:Bool}:(V.t (T.bool n)).single=true:=Eq.trans (Eq.refl _) rfl
theorem zQc {n:ByteArray}:(V.t (T.str n)).single=true:=Eq.trans (Eq.refl _) rfl
theorem zQd {n:List T}:(V.t (T.sl n)).single=true:=Eq.trans (Eq.refl _) rfl
theorem zK4 {n:List T}:(V.t (T.agg n)).single=false:=Eq.trans (Eq.refl _) rfl
theorem zP8 {n:List V}:(V.agg n).single=false:=Eq.trans (Eq.refl _) rfl
theorem zV3 {i j k:Nat}:(V.sl i j k).single=true:=Eq.trans (Eq.refl _) rfl
theorem zQb {i j k:Nat}:(V.ref i j k).single=true:=Eq.trans (Eq.refl _) rfl
theorem zV1 {g i j k:Nat}:(V.bd g i j k).single=true:=Eq.trans (Eq.refl _) rfl
theorem zV2:V.bq.single=true:=Eq.trans (Eq.refl _) rfl
attribute [go_sem] zV2
attribute [go_sem] zV1
theorem zQa:V.nil.single=true:=Eq.trans (Eq.refl _) rfl
theorem zQf {n b:Nat}:qEd n b=(n≤9223372036854775807∧n*b≤140737488355328):=Eq.trans (Eq.refl _) rfl
theorem yC6 {l:List UInt8}{i:Nat}(h:i<l.length):l[i]?=some (l.getD i 0):=by simp[List.getD,h]
theorem jTq {l:List UInt32}{i:Nat}(h:i<l.length):l[i]?=some (l.getD i 0):=by simp[List.getD,h]
theorem jNo {a b:Nat}:(a:Int)+(b:Int)=((a+b:Nat):Int):=rfl
theorem jHc {a n:Nat}:(a:Int)+(no_index (@OfNat.ofNat Int n _))=((a + @OfNat.ofNat Nat n (instOfNatNat n):Nat):Int):=rfl
theorem zZp {a n:Nat}:(no_index (@OfNat.ofNat Int n _))+(a:Int)=((@OfNat.ofNat Nat n (instOfNatNat n)+a:Nat):Int):=rfl
theorem jNq {a b:Nat}:(a:Int)*(b:Int)=((a*b:Nat):Int):=rfl
theorem jHe {a n:Nat}:(no_index (@OfNat.ofNat Int n _))*(a:Int)=((@OfNat.ofNat Nat n (instOfNatNat n)*a:Nat):Int):=rfl
theorem jHg {a n:Nat}:(a:Int)*(no_index (@OfNat.ofNat Int n _))=((a * @OfNat.ofNat Nat n (instOfNatNat n):Nat):Int):=rfl
theorem jHj {a n:Nat}:(a:Int).tmod (no_index (@OfNat.ofNat Int n _))=((a % @OfNat.ofNat Nat n (instOfNatNat n):Nat):Int):=rfl
theorem jHi {a n:Nat}:(a:Int).tdiv (no_index (@OfNat.ofNat Int n _))=((a / @OfNat.ofNat Nat n (instOfNatNat n):Nat):Int):=rfl
theorem jHd {a n:Nat}:(a:Int).fdiv (no_index (@OfNat.ofNat Int n _))=((a / @OfNat.ofNat Nat n (instOfNatNat n):Nat):Int):=by
 rw[Int.fdiv_eq_ediv_of_nonneg _ (by exact Int.natCast_nonneg n)];rfl
theorem jNr {a b:Nat}(h:b≤a):(a:Int)-(b:Int)=((a-b:Nat):Int):=oM
theorem jHh {a n:Nat}(h : @OfNat.ofNat Nat n (instOfNatNat n)≤a):(a:Int)-(no_index (@OfNat.ofNat Int n _))=((a - @OfNat.ofNat Nat n (instOfNatNat n):Nat):Int):=by
 have:(@OfNat.ofNat Int n _:Int)=((@OfNat.ofNat Nat n (instOfNatNat n):Nat):Int):=rfl;rw[this];omega
theorem jHf {a n:Nat}(h:a ≤ @OfNat.ofNat Nat n (instOfNatNat n)):(no_index (@OfNat.ofNat Int n _))-(a:Int)=((@OfNat.ofNat Nat n (instOfNatNat n)-a:Nat):Int):=by
 have:(@OfNat.ofNat Int n _:Int)=((@OfNat.ofNat Nat n (instOfNatNat n):Nat):Int):=rfl;rw[this];omega
theorem jNp {n:Nat}:(no_index (@OfNat.ofNat Int n _)).toNat = @OfNat.ofNat Nat n (instOfNatNat n):=rfl
attribute [go_sem] zZ1 zUg zZz jNz jN0 zP9 zK2 zQe zK1 zQc zQd zK4 zP8 zV3 zQb zQa
attribute [go_sem] zO7 zD9 zD8 zPa zSy zPb zJ2 zSw zO9
attribute [go_sem] yDv yDw yDx yDy yDz yD0 yD1 yD2 yD3 drop_replicate jGm zSs zYd jWq jJ9 jCo jA2 jOt jCn zWu jRx jRy zQf jUn jUm jUo
attribute [go_sem] idxOf_cons idxOf_nil cond_true cond_false Ob.live.injEq
theorem yEl {n:Int}(h : -9223372036854775808≤n∧n<9223372036854775808):IntKind.i64.wrap n=n:=qC5 h
theorem yEn {n:Int}(h:0≤n∧n<18446744073709551616):IntKind.u64.wrap n=n:=qJ4 h
theorem yEm {n:Int}(h:0≤n∧n<4294967296):IntKind.u32.wrap n=n:=zL9 h
theorem jPi {a:Nat}{k k':IntKind}{b:Int}(h:0≤b∧b≤64)(hk:k.bits=64):qNf .shr k (a:Int) k' b=some (.int k ((a/2^b.toNat:Nat):Int)):=by
 change (if b<0 then none else some (T.int k ((a:Int).fdiv (2^min b.toNat k.bits))))=_;rw[if_neg oM,hk,show min b.toNat 64=b.toNat by omega,Int.fdiv_eq_ediv_of_nonneg _ (Int.pow_nonneg oM)]
 norm_cast
theorem jI8 {a:Nat}{k':IntKind}{b:Int}(h:0≤b∧b≤64):qNf .shr .u64 (a:Int) k' b=some (.int .u64 ((a/2^b.toNat:Nat):Int)):=jPi h rfl
theorem zK0 {a:Nat}{k':IntKind}{b:Int}(h:0≤b∧b≤64):qNf .shr .i64 (a:Int) k' b=some (.int .i64 ((a/2^b.toNat:Nat):Int)):=jPi h rfl
theorem jP2 {m:Nat}:T.int .u8 (IntKind.u8.wrap (m:Int))=qA (UInt8.ofNat m):=by
 unfold qA;congr 1
attribute [go_sem ↓] jI8 zK0
end Go.Eng
end
section
namespace Go.Eng
open List
structure Ct where
 α:Type
 aS:α→List V
 ins:α→List Ob
 pre:α→Prop
 r:α→V
 outs:α→List Ob
 inj : ∀ x y,aS x=aS y→ins x=ins y→r x=r y∧outs x=outs y
open Classical in
noncomputable def Ct.fs (c:Ct):FnS:=fun aS ins=>if h : ∃ x,(c.aS x=aS∧c.ins x=ins)∧c.pre x then some (c.r h.choose,c.outs h.choose) else none
theorem Ct.eq (c:Ct)(x:c.α)(h:c.pre x):c.fs (c.aS x) (c.ins x)=some (c.r x,c.outs x):=by
 have hx : ∃ y,(c.aS y=c.aS x∧c.ins y=c.ins x)∧c.pre y:=⟨x,⟨rfl,rfl⟩,h⟩;unfold Ct.fs;rw[dif_pos hx];obtain⟨h1,h2⟩:=c.inj _ _ hx.choose_spec.1.1 hx.choose_spec.1.2;rw[h1,h2]
theorem Ct.ok {P:Program}{G:Nat→Option (List T)}{f:FuncId}(c:Ct)(hc : ∀ args w,(callFunc f args).run P w = .ok (.enter f args) w)(h : ∀ x,c.pre x→zMa P G f (c.aS x) (c.ins x) (c.r x) (c.outs x)):FOk P G f c.fs:=by
 refine FOk.of hc (fun aS ins r outs hs=>?_);unfold Ct.fs at hs;split at hs
 ·rename_i hx;cases hs;have h1:=hx.choose_spec;generalize hx.choose=y at h1 ⊢;obtain⟨⟨rfl,rfl⟩,h3⟩:=h1;exact h y h3
 ·cases hs
theorem zF4 {a b:UInt8}(h:qA a=qA b):a=b:=by
 have:=congrArg d8 h;rw[zJv,zJv] at this;exact Option.some.inj this
theorem zOr {a b:UInt32}(h:jC a=jC b):a=b:=by
 have:=congrArg d32 h;rw[zSf,zSf] at this;exact Option.some.inj this
theorem qB8 {α γ:Type}{f:α→γ}(hf : ∀ a b,f a=f b→a=b) : ∀ {l m:List α},l.map f=m.map f→l=m
 | [],[],_=>rfl
 | [],_::_,h=>by simp at h
 | _::_,[],h=>by simp at h
 | a::l,b::m,h=>by
  simp only[map_cons,List.cons.injEq] at h;rw[hf _ _ h.1,qB8 hf h.2]
theorem zN {l m:List UInt8}:(l.map qA=m.map qA)=(l=m):=propext ⟨qB8 (fun _ _=>zF4),fun h=>by rw[h]⟩
theorem zNp {l m:List UInt32}:(l.map jC=m.map jC)=(l=m):=propext ⟨qB8 (fun _ _=>zOr),fun h=>by rw[h]⟩
theorem zZm {l m:List T}:(l.map V.t=m.map V.t)=(l=m):=propext ⟨qB8 (fun _ _ h=>V.t.inj h),fun h=>by rw[h]⟩
theorem qRi {a b:UInt8}:(qA a=qA b)=(a=b):=propext ⟨zF4,fun h=>by rw[h]⟩
theorem zEf {a b:UInt32}:(jC a=jC b)=(a=b):=propext ⟨zOr,fun h=>by rw[h]⟩
theorem jU5 {x:UInt32}{k:IntKind}{n:Nat}:qKb .shl (jC x) (.int k (no_index (@OfNat.ofNat Int n _)))=if n<32 then some (jC (x <<< UInt32.ofNat n)) else qKb .shl (jC x) (.int k (n:Int)):=by
 split
 ·exact qXl (by assumption)
 ·rfl
theorem jU6 {x:UInt32}{k:IntKind}{n:Nat}:qKb .shr (jC x) (.int k (no_index (@OfNat.ofNat Int n _)))=if n<32 then some (jC (x >>> UInt32.ofNat n)) else qKb .shr (jC x) (.int k (n:Int)):=by
 split
 ·exact qXm (by assumption)
 ·rfl
theorem jPf {x:UInt32}{k:IntKind}{n:Nat}(h:n<32):qKb .shl (jC x) (.int k (n:Int))=some (jC (x <<< UInt32.ofNat n)):=qXl h
theorem jPh {x:UInt32}{k:IntKind}{n:Nat}(h:n<32):qKb .shr (jC x) (.int k (n:Int))=some (jC (x >>> UInt32.ofNat n)):=qXm h
theorem qEe {α:Type}{l:List α}{k:Nat}{d:α}(h:k<l.length):l.take (k+1)=l.take k++[l.getD k d]:=by
 rw[take_add_one];simp[List.getD,h]
theorem jD8 {x:Int}{m:Nat}(h:m≤64):(BitVec.ofInt 64 x &&& BitVec.ofInt 64 ((2^m-1:Nat):Int)).toNat=(x%((2^m:Nat):Int)).toNat:=by
 have h0:1≤2^m:=Nat.one_le_two_pow;have h2:2^m≤2^64:=Nat.pow_le_pow_right (n:=2) oM h;rw[BitVec.toNat_and,BitVec.toNat_ofInt,BitVec.toNat_ofInt];have h1:(((2^m-1:Nat):Int)%((2^64:Nat):Int)).toNat=2^m-1:=by
  rw[Int.emod_eq_of_lt oM oM];simp
 rw[h1,Nat.and_two_pow_sub_one_eq_mod];have hd:((2^m:Nat):Int) ∣ ((2^64:Nat):Int):=Int.natCast_dvd_natCast.2 (Nat.pow_dvd_pow 2 h);have e:x%((2^64:Nat):Int)%((2^m:Nat):Int)=x%((2^m:Nat):Int):=Int.emod_emod_of_dvd x hd;rw[←e];have hx0:0≤x%((2^64:Nat):Int):=Int.emod_nonneg _ oM;generalize x%((2^64:Nat):Int)=y at hx0;obtain⟨z,rfl⟩:=Int.eq_ofNat_of_zero_le hx0;rw[←Int.natCast_emod,Int.toNat_natCast,Int.toNat_natCast]
theorem zCr {x:Int}{m:Nat}(h:m≤63):IntKind.i64.wrap ((BitVec.ofInt 64 x &&& BitVec.ofInt 64 ((2^m-1:Nat):Int)).toNat:Int)=x%((2^m:Nat):Int):=by
 rw[jD8 oM];have h0:1≤2^m:=Nat.one_le_two_pow;have h2:2^m≤2^63:=Nat.pow_le_pow_right (n:=2) oM h;have h3:=Int.emod_nonneg x (b:=((2^m:Nat):Int)) oM;have h4:=Int.emod_lt_of_pos x (b:=((2^m:Nat):Int)) oM;rw[qC5 oM];omega
theorem yB0 {x:Int}:qNf .and .i64 x .i64 1=some (.int .i64 (x%2)):=by
 have h := @zCr x 1 oM;rw[show ((2^1-1:Nat):Int)=1 from rfl,show ((2^1:Nat):Int)=2 from rfl] at h;have h2:=congrArg (fun z=>some (T.int IntKind.i64 z)) h;exact h2
theorem yCs {x:Int}:qNf .and .i64 x .i64 3=some (.int .i64 (x%4)):=by
 have h := @zCr x 2 oM;rw[show ((2^2-1:Nat):Int)=3 from rfl,show ((2^2:Nat):Int)=4 from rfl] at h;have h2:=congrArg (fun z=>some (T.int IntKind.i64 z)) h;exact h2
theorem jSq {x:Int}:qNf .and .i64 x .i64 15=some (.int .i64 (x%16)):=by
 have h := @zCr x 4 oM;rw[show ((2^4-1:Nat):Int)=15 from rfl,show ((2^4:Nat):Int)=16 from rfl] at h;have h2:=congrArg (fun z=>some (T.int IntKind.i64 z)) h;exact h2
theorem zXe {x:Int}:qNf .and .i64 x .i64 65535=some (.int .i64 (x%65536)):=by
 have h := @zCr x 16 oM;rw[show ((2^16-1:Nat):Int)=65535 from rfl,show ((2^16:Nat):Int)=65536 from rfl] at h;have h2:=congrArg (fun z=>some (T.int IntKind.i64 z)) h;exact h2
theorem jKy {x:Int}:qNf .and .u64 x .u64 31=some (.int .u64 (x%32)):=by
 have h := @jD8 x 5 oM;rw[show ((2^5-1:Nat):Int)=31 from rfl,show ((2^5:Nat):Int)=32 from rfl] at h;have h2:IntKind.u64.wrap ((BitVec.ofInt 64 x &&& BitVec.ofInt 64 31).toNat:Int)=x%32:=by
  rw[h,qW6];omega
 have h3:=congrArg (fun z=>some (T.int IntKind.u64 z)) h2;exact h3
theorem zS6 {z:Nat}{es:List V}{wr full:Bool}:(Ob.live z es wr full).flat=qQi es:=Eq.trans (Eq.refl _) rfl
theorem zS3:qQi []=true:=Eq.trans (Eq.refl _) rfl
theorem zB2 {c:V}{r:List V}:qQi (c::r)=(c.flat&&qQi r):=Eq.trans (Eq.refl _) rfl
theorem zS2:qVm []=true:=Eq.trans (Eq.refl _) rfl
theorem qM8 {c:T}{r:List T}:qVm (c::r)=(c.flat&&qVm r):=Eq.trans (Eq.refl _) rfl
theorem jGv {ts:List T}:qQi (ts.map .t)=qVm ts:=by
 induction ts with
 | nil=>rfl
 | cons x r ih=>rw[map_cons,zB2,ih,qM8];rfl
theorem jGt {l:List UInt8}:qVm (l.map qA)=true:=by
 induction l with
 | nil=>rfl
 | cons x r ih=>rw[map_cons,qM8,ih];rfl
theorem jGu {l:List UInt32}:qVm (l.map jC)=true:=by
 induction l with
 | nil=>rfl
 | cons x r ih=>rw[map_cons,qM8,ih];rfl
theorem zYn {i j k:Nat}:(V.sl i j k).flat=true:=Eq.trans (Eq.refl _) rfl
theorem zTb {i j k:Nat}:(V.ref i j k).flat=true:=Eq.trans (Eq.refl _) rfl
theorem zYl {g i j k:Nat}:(V.bd g i j k).flat=true:=Eq.trans (Eq.refl _) rfl
theorem zYm:V.bq.flat=true:=Eq.trans (Eq.refl _) rfl
attribute [go_sem] zYm
attribute [go_sem] zYl
theorem zTa:V.nil.flat=true:=Eq.trans (Eq.refl _) rfl
theorem zS9 {cs:List V}:(V.agg cs).flat=qQi cs:=Eq.trans (Eq.refl _) rfl
theorem zTc {cs:List V}:(V.tup cs).flat=qQi cs:=Eq.trans (Eq.refl _) rfl
theorem zYi {cs:List T}:(T.sl cs).flat=cs.isEmpty:=Eq.trans (Eq.refl _) rfl
theorem zS8 {cs:List T}:(T.agg cs).flat=qVm cs:=Eq.trans (Eq.refl _) rfl
attribute [go_sem] zS6 zS3 zB2 zS2 qM8 jGv jGt jGu zYn zTb zTa zS9 zTc zYi zS8 isEmpty_nil isEmpty_cons
attribute [go_sem ↓] jKy
attribute [go_sem ↓] yB0 yCs jSq zXe
attribute [go_sem] jU5 jU6 jPf jPh qRi zEf
abbrev LkC (tab:Tab)(n:Nat)(c:Ct):Prop:=tab.look n=some c.fs
end Go.Eng
end
section
namespace Go.Eng
open List
variable {tab:Tab} {gl:Gl} {fs:Fs} {hs:Hs} {Qx:qHw}
def upP (n:Nat)(P:Nat→Prop)(fI:Nat→Fs)(hI:Nat→Hs)(i:Nat)(Qx:qHw):qHw:=fun e fs' hs'=>match e with | .normal=>i<n∧P (i+1)∧qJ fs' hs' (fI (i+1)) (hI (i+1)) | e=>Qx e fs' hs'
theorem zQq {n:Nat}{P:Nat→Prop}{fI:Nat→Fs}{hI:Nat→Hs}{i:Nat}:upP n P fI hI i Qx .normal fs hs=(i<n∧P (i+1)∧qJ fs hs (fI (i+1)) (hI (i+1))):=Eq.trans (Eq.refl _) rfl
theorem jB5 {n:Nat}{P:Nat→Prop}{fI:Nat→Fs}{hI:Nat→Hs}{i id:Nat}:upP n P fI hI i Qx (.exit id) fs hs=Qx (.exit id) fs hs:=Eq.trans (Eq.refl _) rfl
theorem jJo {n:Nat}{P:Nat→Prop}{fI:Nat→Fs}{hI:Nat→Hs}{i:Nat}:upP n P fI hI i Qx .ret fs hs=Qx .ret fs hs:=Eq.trans (Eq.refl _) rfl
attribute [go_sem] zQq jB5 jJo
theorem qTx {a:AC}(n:Nat)(P:Nat→Prop)(fI:Nat→Fs)(hI:Nat→Hs)(hP:P 0)(h0:qJ fs hs (fI 0) (hI 0))(h : ∀ i,i≤n→P i→a.wp tab gl (fI i) (hI i) (upP n P fI hI i Qx)):qZ6 tab gl a fs hs Qx:=by
 refine qMu (ι := { i:Nat // i≤n∧P i }) (fun i=>(fI i.1,hI i.1)) (fun i=>n-i.1) ⟨0,Nat.zero_le _,hP⟩ h0 (fun i=>?_);refine jD (fun e f g hq=>?_) (h i.1 i.2.1 i.2.2);cases e with
 | normal=>exact⟨⟨i.1+1,hq.1,hq.2.1⟩,by simp only;have:=hq.1;omega,hq.2.2⟩
 | exit id=>exact hq
 | ret=>exact hq
theorem jBv {a:Nat}{k':IntKind}{b:Int}(h:0≤b∧b≤32):qNf .shr .u32 (a:Int) k' b=some (.int .u32 ((a/2^b.toNat:Nat):Int)):=by
 change (if b<0 then none else some (T.int .u32 ((a:Int).fdiv (2^min b.toNat 32))))=_;rw[if_neg oM,show min b.toNat 32=b.toNat by omega,Int.fdiv_eq_ediv_of_nonneg _ (Int.pow_nonneg oM)]
 norm_cast
attribute [go_sem ↓] jBv
theorem zMm {a b:UInt8}:((a.toNat:Int)==(b.toNat:Int))=decide (a=b):=by
 by_cases h:a=b
 ·subst h;simp
 ·have : ¬ ((a.toNat:Int)=b.toNat):=fun e=>h (UInt8.toNat_inj.1 oM)
  simp[h,this]
theorem zXm {a b:UInt8}:qKb .eql (qA a) (qA b)=some (.bool (decide (a=b))):=by
 change some (T.bool ((a.toNat:Int)==(b.toNat:Int)))=_;rw[zMm]
theorem zXr {a b:UInt8}:qKb .neq (qA a) (qA b)=some (.bool (!decide (a=b))):=by
 change some (T.bool (!((a.toNat:Int)==(b.toNat:Int))))=_;rw[zMm]
theorem zXq {a b:UInt8}:qKb .lss (qA a) (qA b)=some (.bool (decide (a.toNat<b.toNat))):=by
 change some (T.bool (decide ((a.toNat:Int)<(b.toNat:Int))))=_;congr 2;simp
theorem zXo {a b:UInt8}:qKb .gtr (qA a) (qA b)=some (.bool (decide (a.toNat>b.toNat))):=by
 change some (T.bool (decide ((a.toNat:Int)>(b.toNat:Int))))=_;congr 2;simp
theorem zXp {a b:UInt8}:qKb .leq (qA a) (qA b)=some (.bool (decide (a.toNat≤b.toNat))):=by
 change some (T.bool (decide ((a.toNat:Int)≤(b.toNat:Int))))=_;congr 2;simp
theorem zXn {a b:UInt8}:qKb .geq (qA a) (qA b)=some (.bool (decide (a.toNat ≥ b.toNat))):=by
 change some (T.bool (decide ((a.toNat:Int) ≥ (b.toNat:Int))))=_;congr 2;simp
theorem zRy {a b:UInt8}:qKb .xor (qA a) (qA b)=some (qA (a ^^^ b)):=by
 change some (T.int .u8 (IntKind.u8.wrap ((BitVec.ofInt 8 (a.toNat:Int) ^^^ BitVec.ofInt 8 (b.toNat:Int)).toNat:Int)))=_;have e : ∀ x:UInt8,BitVec.ofInt 8 (x.toNat:Int)=x.toBitVec:=fun x=>BitVec.eq_of_toNat_eq sM
 rw[e,e,←UInt8.toBitVec_xor,qRf];have:=(a ^^^ b).toNat_lt;unfold qA;rw[UInt8.toNat_toBitVec];congr 2;omega
attribute [go_sem ↓] zXm zXr zXq zXo zXp zXn zRy
attribute [go_sem] UInt8.reduceToNat
theorem zC2 {b:UInt8}:qJw .u64 [.t (qA b)] = .ret (.t (.int .u64 (b.toNat:Int)),[]):=by
 change Q.ret (V.t (.int .u64 (IntKind.u64.wrap (b.toNat:Int))),([]:Wr))=_;have:=b.toNat_lt;rw[qJ4 oM]
theorem zC0 {b:UInt8}:qJw .i64 [.t (qA b)] = .ret (.t (.int .i64 (b.toNat:Int)),[]):=by
 change Q.ret (V.t (.int .i64 (IntKind.i64.wrap (b.toNat:Int))),([]:Wr))=_;have:=b.toNat_lt;rw[qC5 oM]
theorem jBu {a:Nat}{k':IntKind}(h:a<72057594037927936):qNf .shl .u64 (a:Int) k' 8=some (.int .u64 ((256*a:Nat):Int)):=by
 change (if (8:Int)<0 then none else some (T.int .u64 (IntKind.u64.wrap ((a:Int)*2^min (8:Int).toNat 64))))=_;rw[if_neg oM,show (a:Int)*2^min (8:Int).toNat 64=((256*a:Nat):Int) by
  rw[show min (8:Int).toNat 64=8 from rfl];omega,qJ4 oM]
theorem or8 {a x:Nat}(hx:x<256):(256*a) ||| x=256*a+x:=by
 have:=Nat.shiftLeft_add_eq_or_of_lt (i:=8) (b:=x) oM a;rw[Nat.shiftLeft_eq] at this;rw[Nat.mul_comm];exact this.symm
theorem jHo {a:Nat}{x:UInt8}(h:a<72057594037927936):qNf .or .u64 ((256*a:Nat):Int) .u64 (x.toNat:Int)=some (.int .u64 ((256*a+x.toNat:Nat):Int)):=by
 have hx:=x.toNat_lt;change some (T.int .u64 (IntKind.u64.wrap ((BitVec.ofInt 64 ((256*a:Nat):Int) ||| BitVec.ofInt 64 (x.toNat:Int)).toNat:Int)))=_;have e:(BitVec.ofInt 64 ((256*a:Nat):Int) ||| BitVec.ofInt 64 (x.toNat:Int)).toNat=256*a+x.toNat:=by
  rw[BitVec.toNat_or,BitVec.toNat_ofInt,BitVec.toNat_ofInt,Int.emod_eq_of_lt oM oM,Int.emod_eq_of_lt oM oM,Int.toNat_natCast,Int.toNat_natCast,or8 oM]
 rw[e,qJ4 oM]
attribute [go_sem ↓] zC2 zC0 jBu jHo
theorem qI {bs:List UInt8}:bsT bs = .sl (bs.map qA):=Eq.trans (Eq.refl _) rfl
theorem yC8 {l:List (List UInt8)}{i:Nat}(h:i<l.length):l[i]?=some (l.getD i []):=by simp[List.getD,h]
theorem yC7 {l:List (List (List UInt8))}{i:Nat}(h:i<l.length):l[i]?=some (l.getD i []):=by simp[List.getD,h]
theorem zJm {l:List (List UInt8)}{x:List UInt8}{r:List T}:List.map bsT l++T.sl (List.map qA x)::r=List.map bsT (l++[x])++r:=by simp[bsT]
theorem jJ8 {l:List (List UInt8)}:zBn 1 (l.map bsT)=true:=zFq (f:=bsT) (fun _=>rfl)
theorem zUf {l:List (List UInt8)}:qX8 ((l.map bsT).map V.t)=true:=zDr (f:=bsT) (fun _=>rfl)
theorem jF5 {a b:List UInt8}(h:bsT a=bsT b):a=b:=by
 have:=congrArg dBs h;rw[bsT,bsT,zGj,zGj] at this;exact Option.some.inj this
theorem qDg {l m:List (List UInt8)}:(l.map bsT=m.map bsT)=(l=m):=propext ⟨qB8 (fun _ _=>jF5),fun h=>by rw[h]⟩
theorem zXb {ts:List T}{r:List V}:qF4 (ts.map .t++r)=(qF4 r).map (ts ++ ·):=by
 induction ts with
 | nil=>simp[Option.map_id']
 | cons x l ih=>
  rw[map_cons,cons_append,qXf,ih,Option.map_map];rfl
attribute [go_sem] zXb
attribute [go_sem] qI zJm jJ8 zUf
end Go.Eng
end
section
namespace Go.Eng
open List
theorem zMc {ts:List T}{i:Nat}{v:V}(h:i<ts.length)(hv : ∀ x,v≠ .t x):qF4 ((ts.map .t).set i v)=none:=by
 induction ts generalizing i with
 | nil=>simp at h
 | cons x r ih=>
  cases i with
  | zero=>
   rw[map_cons,set_cons_zero];cases v with
   | t y=>exact absurd rfl (hv y)
   | _=>rfl
  | succ i=>
   rw[map_cons,set_cons_succ,qXf,ih (by simpa using h)];rfl
theorem zJe {ts:List T}{i id off len:Nat}(h:i<ts.length):qF4 ((ts.map .t).set i (.sl id off len))=none:=zMc h sM
theorem zFy {ts:List T}{i:Nat}{cs:List V}(h:i<ts.length):qF4 ((ts.map .t).set i (.agg cs))=none:=zMc h sM
theorem jH2 {n:Nat}{ts:List T}{i:Nat}{v:V}(h:i<ts.length):rdL (rdV n) ((ts.map .t).set i v)=(rdV n v).bind fun x=> .ret ((ts.map .t).set i x):=by
 induction ts generalizing i with
 | nil=>simp at h
 | cons x r ih=>
  cases i with
  | zero=>rw[map_cons,set_cons_zero,zDx,jOe];rfl
  | succ i=>
   rw[map_cons,set_cons_succ,zDx,jH7,ih (by simpa using h),qWm,qGf];rfl
theorem zSc {n:Nat}{ts:List T}:qFn (zO n) (ts.map .t) = .ret (ts.map .t,[]):=by
 induction ts with
 | nil=>rfl
 | cons x r ih=>rw[map_cons,qM4,zSd,qWm,ih,qWm];rfl
theorem zSb {n:Nat}{ts:List T}{i:Nat}{v:V}(h:i<ts.length):qFn (zO n) ((ts.map .t).set i v)=(zO n v).bind fun p=> .ret ((ts.map .t).set i p.1,p.2):=by
 induction ts generalizing i with
 | nil=>simp at h
 | cons x r ih=>
  cases i with
  | zero=>
   rw[map_cons,set_cons_zero,qM4,zSc];simp[Q.bind]
  | succ i=>
   rw[map_cons,set_cons_succ,qM4,zSd,qWm,ih (by simpa using h),qGf];rfl
theorem zZ2 {es:List V}{i:Nat}{v:V}(h:qX8 es=true)(hv:v.single=true):qX8 (es.set i v)=true:=by
 simp only[qX8,all_eq_true] at *;intro x hx;rcases mem_or_eq_of_mem_set hx with h1 | rfl
 ·exact h x h1
 ·exact hv
theorem zKo {l:List (List UInt8)}{i id off len:Nat}:qX8 (((l.map bsT).map V.t).set i (.sl id off len))=true:=zZ2 zUf rfl
theorem jLa {l:List (List UInt8)}{i:Nat}{x:List UInt8}:List.set (List.map bsT l) i (T.sl (List.map qA x))=List.map bsT (l.set i x):=by
 rw[map_set];rfl
attribute [go_sem] zJe zFy jH2 zSc zSb zKo jLa
theorem wI {tab:Tab}{gl:Gl}{a:AC}{fs fs':Fs}{hs hs':Hs}{Qx:qHw}(h:qJ fs hs fs' hs')(hl:qZ6 tab gl a fs' hs' Qx):qZ6 tab gl a fs hs Qx:=by
 obtain⟨ι,I,μ,i0,h0,hr⟩:=hl;exact⟨ι,I,μ,i0,h.trans h0,hr⟩
end Go.Eng
end
section
set_option maxRecDepth 20000
namespace Go.Eng
open List
open Go.MuLone
theorem yEj {P:Program}{G:Gl}{tab:Tab}{f:FuncId}{fn:Func}{c:Code}{ac:AC}{hints:List (Nat×List Nat)}{rs:List (Nat×Option (Nat×Bool))}(hf:P.funcs[f]?=some fn)(hname:(fn.name == "runtime.NumGoroutine")=false)(hb:fn.body=some c)(hann:ann P fn.ntmps hints c=some ac)(hmx:P.follows .mixedOrders=true)
  (ht:qCc P G tab) (hrs:qNk P fn.results.toList=some rs) (ct:Ct) (hn : ∀ x,(ct.aS x).length≤fn.ntmps) (hi : ∀ x,(ct.ins x).length≤100)
  (h : ∀ x,ct.pre x→ac.wp tab G (qE 0 (ct.aS x)) (qE 0 (ct.ins x)) (qV rs (ct.ins x).length (fun r' o'=>r'=ct.r x∧o'=ct.outs x))):FOk P G f ct.fs:=
 ct.ok (fun args w=>run_callFunc_enter hf hname hb args w) (fun x hx=>zK6 hf hb hann hmx ht hrs (hn x) (hi x) (h x hx))
theorem yEg {P:Program}{G:Gl}{tab:Tab}{f:FuncId}{fn:Func}{c:Code}{ac:AC}{hints:List (Nat×List Nat)}{rs:List (Nat×Option (Nat×Bool))}(fz:List Nat)(hf:P.funcs[f]?=some fn)(hname:(fn.name == "runtime.NumGoroutine")=false)(hb:fn.body=some c)(hann:ann P fn.ntmps hints c=some ac)(hmx:P.follows .mixedOrders=true)
  (ht:qCc P G tab) (hrs:qNk P fn.results.toList=some rs) (ct:Ct) (hn : ∀ x,(ct.aS x).length≤fn.ntmps) (hi : ∀ x,(ct.ins x).length≤100)
  (h : ∀ x,ct.pre x→ac.wp tab G (qE 0 (ct.aS x)) (qE 0 (ct.ins x)) (kG fz rs (ct.ins x).length (fun r' o'=>r'=ct.r x∧o'=ct.outs x))):FOk P G f ct.fs:=
 ct.ok (fun args w=>run_callFunc_enter hf hname hb args w) (fun x hx=>zH0 fz hf hb hann hmx ht hrs (hn x) (hi x) (h x hx))
theorem yEh {P:Program}{G:Gl}{tab:Tab}{f:FuncId}{fn:Func}{c:Code}{ac:AC}{hints:List (Nat×List Nat)}{rs:List (Nat×Option (Nat×Bool))}(hf:P.funcs[f]?=some fn)(hb:fn.body=some c)(hann:ann P fn.ntmps hints c=some ac)(hmx:P.follows .mixedOrders=true)
  (ht:qCc P G tab) (hrs:qNk P fn.results.toList=some rs) {aS:List V} (hn:aS.length≤fn.ntmps)
  (h:ac.wp tab G (qE 0 aS) (qE 0 []) (qV rs 0 (fun r o=>r = .t (.bool true)∧o=[]))):zMa P G f aS [] (.t (.bool true)) []:=
 zK6 hf hb hann hmx ht hrs hn (Nat.zero_le _) h
theorem jVh {P:Program}{G:Gl}{tab:Tab}{f:FuncId}(fn:Func)(hints:List (Nat×List Nat))(ac:AC)(rs:List (Nat×Option (Nat×Bool)))(ht:qCc P G tab){aS:List V}
  (h:ac.wp tab G (qE 0 aS) (qE 0 []) (qV rs 0 (fun r o=>r = .t (.bool true)∧o=[])))
  (hf:P.funcs[f]?=some fn:=by kernel_rfl) (hb:fn.body=some (fn.body.getD .skip):=by kernel_rfl) (hann:ann P fn.ntmps hints (fn.body.getD .skip)=some ac:=by kernel_rfl) (hmx:P.follows .mixedOrders=true:=by kernel_rfl)
  (hrs:qNk P fn.results.toList=some rs:=by kernel_rfl) (hn:aS.length≤fn.ntmps:=by exact Nat.le_of_ble_eq_true (by kernel_rfl)):zMa P G f aS [] (.t (.bool true)) []:=yEh hf hb hann hmx ht hrs hn h
end Go.Eng
end
section
set_option maxRecDepth 20000
namespace Go.Eng
open List
open Go.MuLone
structure ECt where
 α:Type
 β:Type
 d:β:=by exact default
 aS:α→List V
 ins:α→List Ob:=fun _=>[]
 pre:α→Prop
 r:β→V
 outs:β→List Ob:=fun _=>[]
 R:α→β→Prop
 inj : ∀ x y,aS x=aS y→ins x=ins y→x=y:=by simp only[Prod.forall,qBk,qM7,Prod.mk.injEq];intros;assumption
structure EF (E:ECt) where
 F:E.α→E.β
 ok : ∀ x,E.pre x→E.R x (F x)
def ECt.ct (E:ECt)(G:EF E):Ct:=⟨E.α,E.aS,E.ins,E.pre,fun x=>E.r (G.F x),fun x=>E.outs (G.F x),fun x y h h'=>by rw[E.inj x y h h'];exact⟨rfl,rfl⟩⟩
noncomputable def ECt.fs (E:ECt)(G:EF E):FnS:=(E.ct G).fs
theorem ECt.eq (E:ECt)(G:EF E)(x:E.α)(h:E.pre x) : ∃ y,E.R x y∧E.fs G (E.aS x) (E.ins x)=some (E.r y,E.outs y):=⟨G.F x,G.ok x h,(E.ct G).eq x h⟩
theorem fnQ (E:ECt){g:EF E}(x:E.α)(h:E.pre x){e:E.β}(hr : ∀ y,E.R x y→y=e:=by exact fun _ h=>h):E.fs g (E.aS x) (E.ins x)=some (E.r e,E.outs e):=by
 obtain⟨y,h1,h2⟩:=E.eq g x h;cases hr y h1;exact h2
theorem EF.ok_of {P:Program}{G:Gl}{f:FuncId}(E:ECt)(hc : ∀ args w,(callFunc f args).run P w = .ok (.enter f args) w)
  (h : ∀ x,E.pre x → ∃ y,E.R x y∧zMa P G f (E.aS x) (E.ins x) (E.r y) (E.outs y)) : ∃ g:EF E,FOk P G f (E.fs g):=by
 classical
 refine⟨⟨fun x=>if hx:E.pre x then (h x hx).choose else E.d,fun x hx=>?_⟩,(E.ct _).ok hc (fun x hx=>?_)⟩
 ·simp only[dif_pos hx];exact (h x hx).choose_spec.1
 ·show zMa P G f (E.aS x) (E.ins x) (E.r _) (E.outs _);simp only[dif_pos (show E.pre x from hx)];exact (h x hx).choose_spec.2
def ECt.K (E:ECt)(x:E.α)(r:V)(o:List Ob):Prop := ∃ y,E.R x y∧r=E.r y∧o=E.outs y
theorem jIk {rs:List (Nat×Option (Nat×Bool))}{n:Nat}{κ:Type}{A:κ→V→List Ob→Prop}{e:AE}{fs:Fs}{hs:Hs}(h:qV rs n (fun r o => ∃ y,A y r o) e fs hs) : ∃ y,qV rs n (A y) e fs hs:=by
 cases e with
 | exit id=>exact h.elim
 | normal=>obtain⟨p,l,h1,y,h2⟩:=h;exact⟨y,p,l,h1,h2⟩
 | ret=>obtain⟨p,l,h1,y,h2⟩:=h;exact⟨y,p,l,h1,h2⟩
theorem jIj {fz:List Nat}{rs:List (Nat×Option (Nat×Bool))}{n:Nat}{κ:Type}{A:κ→V→List Ob→Prop}{e:AE}{fs:Fs}{hs:Hs}(h:kG fz rs n (fun r o => ∃ y,A y r o) e fs hs) : ∃ y,kG fz rs n (A y) e fs hs:=by
 cases e with
 | exit id=>exact h.elim
 | normal=>
  obtain⟨p,l,h1,p2,l2,h2,y,h3⟩:=h;exact⟨y,p,l,h1,p2,l2,h2,h3⟩
 | ret=>
  obtain⟨p,l,h1,p2,l2,h2,y,h3⟩:=h;exact⟨y,p,l,h1,p2,l2,h2,h3⟩
theorem jDn {α:Type}{R A:α→Prop}(h : ∃ y,R y∧A y) : ∃ z : { y // R y },A z.1:=let ⟨y,h1,h2⟩:=h;⟨⟨y,h1⟩,h2⟩
theorem jVf {P:Program}{G:Gl}{tab:Tab}{f:FuncId}(fn:Func)(hints:List (Nat×List Nat))(ac:AC)(rs:List (Nat×Option (Nat×Bool)))(ht:qCc P G tab)(E:ECt)
  (h : ∀ x,E.pre x→ac.wp tab G (qE 0 (E.aS x)) (qE 0 (E.ins x)) (qV rs (E.ins x).length (E.K x)))
  (hf:P.funcs[f]?=some fn:=by kernel_rfl) (hname:(fn.name == "runtime.NumGoroutine")=false:=by kernel_rfl) (hb:fn.body=some (fn.body.getD .skip):=by kernel_rfl) (hann:ann P fn.ntmps hints (fn.body.getD .skip)=some ac:=by kernel_rfl) (hmx:P.follows .mixedOrders=true:=by kernel_rfl)
  (hrs:qNk P fn.results.toList=some rs:=by kernel_rfl) (hst:ac.strict=true:=by kernel_rfl) (hn : ∀ x,(E.aS x).length≤fn.ntmps:=by exact fun _=>Nat.le_of_ble_eq_true (by kernel_rfl)) (hi : ∀ x,(E.ins x).length≤100:=by exact fun _=>Nat.le_of_ble_eq_true (by kernel_rfl)) : ∃ g:EF E,FOk P G f (E.fs g):=
 EF.ok_of E (fun args w=>run_callFunc_enter hf hname hb args w) (fun x hx=>by
  obtain⟨z,hz⟩:=zI2 (Q:=fun z : { y // E.R x y }=>qV rs (E.ins x).length (fun r o=>r=E.r z.1∧o=E.outs z.1)) hst (jD (fun e f g hq=>by
   obtain⟨y,hy⟩:=jIk hq;have : ∃ y,E.R x y∧qV rs (E.ins x).length (fun r o=>r=E.r y∧o=E.outs y) e f g:=by
    cases e with
    | exit id=>exact hy.elim
    | normal=>obtain⟨p,l,h1,h2,h3⟩:=hy;exact⟨y,h2,p,l,h1,h3⟩
    | ret=>obtain⟨p,l,h1,h2,h3⟩:=hy;exact⟨y,h2,p,l,h1,h3⟩
   exact jDn this) (h x hx))
  exact⟨z.1,z.2,zK6 hf hb hann hmx ht hrs (hn x) (hi x) hz⟩)
theorem jVg {P:Program}{G:Gl}{tab:Tab}{f:FuncId}(fz:List Nat)(fn:Func)(hints:List (Nat×List Nat))(ac:AC)(rs:List (Nat×Option (Nat×Bool)))(ht:qCc P G tab)(E:ECt)
  (h : ∀ x,E.pre x→ac.wp tab G (qE 0 (E.aS x)) (qE 0 (E.ins x)) (kG fz rs (E.ins x).length (E.K x)))
  (hf:P.funcs[f]?=some fn:=by kernel_rfl) (hname:(fn.name == "runtime.NumGoroutine")=false:=by kernel_rfl) (hb:fn.body=some (fn.body.getD .skip):=by kernel_rfl) (hann:ann P fn.ntmps hints (fn.body.getD .skip)=some ac:=by kernel_rfl) (hmx:P.follows .mixedOrders=true:=by kernel_rfl)
  (hrs:qNk P fn.results.toList=some rs:=by kernel_rfl) (hst:ac.strict=true:=by kernel_rfl) (hn : ∀ x,(E.aS x).length≤fn.ntmps:=by exact fun _=>Nat.le_of_ble_eq_true (by kernel_rfl)) (hi : ∀ x,(E.ins x).length≤100:=by exact fun _=>Nat.le_of_ble_eq_true (by kernel_rfl)) : ∃ g:EF E,FOk P G f (E.fs g):=
 EF.ok_of E (fun args w=>run_callFunc_enter hf hname hb args w) (fun x hx=>by
  obtain⟨z,hz⟩:=zI2 (Q:=fun z : { y // E.R x y }=>kG fz rs (E.ins x).length (fun r o=>r=E.r z.1∧o=E.outs z.1)) hst (jD (fun e f g hq=>by
   obtain⟨y,hy⟩:=jIj hq;have : ∃ y,E.R x y∧kG fz rs (E.ins x).length (fun r o=>r=E.r y∧o=E.outs y) e f g:=by
    cases e with
    | exit id=>exact hy.elim
    | normal=>obtain⟨p,l,h1,p2,l2,h2,h3,h4⟩:=hy;exact⟨y,h3,p,l,h1,p2,l2,h2,h4⟩
    | ret=>obtain⟨p,l,h1,p2,l2,h2,h3,h4⟩:=hy;exact⟨y,h3,p,l,h1,p2,l2,h2,h4⟩
   exact jDn this) (h x hx))
  exact⟨z.1,z.2,zH0 fz hf hb hann hmx ht hrs (hn x) (hi x) hz⟩)
theorem qLa:(∀ b:Bool,((!b)=true)=(b=false))∧(∀ b:Bool,((!b)=false)=(b=true))∧(∀ (p:Prop) [Decidable p],(decide p=true)=p)∧(∀ (p:Prop) [Decidable p],(decide p=false) = ¬ p)∧(∀ p:Prop,(¬ ¬ p)=p)∧
  (∀ a b:Int,((a==b)=true)=(a=b))∧(∀ a b:Int,((a==b)=false) = ¬ (a=b))∧(∀ a b:Int,((a != b)=true) = ¬ (a=b))∧(∀ a b:Int,((a != b)=false)=(a=b)):=by
 refine⟨sM,sM,sM,sM,sM,sM,sM,sM,sM⟩
abbrev LkE (tab:Tab)(n:Nat)(E:ECt)(g:EF E):Prop:=tab.look n=some (E.fs g)
end Go.Eng
end
section
namespace Go.Eng
open List
theorem yDc {α:Type}:(∀ (n:Nat) (l:List α),(l.take n).length=min n l.length)∧(∀ (n:Nat) (l:List α),(l.drop n).length=l.length-n)∧(∀ (l m:List α),(l++m).length=l.length+m.length)∧(∀ (a:α) (l:List α),(a::l).length=l.length+1)∧(([]:List α).length=0)∧(∀ (n:Nat) (a:α),(List.replicate n a).length=n)∧(∀ (l:List α) (n:Nat) (a:α),(l.set n a).length=l.length):=sM
theorem yDb {α γ:Type}(f:α→γ)(l:List α):(l.map f).length=l.length:=length_map f
theorem dS {p:Prop}(h:p:=by first|omega|(simp only[yDc,yDb];omega)):p:=h
theorem aiG {a b:Prop}(k:b)(h:a:=by first|rfl|omega):a∧b:=⟨h,k⟩
attribute [go_sem] Bool.false_eq_true Int.toNat_natCast Bool.and_self false_and and_false or_true true_or or_false false_or Bool.or_self Bool.or_true Bool.true_or Bool.or_false Bool.false_or Bool.and_false Bool.false_and not_true_eq_false not_false_eq_true and_self length_append length_set take_length Option.getD_some Option.getD_none false_implies implies_true Option.some.injEq forall_eq_apply_imp_iff forall_eq forall_eq' length_drop length_take getElem?_drop Nat.mul_one Nat.one_mul Nat.zero_add Nat.add_zero Nat.sub_zero Nat.add_sub_cancel_left Nat.add_sub_cancel yEl yEn yEm zG7 zKd zSl zV9 jBr zYs yC6 jTq yC8 yC7 jNo jHc zZp jNq jHe jHg jHj jHi jHd jP2 Nat.min_eq_left Nat.min_eq_right jNr jHh jHf jNp Int.cast_ofNat_Int Int.natCast_zero Int.natCast_one
variable {tab:Tab} {gl:Gl} {fs:Fs} {hs:Hs} {Qx:qHw} {fm:Nat→Option V} {nb:Nat} {K:V×Wr→List Nat→Prop}
def mv (d s:Nat):zZ:=⟨some d,.op .mov,[.tmp s],none⟩
theorem yDk {d s:Nat}:((mv d s).q tab gl fm nb).wp hs K=((⟨some d,.op .mov,[.tmp s],none⟩:zZ).q tab gl fm nb).wp hs K:=Eq.trans (Eq.refl _) rfl
theorem yDj {d s:Nat}:(mv d s).dst=some d:=Eq.trans (Eq.refl _) rfl
def mG (d s t:Nat):zZ:=⟨some d,.op .mov,[.tmp s],some (t,true)⟩
theorem yDi {d s t:Nat}:((mG d s t).q tab gl fm nb).wp hs K=((⟨some d,.op .mov,[.tmp s],some (t,true)⟩:zZ).q tab gl fm nb).wp hs K:=Eq.trans (Eq.refl _) rfl
theorem yDh {d s t:Nat}:(mG d s t).dst=some d:=Eq.trans (Eq.refl _) rfl
def mC (d:Nat)(v:V):zZ:=⟨some d,.op .mov,[.cst v],none⟩
theorem yDe {d:Nat}{v:V}:((mC d v).q tab gl fm nb).wp hs K=((⟨some d,.op .mov,[.cst v],none⟩:zZ).q tab gl fm nb).wp hs K:=Eq.trans (Eq.refl _) rfl
theorem yDd {d:Nat}{v:V}:(mC d v).dst=some d:=Eq.trans (Eq.refl _) rfl
def oO (d:Nat)(a:AO)(xs:List qH0):zZ:=⟨some d,.op a,xs,none⟩
theorem yDq {d:Nat}{a:AO}{xs:List qH0}:((oO d a xs).q tab gl fm nb).wp hs K=((⟨some d,.op a,xs,none⟩:zZ).q tab gl fm nb).wp hs K:=Eq.trans (Eq.refl _) rfl
theorem yDp {d:Nat}{a:AO}{xs:List qH0}:(oO d a xs).dst=some d:=Eq.trans (Eq.refl _) rfl
def oG (d t:Nat)(a:AO)(xs:List qH0):zZ:=⟨some d,.op a,xs,some (t,true)⟩
theorem yDo {d t:Nat}{a:AO}{xs:List qH0}:((oG d t a xs).q tab gl fm nb).wp hs K=((⟨some d,.op a,xs,some (t,true)⟩:zZ).q tab gl fm nb).wp hs K:=Eq.trans (Eq.refl _) rfl
theorem yDn {d t:Nat}{a:AO}{xs:List qH0}:(oG d t a xs).dst=some d:=Eq.trans (Eq.refl _) rfl
def bT (d:Nat)(o:BinOp)(x y:Nat):zZ:=⟨some d,.op (.bin o),[.tmp x,.tmp y],none⟩
theorem yCw {d:Nat}{o:BinOp}{x y:Nat}:((bT d o x y).q tab gl fm nb).wp hs K=((⟨some d,.op (.bin o),[.tmp x,.tmp y],none⟩:zZ).q tab gl fm nb).wp hs K:=Eq.trans (Eq.refl _) rfl
theorem yCv {d:Nat}{o:BinOp}{x y:Nat}:(bT d o x y).dst=some d:=Eq.trans (Eq.refl _) rfl
def bN (d:Nat)(o:BinOp)(x:Nat)(n:Int):zZ:=⟨some d,.op (.bin o),[.tmp x,.cst (.t (.int .i64 n))],none⟩
theorem yCu {d:Nat}{o:BinOp}{x:Nat}{n:Int}:((bN d o x n).q tab gl fm nb).wp hs K=((⟨some d,.op (.bin o),[.tmp x,.cst (.t (.int .i64 n))],none⟩:zZ).q tab gl fm nb).wp hs K:=Eq.trans (Eq.refl _) rfl
theorem yCt {d:Nat}{o:BinOp}{x:Nat}{n:Int}:(bN d o x n).dst=some d:=Eq.trans (Eq.refl _) rfl
def cL (d f:Nat)(k:Bool)(xs:List qH0):zZ:=⟨some d,.call f k,xs,none⟩
theorem yC2 {d f:Nat}{k:Bool}{xs:List qH0}:((cL d f k xs).q tab gl fm nb).wp hs K=((⟨some d,.call f k,xs,none⟩:zZ).q tab gl fm nb).wp hs K:=Eq.trans (Eq.refl _) rfl
theorem yC1 {d f:Nat}{k:Bool}{xs:List qH0}:(cL d f k xs).dst=some d:=Eq.trans (Eq.refl _) rfl
def mF (d s t:Nat):zZ:=⟨some d,.op .mov,[.tmp s],some (t,false)⟩
theorem yDg {d s t:Nat}:((mF d s t).q tab gl fm nb).wp hs K=((⟨some d,.op .mov,[.tmp s],some (t,false)⟩:zZ).q tab gl fm nb).wp hs K:=Eq.trans (Eq.refl _) rfl
theorem yDf {d s t:Nat}:(mF d s t).dst=some d:=Eq.trans (Eq.refl _) rfl
def oF (d t:Nat)(a:AO)(xs:List qH0):zZ:=⟨some d,.op a,xs,some (t,false)⟩
theorem yDm {d t:Nat}{a:AO}{xs:List qH0}:((oF d t a xs).q tab gl fm nb).wp hs K=((⟨some d,.op a,xs,some (t,false)⟩:zZ).q tab gl fm nb).wp hs K:=Eq.trans (Eq.refl _) rfl
theorem yDl {d t:Nat}{a:AO}{xs:List qH0}:(oF d t a xs).dst=some d:=Eq.trans (Eq.refl _) rfl
def cG (d t f:Nat)(k:Bool)(xs:List qH0):zZ:=⟨some d,.call f k,xs,some (t,true)⟩
theorem yC0 {d t f:Nat}{k:Bool}{xs:List qH0}:((cG d t f k xs).q tab gl fm nb).wp hs K=((⟨some d,.call f k,xs,some (t,true)⟩:zZ).q tab gl fm nb).wp hs K:=Eq.trans (Eq.refl _) rfl
theorem yCz {d t f:Nat}{k:Bool}{xs:List qH0}:(cG d t f k xs).dst=some d:=Eq.trans (Eq.refl _) rfl
def cF (d t f:Nat)(k:Bool)(xs:List qH0):zZ:=⟨some d,.call f k,xs,some (t,false)⟩
theorem yCy {d t f:Nat}{k:Bool}{xs:List qH0}:((cF d t f k xs).q tab gl fm nb).wp hs K=((⟨some d,.call f k,xs,some (t,false)⟩:zZ).q tab gl fm nb).wp hs K:=Eq.trans (Eq.refl _) rfl
theorem yCx {d t f:Nat}{k:Bool}{xs:List qH0}:(cF d t f k xs).dst=some d:=Eq.trans (Eq.refl _) rfl
attribute [go_sem ↓] yDg yDm yC0 yCy
attribute [go_sem] yDf yDl yCz yCx
def oS (n x y:Nat):zZ:=⟨none,.op (.store n),[.tmp x,.tmp y],none⟩
theorem yDs {n x y:Nat}:((oS n x y).q tab gl fm nb).wp hs K=((⟨none,.op (.store n),[.tmp x,.tmp y],none⟩:zZ).q tab gl fm nb).wp hs K:=Eq.trans (Eq.refl _) rfl
theorem yDr {n x y:Nat}:(oS n x y).dst=none:=Eq.trans (Eq.refl _) rfl
def rG (nb:Nat)(os:List zZ):AC:= .reg nb none os
theorem yDt {os:List zZ}:(rG nb os).wp tab gl fs hs Qx=(AC.reg nb none os).wp tab gl fs hs Qx:=Eq.trans (Eq.refl _) rfl
attribute [go_sem ↓] yDt yDk yDi yDe yDq yDo yCw yCu yC2 yDs
attribute [go_sem] yDj yDh yDd yDp yDn yCv yCt yC1 yDr
attribute [go_sem] Int.reduceAdd Int.reduceBEq Int.reduceDiv Int.reduceEq Int.reduceFDiv Int.reduceGE Int.reduceGT Int.reduceLE Int.reduceLT Int.reduceMod Int.reduceMul Int.reduceNeg Int.reducePow Int.reduceSub Int.reduceTDiv Int.reduceTMod Int.reduceToNat Nat.reduceAdd Nat.reduceBEq Nat.reduceBneDiff Nat.reduceDiv Nat.reduceEqDiff Nat.reduceGT Nat.reduceLT Nat.reduceLeDiff Nat.reduceMod Nat.reduceMul Nat.reducePow Nat.reduceSub reduceCtorEq
attribute [go_sem ↓] reduceIte
theorem mcn {α β:Type}:(∀ (f:α→β) (a:α) (l:List α),List.map f (a::l)=f a::List.map f l) ∧ ∀ f:α→β,List.map f []=[]:=⟨fun _ _ _=>rfl,fun _=>rfl⟩
theorem oms {α β:Type}{f:α→β}{a:α}:Option.map f (some a)=some (f a):=rfl
end Go.Eng
end
section
namespace Go.Eng
open List
def qKe (s:List UInt8):T:= .str ⟨s.toArray⟩
theorem jBx {s:List UInt8}:T.str ⟨s.toArray⟩=qKe s:=Eq.trans (Eq.refl _) rfl
theorem qXj (b:ByteArray) : ∀ (n i:Nat) (r:List UInt8),n=b.size-i→ByteArray.toList.loop b i r=r.reverse++b.data.toList.drop i
 | 0,i,r,h=>by
  unfold ByteArray.toList.loop;rw[if_neg oM];have:b.data.toList.drop i=[]:=drop_eq_nil_of_le (by have:b.data.toList.length=b.size:=rfl;omega);rw[this,append_nil]
 | n+1,i,r,h=>by
  unfold ByteArray.toList.loop;have hi:i<b.size:=oM;have hl:b.data.toList.length=b.size:=rfl;rw[if_pos hi,qXj b n (i+1) _ oM];have e:b.data.toList.drop i=b.data.toList[i]'(oM)::b.data.toList.drop (i+1):=drop_eq_getElem_cons oM;rw[e];have e2:b.get! i=b.data.toList[i]'(oM):=by
   show b.data[i]! = _;have hi':i<b.data.size:=hi;rw[getElem!_pos b.data i hi'];simp
  rw[e2];simp
theorem zMf {s:List UInt8}:(ByteArray.mk s.toArray).toList=s:=by
 unfold ByteArray.toList;rw[qXj _ _ 0 [] rfl];simp
theorem zXt {a b:List UInt8}:qKb .eql (qKe a) (qKe b)=some (.bool (decide (a=b))):=by
 show some (T.bool ((ByteArray.mk a.toArray).toList==(ByteArray.mk b.toArray).toList))=_;rw[zMf,zMf];by_cases h:a=b<;>simp[h]
theorem zXu {a b:List UInt8}:qKb .neq (qKe a) (qKe b)=some (.bool (!decide (a=b))):=by
 show some (T.bool (!((ByteArray.mk a.toArray).toList==(ByteArray.mk b.toArray).toList)))=_;rw[zMf,zMf];by_cases h:a=b<;>simp[h]
theorem zRz {a b:List UInt8}(h:a.length+b.length≤9223372036854775807):qKb .add (qKe a) (qKe b)=some (qKe (a++b)):=by
 show (if (ByteArray.mk a.toArray).size+(ByteArray.mk b.toArray).size≤maxLen then some (T.str (ByteArray.mk a.toArray++ByteArray.mk b.toArray)) else none)=_;have h1:(ByteArray.mk a.toArray).size=a.length:=rfl;have h2:(ByteArray.mk b.toArray).size=b.length:=rfl;have h3:maxLen=9223372036854775807:=by decide
 rw[h1,h2,h3,if_pos h];have e:ByteArray.mk a.toArray++ByteArray.mk b.toArray=⟨(a++b).toArray⟩:=by
  apply ByteArray.ext;simp[ByteArray.data_append]
 rw[e];rfl
theorem zV4 {a:List UInt8}:qT6 [.t (qKe a)] = .ret (.t (.int .i64 a.length),[]):=Eq.trans (Eq.refl _) rfl
theorem qYw {a:List UInt8}{k:IntKind}{i:Nat}(h:i<a.length):qF0 [.t (qKe a),.t (.int k (i:Nat))] = .ret (.t (qA (a.getD i 0)),[]):=by
 have e:(ByteArray.mk a.toArray).data.toList[(i:Int).toNat]?=some (a.getD i 0):=by simp[List.getD,h]
 simp only[qKe,qF0,wW,Q.of,Q.bind,Q.assert,e];rw[if_pos oM]
theorem jA4 {a:List UInt8}{nb:Nat}:zCc nb [.t (qKe a)]=Q.assert (qEd a.length 1) (.free nb (.ret (.sl nb 0 a.length,[(nb,.live 1 ((a.map qA).map V.t) true false)]))):=by
 have h1:(ByteArray.mk a.toArray).size=a.length:=rfl;have h2:((ByteArray.mk a.toArray).data.toList.map fun b=>V.t (qA b))=(a.map qA).map V.t:=by simp[map_map,Function.comp_def]
 simp only[qKe,zCc,h1,h2]
theorem zF5 {bs:List UInt8}:qI2 ((bs.map qA).map V.t)=some bs:=by
 have:=qRj (bs:=bs);rw[map_map];exact this
theorem zOq {a b:List UInt8}:(qKe a=qKe b)=(a=b):=by
 apply propext;constructor
 ·intro h;have h1:=congrArg (fun x=>match x with | T.str s=>s.data.toList | _=>[]) h;simpa [qKe] using h1
 ·rintro rfl;rfl
theorem jJl {s:List UInt8}:(qKe s).cells=[qKe s]:=Eq.trans (Eq.refl _) rfl
theorem jJw {s:List UInt8}:(V.t (qKe s)).cells=[V.t (qKe s)]:=Eq.trans (Eq.refl _) rfl
theorem jJ2 {s:List UInt8}:(V.t (qKe s)).plain=true:=Eq.trans (Eq.refl _) rfl
theorem zK3 {s:List UInt8}:(V.t (qKe s)).single=true:=Eq.trans (Eq.refl _) rfl
theorem zS7 {s:List UInt8}:(qKe s).flat=true:=Eq.trans (Eq.refl _) rfl
attribute [go_sem ↓] zXt zXu zRz zV4 qYw jA4
attribute [go_sem] jBx zF5 zOq jJl jJw jJ2 zK3 zS7
end Go.Eng
end
section
namespace Go.Eng
open List
variable {tab:Tab} {gl:Gl} {fs:Fs} {hs:Hs} {Qx:qHw}
def qZz {σ:Type}(Inv:σ→Prop)(μ:σ→Nat)(fI:σ→Fs)(hI:σ→Hs)(s:σ)(fs:Fs)(hs:Hs):Prop := ∃ t,Inv t∧μ t<μ s∧qJ fs hs (fI t) (hI t)
def jSb {σ:Type}(Inv:σ→Prop)(μ:σ→Nat)(fI:σ→Fs)(hI:σ→Hs)(s:σ)(Qx:qHw):qHw:=fun e fs' hs'=>match e with | .normal=>qZz Inv μ fI hI s fs' hs' | e=>Qx e fs' hs'
theorem zKb {σ:Type}{Inv:σ→Prop}{μ:σ→Nat}{fI:σ→Fs}{hI:σ→Hs}{s:σ}:jSb Inv μ fI hI s Qx .normal fs hs=qZz Inv μ fI hI s fs hs:=Eq.trans (Eq.refl _) rfl
theorem zTo {σ:Type}{Inv:σ→Prop}{μ:σ→Nat}{fI:σ→Fs}{hI:σ→Hs}{s:σ}{id:Nat}:jSb Inv μ fI hI s Qx (.exit id) fs hs=Qx (.exit id) fs hs:=Eq.trans (Eq.refl _) rfl
theorem zYz {σ:Type}{Inv:σ→Prop}{μ:σ→Nat}{fI:σ→Fs}{hI:σ→Hs}{s:σ}:jSb Inv μ fI hI s Qx .ret fs hs=Qx .ret fs hs:=Eq.trans (Eq.refl _) rfl
attribute [go_sem] zKb zTo zYz
theorem qZz.of {σ:Type}{Inv:σ→Prop}{μ:σ→Nat}{fI:σ→Fs}{hI:σ→Hs}{s:σ}(t:σ)(h1:Inv t)(h2:μ t<μ s)(h3:qJ fs hs (fI t) (hI t)):qZz Inv μ fI hI s fs hs:=⟨t,h1,h2,h3⟩
theorem yU {a:AC}{σ:Type}(Inv:σ→Prop)(μ:σ→Nat)(fI:σ→Fs)(hI:σ→Hs)(s0:σ)(hP:Inv s0)(h0:qJ fs hs (fI s0) (hI s0))(h : ∀ s,Inv s→a.wp tab gl (fI s) (hI s) (jSb Inv μ fI hI s Qx)):qZ6 tab gl a fs hs Qx:=by
 refine qMu (ι := { s:σ // Inv s }) (fun i=>(fI i.1,hI i.1)) (fun i=>μ i.1) ⟨s0,hP⟩ h0 (fun i=>?_);refine jD (fun e f g hq=>?_) (h i.1 i.2);cases e with
 | normal=>
  obtain⟨t,h1,h2,h3⟩:=hq;exact⟨⟨t,h1⟩,h2,h3⟩
 | exit id=>exact hq
 | ret=>exact hq
end Go.Eng
end
section
set_option maxRecDepth 20000
namespace Go.Eng
open List
theorem u8f (n:Nat)(h:n<256):T.int .u8 (no_index (OfNat.ofNat n))=qA (OfNat.ofNat n):=by
 have e:(UInt8.ofNat n).toNat=n:=by rw[UInt8.toNat_ofNat'];omega
 show T.int .u8 (Int.ofNat n)=T.int .u8 (((UInt8.ofNat n).toNat:Nat):Int);rw[e];rfl
theorem yEk (n:Nat)(h:n<4294967296):T.int .u32 (no_index (OfNat.ofNat n))=jC (OfNat.ofNat n):=by
 have e:(UInt32.ofNat n).toNat=n:=by rw[UInt32.toNat_ofNat'];omega
 show T.int .u32 (Int.ofNat n)=T.int .u32 (((UInt32.ofNat n).toNat:Nat):Int);rw[e];rfl
theorem yEf (s:List UInt8):T.str ⟨Array.mk s⟩=qKe s:=rfl
theorem yD4 (x:V):[x,x,x,x,x,x,x,x,x,x,x,x,x,x,x,x,x,x,x,x,x,x,x,x,x,x,x,x,x,x,x,x,x,x,x,x,x,x,x,x,x,x,x,x,x,x,x,x,x,x,x,x,x,x,x,x,x,x,x,x,x,x,x,x]=List.replicate 64 x:=rfl
theorem yD5 (x:V):[x,x,x,x,x,x,x,x,x,x,x,x,x,x,x,x,x,x,x,x,x,x,x,x,x,x,x,x,x,x,x,x,x,x,x,x,x,x,x,x,x,x,x,x,x,x,x,x,x,x,x,x,x,x,x,x,x,x,x,x,x,x,x,x,x,x,x,x,x,x,x,x,x,x,x,x,x,x,x,x]=List.replicate 80 x:=rfl
theorem jUr (x:V):[x,x,x,x,x,x,x,x,x,x,x,x,x,x,x,x,x,x,x,x,x,x,x,x,x,x,x,x,x,x,x,x,x,x,x,x,x,x,x,x,x,x,x,x,x,x,x,x,x,x,x,x,x,x,x,x,x,x,x,x,x,x,x,x,x,x,x,x,x,x,x,x,x,x,x,x,x,x,x,x,x,x,x,x,x,x,x,x,x,x,x,x,x,x,x,x,x,x,x,x,x,x,x,x,x,x,x,x,x,x,x,x,x,x,x,x,x,x,x,x,x,x,x,x,x,x,x,x,x,x,x,x,x,x,x,x]=List.replicate 136 x:=rfl
end Go.Eng
end
