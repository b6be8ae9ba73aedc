/- A part of an abstract machine, its walks, their tie. -/
import Derived.Test.YtlhjonbjbiafaaaGreatDoorU8
import Derived.Conc.MuLone
import Derived.KernelRfl
set_option linter.all false
section
namespace Go.Eng
variable {tab:Tab} {gl:Gl} {fs:Fs} {hs:Hs} {Qx:qFz}
theorem zZh {g:V→Q V}:rdL g [] = .ret []:=Eq.trans (Eq.refl _) rfl
theorem qYq {g:V→Q V}{c:V}{r:List V}:rdL g (c::r)=(g c).bind fun x=>(rdL g r).bind fun y=> .ret (x::y):=Eq.trans (Eq.refl _) rfl
theorem zZn {n:Nat}{x:T}:rdV n (.t x) = .ret (.t x):=by cases n<;>rfl
theorem zZl {n:Nat}:rdV n .nil = .ret .nil:=by cases n<;>rfl
theorem jFh {n:Nat}{cs:List T}:rdV n (.ro cs) = .ret (.ro cs):=by cases n<;>rfl
theorem zZm {n id i f:Nat}:rdV n (.ref id i f) = .ret (.ref id i f):=by cases n<;>rfl
theorem jFe {n g id i f:Nat}:rdV n (.bd g id i f) = .ret (.bd g id i f):=by cases n<;>rfl
theorem jFf {n:Nat}:rdV n .bq = .ret .bq:=by cases n<;>rfl
attribute [go_sem] jFf
attribute [go_sem] jFe
theorem zZo {n:Nat}{cs:List V}:rdV n (.tup cs) = .ret (.tup cs):=by cases n<;>rfl
theorem zZk {n:Nat}{cs:List V}:rdV (n+1) (.agg cs)=(rdL (rdV n) cs).bind fun p=> .ret (V.mk p):=Eq.trans (Eq.refl _) rfl
theorem jFg {n:Nat}{f:FuncId}{cs:List V}:rdV (n+1) (.fn f cs)=(rdL (rdV n) cs).bind fun p=> .ret (.fn f p):=Eq.trans (Eq.refl _) rfl
theorem jFi {n id off len:Nat}:rdV (n+1) (.sl id off len) = .get id fun
  | .live _ _ false _=>(zJ (n+1) (.sl id off len)).bind fun p=>Q.assert (p.2=[]) (.ret p.1)
  | _=> .ret (.sl id off len):=Eq.trans (Eq.refl _) rfl
theorem zSo {es:List V}:zPl es=match qD2 es with | some _=> .ret es | none=>rdL (rdV 4) es:=Eq.trans (Eq.refl _) rfl
theorem zIt {α:Type}{q:Q α}:(q.bind fun x=>Q.ret x)=q:=by
 induction q with
 | ret a=>rfl
 | fail=>rfl
 | get id k ih=>simp only[Q.bind,ih]
 | free id k ih=>simp only[Q.bind,ih]
theorem jFa {n:Nat}{ts:List T}:rdL (rdV n) (ts.map .t) = .ret (ts.map .t):=by
 induction ts with
 | nil=>rfl
 | cons x r ih=>simp[rdL,zZn,ih,Q.bind]
theorem zZg {g:V→Q V}{a b:List V}:rdL g (a++b)=(rdL g a).bind fun x=>(rdL g b).bind fun y=> .ret (x++y):=by
 induction a with
 | nil=>simp[rdL,Q.bind,zIt]
 | cons c r ih=>simp only[List.cons_append,rdL,ih,qEf,Q.bind]
section
variable {ρ:Nat→Nat} {vt ko:List Nat}
theorem jG9:vEq ρ vt ko .nil .nil=True:=by simp[vEq]
theorem jHb {x:T}:vEq ρ vt ko .nil (.t x)=(x = .sl []):=by simp[vEq]
theorem jHa {id off len:Nat}:vEq ρ vt ko .nil (.sl id off len)=((vt.contains id=true∧off=0)∧len=0):=by simp only[vEq]
theorem jG5 {cs cs':List V}:vEq ρ vt ko (.agg cs) (.agg cs')=qZe ρ vt ko cs cs':=by simp only[vEq]
theorem jG6 {cs:List V}{ts:List T}:vEq ρ vt ko (.agg cs) (.t (.agg ts))=qZe ρ vt ko cs (ts.map .t):=by simp only[vEq]
theorem jG8 {f f':FuncId}{cs cs':List V}:vEq ρ vt ko (.fn f cs) (.fn f' cs')=(f=f'∧qZe ρ vt ko cs cs'):=by simp only[vEq]
theorem jHg {x y:T}:vEq ρ vt ko (.t x) (.t y)=(x=y):=by
 have:vEq ρ vt ko (.t x) (.t y)=(V.t x=(V.t y).ren ρ∧((V.t y).ids.all fun i=>ko.contains i)=true):=by cases y<;>simp only[vEq]
 rw[this];simp[V.ren,V.ids]
theorem jHe {i j k i' j' k':Nat}:vEq ρ vt ko (.ref i j k) (.ref i' j' k')=((i=ρ i'∧j=j'∧k=k')∧ko.contains i'=true):=by
 simp[vEq,V.ren,V.ids]
theorem jHd:vEq ρ vt ko .bq .bq=True:=by
 simp[vEq,V.ren,V.ids]
attribute [go_sem] jHd
theorem jG7 {g i j k g' i' j' k':Nat}:vEq ρ vt ko (.bd g i j k) (.bd g' i' j' k')=((g=g'∧i=ρ i'∧j=j'∧k=k')∧ko.contains i'=true):=by
 simp[vEq,V.ren,V.ids]
attribute [go_sem] jG7
theorem jHf {i j k i' j' k':Nat}:vEq ρ vt ko (.sl i j k) (.sl i' j' k')=((i=ρ i'∧j=j'∧k=k')∧ko.contains i'=true):=by
 simp[vEq,V.ren,V.ids]
theorem jHc {cs cs':List T}:vEq ρ vt ko (.ro cs) (.ro cs')=(cs=cs'):=by
 simp[vEq,V.ren,V.ids]
theorem zUg:qZe ρ vt ko [] []=True:=by simp only[qZe]
theorem zOw {c c':V}{r r':List V}:qZe ρ vt ko (c::r) (c'::r')=(vEq ρ vt ko c c'∧qZe ρ vt ko r r'):=by simp only[qZe]
theorem zQu {u es':List V}:zXv ρ vt ko u es'=match qD2 u with
 | some _=>u=qF0 ρ es'∧((qNg es').all fun i=>ko.contains i)=true
 | none=>qZe ρ vt ko u es':=Eq.trans (Eq.refl _) rfl
theorem zJi {v v':V}:zJg hs ρ vt ko (some v) v'=(rdV 4 v).wp hs (fun u _=>vEq ρ vt ko u v'):=Eq.trans (Eq.refl _) rfl
theorem zJh {v':V}:zJg hs ρ vt ko none v'=False:=Eq.trans (Eq.refl _) rfl
theorem zH0:qKb fs hs ρ vt ko []=True:=Eq.trans (Eq.refl _) rfl
theorem zDd {t:Nat}{v':V}{r:Fs}:qKb fs hs ρ vt ko ((t,v')::r)=(zJg hs ρ vt ko (jQ fs t) v'∧qKb fs hs ρ vt ko r):=Eq.trans (Eq.refl _) rfl
theorem zPn:zPf hs ρ vt ko []=True:=Eq.trans (Eq.refl _) rfl
theorem zKf {i:Nat}{o':Ob}{r:Hs}:zPf hs ρ vt ko ((i,o')::r)=(obC hs ρ vt ko (jQ hs (ρ i)) o'∧zPf hs ρ vt ko r):=Eq.trans (Eq.refl _) rfl
theorem zSa {z z':Nat}{es es':List V}{wr wr' full full':Bool}:obC hs ρ vt ko (some (.live z es wr full)) (.live z' es' wr' full') =
  (z=z'∧wr=wr'∧(full'=true→full=true)∧(zPl es).wp hs (fun u _=>zXv ρ vt ko u es')):=Eq.trans (Eq.refl _) rfl
theorem zR9 {o:Ob}:obC hs ρ vt ko (some o) .dead=True:=by cases o<;>rfl
end
theorem zRa {es:List V}:zX4 es=match qD2 es with | some _=>[] | none=>qNg es:=Eq.trans (Eq.refl _) rfl
theorem zMa {n:Nat}{ids:List Nat}{obs:List Ob}:qNe n [] ids obs = .ret (ids,obs):=by cases n<;>rfl
theorem zIi {n id:Nat}{todo ids:List Nat}{obs:List Ob}:qNe (n+1) (id::todo) ids obs=if ids.contains id then qNe n todo ids obs else
  .get id fun
   | .live z es true full=>(zPl es).bind fun es'=>qNe n (todo++zX4 es') (ids++[id]) (obs++[.live z es' true full])
   | _=> .fail:=Eq.trans (Eq.refl _) rfl
theorem zS7 {n:Nat}{vs:List V}:jBt n vs=(rdL (rdV 4) vs).bind fun us=>(qNe (40+n) (List.range n++qNg us) [] []).bind fun q=>
  Q.assert ((qNg us).all (fun i=>q.1.contains i)=true) (.ret (zWd (qF0 (fun r=>q.1.idxOf r) us),q.2.map (Ob.ren fun r=>q.1.idxOf r))):=Eq.trans (Eq.refl _) rfl
theorem zEq {fz:List Nat}{rs:List (Nat×Option (Nat×Bool))}{n:Nat}{R:V→List Ob→Prop}:kU fz rs n R .normal fs hs=(qYc fz).wp hs (fun fw _=>((rsQ fs rs).bind fun vs=>jBt n vs).wp (zAf hs fw) (fun p _=>R p.1 p.2)):=Eq.trans (Eq.refl _) rfl
theorem zS3 {fz:List Nat}{rs:List (Nat×Option (Nat×Bool))}{n:Nat}{R:V→List Ob→Prop}:kU fz rs n R .ret fs hs=(qYc fz).wp hs (fun fw _=>((rsQ fs rs).bind fun vs=>jBt n vs).wp (zAf hs fw) (fun p _=>R p.1 p.2)):=Eq.trans (Eq.refl _) rfl
def unK (tab:Tab)(gl:Gl)(a:AC)(n:Nat)(Qx:qFz):qFz:=fun e fs' hs'=>match e with | .normal=>zBe tab gl a n fs' hs' Qx | e=>Qx e fs' hs'
theorem qD {a:AC}{n:Nat}:zBe tab gl a (n+1) fs hs Qx=a.wp tab gl fs hs (unK tab gl a n Qx):=Eq.trans (Eq.refl _) rfl
theorem zJo {a:AC}{n:Nat}:unK tab gl a n Qx .normal fs hs=zBe tab gl a n fs hs Qx:=Eq.trans (Eq.refl _) rfl
theorem zUa {a:AC}{n id:Nat}:unK tab gl a n Qx (.exit id) fs hs=Qx (.exit id) fs hs:=Eq.trans (Eq.refl _) rfl
theorem jA2 {a:AC}{n:Nat}:unK tab gl a n Qx .ret fs hs=Qx .ret fs hs:=Eq.trans (Eq.refl _) rfl
@[congr] theorem zYg {a:AC} {n:Nat} {fs':Fs} {hs':Hs} (h1:fs=fs') (h2:hs=hs'):zBe tab gl a n fs hs Qx=zBe tab gl a n fs' hs' Qx:=by rw[h1,h2]
theorem zBd {ι:Type}{I:ι→Fs×Hs}{μ:ι→Nat}{i:ι}:zRu I μ i Qx .normal fs hs = ∃ j,μ j<μ i∧qJ fs hs (I j).1 (I j).2:=Eq.trans (Eq.refl _) rfl
theorem zIp {ι:Type}{I:ι→Fs×Hs}{μ:ι→Nat}{i:ι}{id:Nat}:zRu I μ i Qx (.exit id) fs hs=Qx (.exit id) fs hs:=Eq.trans (Eq.refl _) rfl
theorem zMr {ι:Type}{I:ι→Fs×Hs}{μ:ι→Nat}{i:ι}:zRu I μ i Qx .ret fs hs=Qx .ret fs hs:=Eq.trans (Eq.refl _) rfl
attribute [go_sem] zZh qYq zZn zZl jFh zZm zZo zZk jFg jFi zSo jFa zZg jG9 jHb jHa jG5 jG6 jG8 jHg jHe jHf jHc zUg zOw zQu zJi zJh
 zH0 zDd zPn zKf zSa zR9 zRa zMa zIi zS7 zEq zS3 zJo zUa jA2 zBd zIp zMr
theorem jJn {p:Prop}[Decidable p](h:p):decide p=true:=decide_eq_true h
theorem jJm {p:Prop}[Decidable p](h : ¬ p):decide p=false:=decide_eq_false h
theorem jDt {a b:Int}(h:a=b):(a==b)=true:=by simp[h]
theorem jDs {a b:Int}(h : ¬ a=b):(a==b)=false:=by simp[h]
theorem jDv {a b:Int}(h : ¬ a=b):(a != b)=true:=by simp[h]
theorem jDu {a b:Int}(h:a=b):(a != b)=false:=by simp[h]
attribute [go_sem low] jJn jJm jL4 jDt jDs jDv jDu
theorem zBi {α γ:Type}{f:α→γ}{l:List α}{x:α}{r:List γ}:List.map f l++f x::r=List.map f (l++[x])++r:=sM
theorem zEg {α γ:Type}{f:α→γ}{l r:List α}:List.map f l++List.map f r=List.map f (l++r):=sM
theorem zLc {α γ:Type}{f:α→γ}{l:List α}{n:Nat}:List.drop n (List.map f l)=List.map f (List.drop n l):=sM
theorem zOs {α γ:Type}{f:α→γ}{l:List α}{n:Nat}:List.take n (List.map f l)=List.map f (List.take n l):=sM
theorem zTz {α γ:Type}{f:α→γ}{l:List α}{n:Nat}{x:α}:List.set (List.map f l) n (f x)=List.map f (List.set l n x):=by
 rw[List.map_set]
theorem zQ7 {α γ:Type}{f:α→γ}{l:List α}{n:Nat}:(List.map f l)[n]?=(l[n]?).map f:=List.getElem?_map
theorem jKr {n:Nat}{x:T}:List.replicate n (V.t x)=List.map V.t (List.replicate n x):=sM
theorem jKq {n:Nat}{x:UInt8}:List.replicate n (qA x)=List.map qA (List.replicate n x):=sM
theorem jKs {n:Nat}{x:UInt32}:List.replicate n (zU x)=List.map zU (List.replicate n x):=sM
theorem jRq {α:Type}{x:α}:List.replicate 0 x=[]:=Eq.trans (Eq.refl _) rfl
theorem jRr {α:Type}{x:α}:List.replicate 1 x=[x]:=Eq.trans (Eq.refl _) rfl
theorem jRs {α:Type}{x:α}:List.replicate 2 x=[x,x]:=Eq.trans (Eq.refl _) rfl
theorem jRt {α:Type}{x:α}:List.replicate 3 x=[x,x,x]:=Eq.trans (Eq.refl _) rfl
theorem jRu {α:Type}{x:α}:List.replicate 4 x=[x,x,x,x]:=Eq.trans (Eq.refl _) rfl
theorem jRv {α:Type}{x:α}:List.replicate 5 x=[x,x,x,x,x]:=Eq.trans (Eq.refl _) rfl
theorem jRw {α:Type}{x:α}:List.replicate 6 x=[x,x,x,x,x,x]:=Eq.trans (Eq.refl _) rfl
theorem jRx {α:Type}{x:α}:List.replicate 7 x=[x,x,x,x,x,x,x]:=Eq.trans (Eq.refl _) rfl
theorem jRy {α:Type}{x:α}:List.replicate 8 x=[x,x,x,x,x,x,x,x]:=Eq.trans (Eq.refl _) rfl
theorem zXs {es:List T}:qCl (.t (.sl es)) = .ret (es.map .t):=Eq.trans (Eq.refl _) rfl
theorem zLh:qCl .nil = .ret []:=Eq.trans (Eq.refl _) rfl
theorem zQs {id off len:Nat}:qCl (.sl id off len) = .get id fun
  | .live _ es _ _=>Q.assert (off+len≤es.length) (.ret ((es.drop off).take len))
  | .dead=> .fail:=Eq.trans (Eq.refl _) rfl
theorem jMj {z:Nat}{ts:List T}:zOk z (ts.map .t)=zAh z ts:=by
 induction ts with
 | nil=>rfl
 | cons x r ih=>
  have:zOk z (V.t x::r.map .t)=((V.t x).cells.length==z&&zOk z (r.map .t)):=rfl;rw[List.map_cons,this,ih];have:zAh z (x::r)=(x.cells.length==z&&zAh z r):=rfl;rw[this,qKy,List.length_map]
theorem jBp {z:Nat}:zOk z []=true:=Eq.trans (Eq.refl _) rfl
theorem zUt {z:Nat}{x:V}{r:List V}:zOk z (x::r)=(x.cells.length==z&&zOk z r):=Eq.trans (Eq.refl _) rfl
theorem zTa:jBu []=true:=Eq.trans (Eq.refl _) rfl
theorem jFq {b:UInt8}{r:List T}:jBu (qA b::r)=jBu r:=Eq.trans (Eq.refl _) rfl
theorem zUs {z:Nat}:zAh z []=true:=Eq.trans (Eq.refl _) rfl
theorem zPd {z:Nat}{x:T}{r:List T}:zAh z (x::r)=(x.cells.length==z&&zAh z r):=Eq.trans (Eq.refl _) rfl
theorem qZ9 {α:Type}{z:Nat}{f:α→T}(h : ∀ x,(f x).cells.length=z){l:List α}:zAh z (l.map f)=true:=by
 simp[zAh,h]
theorem jIh {l:List UInt8}:zAh 1 (l.map qA)=true:=qZ9 (f:=qA) (fun _=>rfl)
theorem jIi {l:List UInt32}:zAh 1 (l.map zU)=true:=qZ9 (f:=zU) (fun _=>rfl)
theorem zH9 {es:List V}:qDo es=match qD2 es with | some _=> .ret (es,[]) | none=>qDp (zJ 3) es:=Eq.trans (Eq.refl _) rfl
theorem qY5 {α:Type}{l xs:List α}:zW l 0 xs=xs++l.drop xs.length:=by simp[zW]
theorem qY4 {α:Type}{x:α}{l xs:List α}{i:Nat}:zW (x::l) (i+1) xs=x::zW l i xs:=by
 simp[zW,show i+1+xs.length=i+xs.length+1 by omega]
def zLn (b:Bool)(z:List V)(pl:List (Nat×Nat))(vs:List V):Option (List V):=if b then qVb z pl vs else none
@[congr] theorem zXx {b b':Bool} {z:List V} {pl:List (Nat×Nat)} {vs:List V} (h:b=b'):zLn b z pl vs=zLn b' z pl vs:=by rw[h]
theorem zIc {z:List V}{pl:List (Nat×Nat)}{vs:List V}:zLn true z pl vs=qVb z pl vs:=Eq.trans (Eq.refl _) rfl
theorem zLo {z:List V}:qVb z [] []=some z:=Eq.trans (Eq.refl _) rfl
theorem zId {z:List V}{off n:Nat}{pl:List (Nat×Nat)}{v:V}{vs:List V}:qVb z ((off,n)::pl) (v::vs)=zLn (decide (v.cells.length=n∧off+n≤z.length)&&v.plain) (zW z off v.cells) pl vs:=by
 simp only[qVb,zLn,Bool.and_eq_true,decide_eq_true_eq,and_assoc]
def zA1 (b:Bool)(z:Nat)(es:List V)(ix:List Nat)(vs:List V):Option (List V):=if b then qVa z es ix vs else none
@[congr] theorem zVm {b b':Bool} {z:Nat} {es:List V} {ix:List Nat} {vs:List V} (h:b=b'):zA1 b z es ix vs=zA1 b' z es ix vs:=by rw[h]
theorem zD4 {z:Nat}{es:List V}{ix:List Nat}{vs:List V}:zA1 true z es ix vs=qVa z es ix vs:=Eq.trans (Eq.refl _) rfl
theorem zLm {z:Nat}{es:List V}:qVa z es [] []=some es:=Eq.trans (Eq.refl _) rfl
theorem zIb {z i:Nat}{es:List V}{ix:List Nat}{v:V}{vs:List V}:qVa z es (i::ix) (v::vs)=zA1 (decide (v.cells.length=z∧i<es.length)&&v.plain) z (es.set i v) ix vs:=by
 simp only[qVa,zA1,Bool.and_eq_true,decide_eq_true_eq,and_assoc]
theorem zSe:qTp []=true:=Eq.trans (Eq.refl _) rfl
theorem zM5 {x:V}{r:List V}:qTp (x::r)=(x.single&&qTp r):=Eq.trans (Eq.refl _) rfl
theorem zSc {a b:List V}:qTp (a++b)=(qTp a&&qTp b):=by simp[qTp]
theorem qYk {α:Type}{f:α→T}(h : ∀ x,(V.t (f x)).single=true){l:List α}:qTp ((l.map f).map V.t)=true:=by
 simp only[qTp,List.all_eq_true];intro x hx;simp only[List.map_map,List.mem_map,Function.comp] at hx;obtain⟨a,_,rfl⟩:=hx;exact h a
theorem jEy {l:List UInt8}:qTp ((l.map qA).map V.t)=true:=qYk (f:=qA) (fun _=>rfl)
theorem jEz {l:List UInt32}:qTp ((l.map zU).map V.t)=true:=qYk (f:=zU) (fun _=>rfl)
theorem zI9 {k:IntKind}{n:Int}:(V.t (T.int k n)).single=true:=Eq.trans (Eq.refl _) rfl
theorem zE2 {n:UInt8}:(V.t (qA n)).single=true:=Eq.trans (Eq.refl _) rfl
theorem zJe {n:UInt32}:(V.t (zU n)).single=true:=Eq.trans (Eq.refl _) rfl
theorem zE1 {n:Bool}:(V.t (T.bool n)).single=true:=Eq.trans (Eq.refl _) rfl
theorem zJc {n:ByteArray}:(V.t (T.str n)).single=true:=Eq.trans (Eq.refl _) rfl
theorem zJd {n:List T}:(V.t (T.sl n)).single=true:=Eq.trans (Eq.refl _) rfl
theorem zE4 {n:List T}:(V.t (T.agg n)).single=false:=Eq.trans (Eq.refl _) rfl
theorem zI8 {n:List V}:(V.agg n).single=false:=Eq.trans (Eq.refl _) rfl
theorem zOm {i j k:Nat}:(V.sl i j k).single=true:=Eq.trans (Eq.refl _) rfl
theorem zJb {i j k:Nat}:(V.ref i j k).single=true:=Eq.trans (Eq.refl _) rfl
theorem zOj {g i j k:Nat}:(V.bd g i j k).single=true:=Eq.trans (Eq.refl _) rfl
theorem zOl:V.bq.single=true:=Eq.trans (Eq.refl _) rfl
attribute [go_sem] zOl
attribute [go_sem] zOj
theorem zJa:V.nil.single=true:=Eq.trans (Eq.refl _) rfl
theorem zJf {n b:Nat}:qCo n b=(n≤9223372036854775807∧n*b≤140737488355328):=Eq.trans (Eq.refl _) rfl
theorem jQ0 {l:List UInt8}{i:Nat}(h:i<l.length):l[i]?=some (l.getD i 0):=by simp[List.getD,h]
theorem jJx {l:List UInt32}{i:Nat}(h:i<l.length):l[i]?=some (l.getD i 0):=by simp[List.getD,h]
theorem jEo {a b:Nat}:(a:Int)+(b:Int)=((a+b:Nat):Int):=rfl
theorem zYo {a n:Nat}:(a:Int)+(no_index (@OfNat.ofNat Int n _))=((a + @OfNat.ofNat Nat n (instOfNatNat n):Nat):Int):=rfl
theorem zR3 {a n:Nat}:(no_index (@OfNat.ofNat Int n _))+(a:Int)=((@OfNat.ofNat Nat n (instOfNatNat n)+a:Nat):Int):=rfl
theorem jEq {a b:Nat}:(a:Int)*(b:Int)=((a*b:Nat):Int):=rfl
theorem zYq {a n:Nat}:(no_index (@OfNat.ofNat Int n _))*(a:Int)=((@OfNat.ofNat Nat n (instOfNatNat n)*a:Nat):Int):=rfl
theorem zYs {a n:Nat}:(a:Int)*(no_index (@OfNat.ofNat Int n _))=((a * @OfNat.ofNat Nat n (instOfNatNat n):Nat):Int):=rfl
theorem zYv {a n:Nat}:(a:Int).tmod (no_index (@OfNat.ofNat Int n _))=((a % @OfNat.ofNat Nat n (instOfNatNat n):Nat):Int):=rfl
theorem zYu {a n:Nat}:(a:Int).tdiv (no_index (@OfNat.ofNat Int n _))=((a / @OfNat.ofNat Nat n (instOfNatNat n):Nat):Int):=rfl
theorem zYp {a n:Nat}:(a:Int).fdiv (no_index (@OfNat.ofNat Int n _))=((a / @OfNat.ofNat Nat n (instOfNatNat n):Nat):Int):=by
 rw[Int.fdiv_eq_ediv_of_nonneg _ (by exact Int.natCast_nonneg n)];rfl
theorem jEr {a b:Nat}(h:b≤a):(a:Int)-(b:Int)=((a-b:Nat):Int):=oM
theorem zYt {a n:Nat}(h : @OfNat.ofNat Nat n (instOfNatNat n)≤a):(a:Int)-(no_index (@OfNat.ofNat Int n _))=((a - @OfNat.ofNat Nat n (instOfNatNat n):Nat):Int):=by
 have:(@OfNat.ofNat Int n _:Int)=((@OfNat.ofNat Nat n (instOfNatNat n):Nat):Int):=rfl;rw[this];omega
theorem zYr {a n:Nat}(h:a ≤ @OfNat.ofNat Nat n (instOfNatNat n)):(no_index (@OfNat.ofNat Int n _))-(a:Int)=((@OfNat.ofNat Nat n (instOfNatNat n)-a:Nat):Int):=by
 have:(@OfNat.ofNat Int n _:Int)=((@OfNat.ofNat Nat n (instOfNatNat n):Nat):Int):=rfl;rw[this];omega
theorem jEp {n:Nat}:(no_index (@OfNat.ofNat Int n _)).toNat = @OfNat.ofNat Nat n (instOfNatNat n):=rfl
attribute [go_sem] zSe zM5 zSc jEy jEz zI9 zE2 zJe zE1 zJc zJd zE4 zI8 zOm zJb zJa
attribute [go_sem] zH9 qY5 qY4 zIc zLo zId zD4 zLm zIb
attribute [go_sem] jRq jRr jRs jRt jRu jRv jRw jRx jRy List.drop_replicate zXs zLh zQs jMj jBp zUt zTa jFq zUs zPd jIh jIi zJf jKr jKq jKs
attribute [go_sem] List.idxOf_cons List.idxOf_nil cond_true cond_false Ob.live.injEq
theorem jSh {n:Int}(h : -9223372036854775808≤n∧n<9223372036854775808):IntKind.i64.wrap n=n:=qBp h
theorem jSj {n:Int}(h:0≤n∧n<18446744073709551616):IntKind.u64.wrap n=n:=qHa h
theorem jSi {n:Int}(h:0≤n∧n<4294967296):IntKind.u32.wrap n=n:=zF4 h
theorem jGf {a:Nat}{k k':IntKind}{b:Int}(h:0≤b∧b≤64)(hk:k.bits=64):qOw .shr k (a:Int) k' b=some (.int k ((a/2^b.toNat:Nat):Int)):=by
 change (if b<0 then none else some (T.int k ((a:Int).fdiv (2^min b.toNat k.bits))))=_;rw[if_neg oM,hk,show min b.toNat 64=b.toNat by omega,Int.fdiv_eq_ediv_of_nonneg _ (Int.pow_nonneg oM)]
 norm_cast
theorem jAo {a:Nat}{k':IntKind}{b:Int}(h:0≤b∧b≤64):qOw .shr .u64 (a:Int) k' b=some (.int .u64 ((a/2^b.toNat:Nat):Int)):=jGf h rfl
theorem zOh {a:Nat}{k':IntKind}{b:Int}(h:0≤b∧b≤64):qOw .shr .i64 (a:Int) k' b=some (.int .i64 ((a/2^b.toNat:Nat):Int)):=jGf h rfl
theorem jGy {m:Nat}:T.int .u8 (IntKind.u8.wrap (m:Int))=qA (UInt8.ofNat m):=by
 unfold qA;congr 1
attribute [go_sem ↓] jAo zOh
end Go.Eng
end
section
namespace Go.Eng
structure Ct where
 α:Type
 aS:α→List V
 ins:α→List Ob
 pre:α→Prop
 r:α→V
 outs:α→List Ob
 inj : ∀ x y,aS x=aS y→ins x=ins y→r x=r y∧outs x=outs y
open Classical in
noncomputable def Ct.fs (c:Ct):FnS:=fun aS ins=>if h : ∃ x,(c.aS x=aS∧c.ins x=ins)∧c.pre x then some (c.r h.choose,c.outs h.choose) else none
theorem Ct.eq (c:Ct)(x:c.α)(h:c.pre x):c.fs (c.aS x) (c.ins x)=some (c.r x,c.outs x):=by
 have hx : ∃ y,(c.aS y=c.aS x∧c.ins y=c.ins x)∧c.pre y:=⟨x,⟨rfl,rfl⟩,h⟩;unfold Ct.fs;rw[dif_pos hx];obtain⟨h1,h2⟩:=c.inj _ _ hx.choose_spec.1.1 hx.choose_spec.1.2;rw[h1,h2]
theorem Ct.ok {P:Program}{G:Nat→Option (List T)}{f:FuncId}(c:Ct)(hc : ∀ args w,(callFunc f args).run P w = .ok (.enter f args) w)(h : ∀ x,c.pre x→zDf P G f (c.aS x) (c.ins x) (c.r x) (c.outs x)):FOk P G f c.fs:=by
 refine FOk.of hc (fun aS ins r outs hs=>?_);unfold Ct.fs at hs;split at hs
 ·rename_i hx;cases hs;have h1:=hx.choose_spec;generalize hx.choose=y at h1 ⊢;obtain⟨⟨rfl,rfl⟩,h3⟩:=h1;exact h y h3
 ·cases hs
theorem zAp {a b:UInt8}(h:qA a=qA b):a=b:=by
 have:=congrArg d8 h;rw[zDz,zDz] at this;exact Option.some.inj this
theorem zHv {a b:UInt32}(h:zU a=zU b):a=b:=by
 have:=congrArg d32 h;rw[zK7,zK7] at this;exact Option.some.inj this
theorem qBu {α γ:Type}{f:α→γ}(hf : ∀ a b,f a=f b→a=b) : ∀ {l m:List α},l.map f=m.map f→l=m
 | [],[],_=>rfl
 | [],_::_,h=>by simp at h
 | _::_,[],h=>by simp at h
 | a::l,b::m,h=>by
  simp only[List.map_cons,List.cons.injEq] at h;rw[hf _ _ h.1,qBu hf h.2]
theorem jB {l m:List UInt8}:(l.map qA=m.map qA)=(l=m):=propext ⟨qBu (fun _ _=>zAp),fun h=>by rw[h]⟩
theorem zG4 {l m:List UInt32}:(l.map zU=m.map zU)=(l=m):=propext ⟨qBu (fun _ _=>zHv),fun h=>by rw[h]⟩
theorem zR0 {l m:List T}:(l.map V.t=m.map V.t)=(l=m):=propext ⟨qBu (fun _ _ h=>V.t.inj h),fun h=>by rw[h]⟩
theorem qM2 {a b:UInt8}:(qA a=qA b)=(a=b):=propext ⟨zAp,fun h=>by rw[h]⟩
theorem qZb {a b:UInt32}:(zU a=zU b)=(a=b):=propext ⟨zHv,fun h=>by rw[h]⟩
theorem jK5 {x:UInt32}{k:IntKind}{n:Nat}:qH8 .shl (zU x) (.int k (no_index (@OfNat.ofNat Int n _)))=if n<32 then some (zU (x <<< UInt32.ofNat n)) else qH8 .shl (zU x) (.int k (n:Int)):=by
 split
 ·exact qSu (by assumption)
 ·rfl
theorem jK6 {x:UInt32}{k:IntKind}{n:Nat}:qH8 .shr (zU x) (.int k (no_index (@OfNat.ofNat Int n _)))=if n<32 then some (zU (x >>> UInt32.ofNat n)) else qH8 .shr (zU x) (.int k (n:Int)):=by
 split
 ·exact qSv (by assumption)
 ·rfl
theorem jGb {x:UInt32}{k:IntKind}{n:Nat}(h:n<32):qH8 .shl (zU x) (.int k (n:Int))=some (zU (x <<< UInt32.ofNat n)):=qSu h
theorem jGe {x:UInt32}{k:IntKind}{n:Nat}(h:n<32):qH8 .shr (zU x) (.int k (n:Int))=some (zU (x >>> UInt32.ofNat n)):=qSv h
theorem qDz {α:Type}{l:List α}{k:Nat}{d:α}(h:k<l.length):l.take (k+1)=l.take k++[l.getD k d]:=by
 rw[List.take_add_one];simp[List.getD,h]
theorem zV3 {x:Int}{m:Nat}(h:m≤64):(BitVec.ofInt 64 x &&& BitVec.ofInt 64 ((2^m-1:Nat):Int)).toNat=(x%((2^m:Nat):Int)).toNat:=by
 have h0:1≤2^m:=Nat.one_le_two_pow;have h2:2^m≤2^64:=Nat.pow_le_pow_right (n:=2) oM h;rw[BitVec.toNat_and,BitVec.toNat_ofInt,BitVec.toNat_ofInt];have h1:(((2^m-1:Nat):Int)%((2^64:Nat):Int)).toNat=2^m-1:=by
  rw[Int.emod_eq_of_lt oM oM];simp
 rw[h1,Nat.and_two_pow_sub_one_eq_mod];have hd:((2^m:Nat):Int) ∣ ((2^64:Nat):Int):=Int.natCast_dvd_natCast.2 (Nat.pow_dvd_pow 2 h);have e:x%((2^64:Nat):Int)%((2^m:Nat):Int)=x%((2^m:Nat):Int):=Int.emod_emod_of_dvd x hd;rw[←e];have hx0:0≤x%((2^64:Nat):Int):=Int.emod_nonneg _ oM;generalize x%((2^64:Nat):Int)=y at hx0;obtain⟨z,rfl⟩:=Int.eq_ofNat_of_zero_le hx0;rw[←Int.natCast_emod,Int.toNat_natCast,Int.toNat_natCast]
theorem qXf {x:Int}{m:Nat}(h:m≤63):IntKind.i64.wrap ((BitVec.ofInt 64 x &&& BitVec.ofInt 64 ((2^m-1:Nat):Int)).toNat:Int)=x%((2^m:Nat):Int):=by
 rw[zV3 oM];have h0:1≤2^m:=Nat.one_le_two_pow;have h2:2^m≤2^63:=Nat.pow_le_pow_right (n:=2) oM h;have h3:=Int.emod_nonneg x (b:=((2^m:Nat):Int)) oM;have h4:=Int.emod_lt_of_pos x (b:=((2^m:Nat):Int)) oM;rw[qBp oM];omega
theorem jP2 {x:Int}:qOw .and .i64 x .i64 1=some (.int .i64 (x%2)):=by
 have h := @qXf x 1 oM;rw[show ((2^1-1:Nat):Int)=1 from rfl,show ((2^1:Nat):Int)=2 from rfl] at h;have h2:=congrArg (fun z=>some (T.int IntKind.i64 z)) h;exact h2
theorem jQm {x:Int}:qOw .and .i64 x .i64 3=some (.int .i64 (x%4)):=by
 have h := @qXf x 2 oM;rw[show ((2^2-1:Nat):Int)=3 from rfl,show ((2^2:Nat):Int)=4 from rfl] at h;have h2:=congrArg (fun z=>some (T.int IntKind.i64 z)) h;exact h2
theorem jIy {x:Int}:qOw .and .i64 x .i64 15=some (.int .i64 (x%16)):=by
 have h := @qXf x 4 oM;rw[show ((2^4-1:Nat):Int)=15 from rfl,show ((2^4:Nat):Int)=16 from rfl] at h;have h2:=congrArg (fun z=>some (T.int IntKind.i64 z)) h;exact h2
theorem zPu {x:Int}:qOw .and .i64 x .i64 65535=some (.int .i64 (x%65536)):=by
 have h := @qXf x 16 oM;rw[show ((2^16-1:Nat):Int)=65535 from rfl,show ((2^16:Nat):Int)=65536 from rfl] at h;have h2:=congrArg (fun z=>some (T.int IntKind.i64 z)) h;exact h2
theorem jB9 {x:Int}:qOw .and .u64 x .u64 31=some (.int .u64 (x%32)):=by
 have h := @zV3 x 5 oM;rw[show ((2^5-1:Nat):Int)=31 from rfl,show ((2^5:Nat):Int)=32 from rfl] at h;have h2:IntKind.u64.wrap ((BitVec.ofInt 64 x &&& BitVec.ofInt 64 31).toNat:Int)=x%32:=by
  rw[h,qSf];omega
 have h3:=congrArg (fun z=>some (T.int IntKind.u64 z)) h2;exact h3
theorem zLw {z:Nat}{es:List V}{wr full:Bool}:(Ob.live z es wr full).flat=qMd es:=Eq.trans (Eq.refl _) rfl
theorem zLt:qMd []=true:=Eq.trans (Eq.refl _) rfl
theorem qWp {c:V}{r:List V}:qMd (c::r)=(c.flat&&qMd r):=Eq.trans (Eq.refl _) rfl
theorem zLs:qQx []=true:=Eq.trans (Eq.refl _) rfl
theorem qJu {c:T}{r:List T}:qQx (c::r)=(c.flat&&qQx r):=Eq.trans (Eq.refl _) rfl
theorem zX0 {ts:List T}:qMd (ts.map .t)=qQx ts:=by
 induction ts with
 | nil=>rfl
 | cons x r ih=>rw[List.map_cons,qWp,ih,qJu];rfl
theorem zXy {l:List UInt8}:qQx (l.map qA)=true:=by
 induction l with
 | nil=>rfl
 | cons x r ih=>rw[List.map_cons,qJu,ih];rfl
theorem zXz {l:List UInt32}:qQx (l.map zU)=true:=by
 induction l with
 | nil=>rfl
 | cons x r ih=>rw[List.map_cons,qJu,ih];rfl
theorem zQ2 {i j k:Nat}:(V.sl i j k).flat=true:=Eq.trans (Eq.refl _) rfl
theorem zL1 {i j k:Nat}:(V.ref i j k).flat=true:=Eq.trans (Eq.refl _) rfl
theorem zQ0 {g i j k:Nat}:(V.bd g i j k).flat=true:=Eq.trans (Eq.refl _) rfl
theorem zQ1:V.bq.flat=true:=Eq.trans (Eq.refl _) rfl
attribute [go_sem] zQ1
attribute [go_sem] zQ0
theorem zL0:V.nil.flat=true:=Eq.trans (Eq.refl _) rfl
theorem zLz {cs:List V}:(V.agg cs).flat=qMd cs:=Eq.trans (Eq.refl _) rfl
theorem zL2 {cs:List V}:(V.tup cs).flat=qMd cs:=Eq.trans (Eq.refl _) rfl
theorem zQx {cs:List T}:(T.sl cs).flat=cs.isEmpty:=Eq.trans (Eq.refl _) rfl
theorem zLy {cs:List T}:(T.agg cs).flat=qQx cs:=Eq.trans (Eq.refl _) rfl
attribute [go_sem] zLw zLt qWp zLs qJu zX0 zXy zXz zQ2 zL1 zL0 zLz zL2 zQx zLy List.isEmpty_nil List.isEmpty_cons
attribute [go_sem ↓] jB9
attribute [go_sem ↓] jP2 jQm jIy zPu
attribute [go_sem] jK5 jK6 jGb jGe qM2 qZb
abbrev LkC (tab:Tab)(n:Nat)(c:Ct):Prop:=tab.look n=some c.fs
end Go.Eng
end
section
namespace Go.Eng
variable {tab:Tab} {gl:Gl} {fs:Fs} {hs:Hs} {Qx:qFz}
def upP (n:Nat)(P:Nat→Prop)(fI:Nat→Fs)(hI:Nat→Hs)(i:Nat)(Qx:qFz):qFz:=fun e fs' hs'=>match e with | .normal=>i<n∧P (i+1)∧qJ fs' hs' (fI (i+1)) (hI (i+1)) | e=>Qx e fs' hs'
theorem zJr {n:Nat}{P:Nat→Prop}{fI:Nat→Fs}{hI:Nat→Hs}{i:Nat}:upP n P fI hI i Qx .normal fs hs=(i<n∧P (i+1)∧qJ fs hs (fI (i+1)) (hI (i+1))):=Eq.trans (Eq.refl _) rfl
theorem zUd {n:Nat}{P:Nat→Prop}{fI:Nat→Fs}{hI:Nat→Hs}{i id:Nat}:upP n P fI hI i Qx (.exit id) fs hs=Qx (.exit id) fs hs:=Eq.trans (Eq.refl _) rfl
theorem jA4 {n:Nat}{P:Nat→Prop}{fI:Nat→Fs}{hI:Nat→Hs}{i:Nat}:upP n P fI hI i Qx .ret fs hs=Qx .ret fs hs:=Eq.trans (Eq.refl _) rfl
attribute [go_sem] zJr zUd jA4
theorem qPj {a:AC}(n:Nat)(P:Nat→Prop)(fI:Nat→Fs)(hI:Nat→Hs)(hP:P 0)(h0:qJ fs hs (fI 0) (hI 0))(h : ∀ i,i≤n→P i→a.wp tab gl (fI i) (hI i) (upP n P fI hI i Qx)):qVd tab gl a fs hs Qx:=by
 refine qJf (ι := { i:Nat // i≤n∧P i }) (fun i=>(fI i.1,hI i.1)) (fun i=>n-i.1) ⟨0,Nat.zero_le _,hP⟩ h0 (fun i=>?_);refine zV (fun e f g hq=>?_) (h i.1 i.2.1 i.2.2);cases e with
 | normal=>exact⟨⟨i.1+1,hq.1,hq.2.1⟩,by simp only;have:=hq.1;omega,hq.2.2⟩
 | exit id=>exact hq
 | ret=>exact hq
theorem zT3 {a:Nat}{k':IntKind}{b:Int}(h:0≤b∧b≤32):qOw .shr .u32 (a:Int) k' b=some (.int .u32 ((a/2^b.toNat:Nat):Int)):=by
 change (if b<0 then none else some (T.int .u32 ((a:Int).fdiv (2^min b.toNat 32))))=_;rw[if_neg oM,show min b.toNat 32=b.toNat by omega,Int.fdiv_eq_ediv_of_nonneg _ (Int.pow_nonneg oM)]
 norm_cast
attribute [go_sem ↓] zT3
theorem zGg {a b:UInt8}:((a.toNat:Int)==(b.toNat:Int))=decide (a=b):=by
 by_cases h:a=b
 ·subst h;simp
 ·have : ¬ ((a.toNat:Int)=b.toNat):=fun e=>h (UInt8.toNat_inj.1 oM)
  simp[h,this]
theorem zP0 {a b:UInt8}:qH8 .eql (qA a) (qA b)=some (.bool (decide (a=b))):=by
 change some (T.bool ((a.toNat:Int)==(b.toNat:Int)))=_;rw[zGg]
theorem zP5 {a b:UInt8}:qH8 .neq (qA a) (qA b)=some (.bool (!decide (a=b))):=by
 change some (T.bool (!((a.toNat:Int)==(b.toNat:Int))))=_;rw[zGg]
theorem zP4 {a b:UInt8}:qH8 .lss (qA a) (qA b)=some (.bool (decide (a.toNat<b.toNat))):=by
 change some (T.bool (decide ((a.toNat:Int)<(b.toNat:Int))))=_;congr 2;simp
theorem zP2 {a b:UInt8}:qH8 .gtr (qA a) (qA b)=some (.bool (decide (a.toNat>b.toNat))):=by
 change some (T.bool (decide ((a.toNat:Int)>(b.toNat:Int))))=_;congr 2;simp
theorem zP3 {a b:UInt8}:qH8 .leq (qA a) (qA b)=some (.bool (decide (a.toNat≤b.toNat))):=by
 change some (T.bool (decide ((a.toNat:Int)≤(b.toNat:Int))))=_;congr 2;simp
theorem zP1 {a b:UInt8}:qH8 .geq (qA a) (qA b)=some (.bool (decide (a.toNat ≥ b.toNat))):=by
 change some (T.bool (decide ((a.toNat:Int) ≥ (b.toNat:Int))))=_;congr 2;simp
theorem zKr {a b:UInt8}:qH8 .xor (qA a) (qA b)=some (qA (a ^^^ b)):=by
 change some (T.int .u8 (IntKind.u8.wrap ((BitVec.ofInt 8 (a.toNat:Int) ^^^ BitVec.ofInt 8 (b.toNat:Int)).toNat:Int)))=_;have e : ∀ x:UInt8,BitVec.ofInt 8 (x.toNat:Int)=x.toBitVec:=fun x=>BitVec.eq_of_toNat_eq sM
 rw[e,e,←UInt8.toBitVec_xor,qU3];have:=(a ^^^ b).toNat_lt;unfold qA;rw[UInt8.toNat_toBitVec];congr 2;omega
attribute [go_sem ↓] zP0 zP5 zP4 zP2 zP3 zP1 zKr
attribute [go_sem] UInt8.reduceToNat
theorem qXq {b:UInt8}:qG2 .u64 [.t (qA b)] = .ret (.t (.int .u64 (b.toNat:Int)),[]):=by
 change Q.ret (V.t (.int .u64 (IntKind.u64.wrap (b.toNat:Int))),([]:Wr))=_;have:=b.toNat_lt;rw[qHa oM]
theorem qXo {b:UInt8}:qG2 .i64 [.t (qA b)] = .ret (.t (.int .i64 (b.toNat:Int)),[]):=by
 change Q.ret (V.t (.int .i64 (IntKind.i64.wrap (b.toNat:Int))),([]:Wr))=_;have:=b.toNat_lt;rw[qBp oM]
theorem zT1 {a:Nat}{k':IntKind}(h:a<72057594037927936):qOw .shl .u64 (a:Int) k' 8=some (.int .u64 ((256*a:Nat):Int)):=by
 change (if (8:Int)<0 then none else some (T.int .u64 (IntKind.u64.wrap ((a:Int)*2^min (8:Int).toNat 64))))=_;rw[if_neg oM,show (a:Int)*2^min (8:Int).toNat 64=((256*a:Nat):Int) by
  rw[show min (8:Int).toNat 64=8 from rfl];omega,qHa oM]
theorem or8 {a x:Nat}(hx:x<256):(256*a) ||| x=256*a+x:=by
 have:=Nat.shiftLeft_add_eq_or_of_lt (i:=8) (b:=x) oM a;rw[Nat.shiftLeft_eq] at this;rw[Nat.mul_comm];exact this.symm
theorem zY1 {a:Nat}{x:UInt8}(h:a<72057594037927936):qOw .or .u64 ((256*a:Nat):Int) .u64 (x.toNat:Int)=some (.int .u64 ((256*a+x.toNat:Nat):Int)):=by
 have hx:=x.toNat_lt;change some (T.int .u64 (IntKind.u64.wrap ((BitVec.ofInt 64 ((256*a:Nat):Int) ||| BitVec.ofInt 64 (x.toNat:Int)).toNat:Int)))=_;have e:(BitVec.ofInt 64 ((256*a:Nat):Int) ||| BitVec.ofInt 64 (x.toNat:Int)).toNat=256*a+x.toNat:=by
  rw[BitVec.toNat_or,BitVec.toNat_ofInt,BitVec.toNat_ofInt,Int.emod_eq_of_lt oM oM,Int.emod_eq_of_lt oM oM,Int.toNat_natCast,Int.toNat_natCast,or8 oM]
 rw[e,qHa oM]
attribute [go_sem ↓] qXq qXo zT1 zY1
theorem qO {bs:List UInt8}:bsT bs = .sl (bs.map qA):=Eq.trans (Eq.refl _) rfl
theorem jQ2 {l:List (List UInt8)}{i:Nat}(h:i<l.length):l[i]?=some (l.getD i []):=by simp[List.getD,h]
theorem jQ1 {l:List (List (List UInt8))}{i:Nat}(h:i<l.length):l[i]?=some (l.getD i []):=by simp[List.getD,h]
theorem zDr {l:List (List UInt8)}{x:List UInt8}{r:List T}:List.map bsT l++T.sl (List.map qA x)::r=List.map bsT (l++[x])++r:=by simp[bsT]
theorem jBo {l:List (List UInt8)}:zAh 1 (l.map bsT)=true:=qZ9 (f:=bsT) (fun _=>rfl)
theorem zM4 {l:List (List UInt8)}:qTp ((l.map bsT).map V.t)=true:=qYk (f:=bsT) (fun _=>rfl)
theorem zXa {a b:List UInt8}(h:bsT a=bsT b):a=b:=by
 have:=congrArg dBs h;rw[bsT,bsT,zAx,zAx] at this;exact Option.some.inj this
theorem qB1 {l m:List (List UInt8)}:(l.map bsT=m.map bsT)=(l=m):=propext ⟨qBu (fun _ _=>zXa),fun h=>by rw[h]⟩
theorem zPr {ts:List T}{r:List V}:qD2 (ts.map .t++r)=(qD2 r).map (ts ++ ·):=by
 induction ts with
 | nil=>simp[Option.map_id']
 | cons x l ih=>
  rw[List.map_cons,List.cons_append,qSo,ih,Option.map_map];rfl
attribute [go_sem] zPr
attribute [go_sem] qO zDr jBo zM4
end Go.Eng
end
section
namespace Go.Eng
theorem zF6 {ts:List T}{i:Nat}{v:V}(h:i<ts.length)(hv : ∀ x,v≠ .t x):qD2 ((ts.map .t).set i v)=none:=by
 induction ts generalizing i with
 | nil=>simp at h
 | cons x r ih=>
  cases i with
  | zero=>
   rw[List.map_cons,List.set_cons_zero];cases v with
   | t y=>exact absurd rfl (hv y)
   | _=>rfl
  | succ i=>
   rw[List.map_cons,List.set_cons_succ,qSo,ih (by simpa using h)];rfl
theorem zDi {ts:List T}{i id off len:Nat}(h:i<ts.length):qD2 ((ts.map .t).set i (.sl id off len))=none:=zF6 h sM
theorem zAk {ts:List T}{i:Nat}{cs:List V}(h:i<ts.length):qD2 ((ts.map .t).set i (.agg cs))=none:=zF6 h sM
theorem zZi {n:Nat}{ts:List T}{i:Nat}{v:V}(h:i<ts.length):rdL (rdV n) ((ts.map .t).set i v)=(rdV n v).bind fun x=> .ret ((ts.map .t).set i x):=by
 induction ts generalizing i with
 | nil=>simp at h
 | cons x r ih=>
  cases i with
  | zero=>rw[List.map_cons,List.set_cons_zero,qYq,jFa];rfl
  | succ i=>
   rw[List.map_cons,List.set_cons_succ,qYq,zZn,ih (by simpa using h),qRq,qEf];rfl
theorem zK5 {n:Nat}{ts:List T}:qDp (zJ n) (ts.map .t) = .ret (ts.map .t,[]):=by
 induction ts with
 | nil=>rfl
 | cons x r ih=>rw[List.map_cons,qJr,zK6,qRq,ih,qRq];rfl
theorem zK4 {n:Nat}{ts:List T}{i:Nat}{v:V}(h:i<ts.length):qDp (zJ n) ((ts.map .t).set i v)=(zJ n v).bind fun p=> .ret ((ts.map .t).set i p.1,p.2):=by
 induction ts generalizing i with
 | nil=>simp at h
 | cons x r ih=>
  cases i with
  | zero=>
   rw[List.map_cons,List.set_cons_zero,qJr,zK5];simp[Q.bind]
  | succ i=>
   rw[List.map_cons,List.set_cons_succ,qJr,zK6,qRq,ih (by simpa using h),qEf];rfl
theorem zSf {es:List V}{i:Nat}{v:V}(h:qTp es=true)(hv:v.single=true):qTp (es.set i v)=true:=by
 simp only[qTp,List.all_eq_true] at *;intro x hx;rcases List.mem_or_eq_of_mem_set hx with h1 | rfl
 ·exact h x h1
 ·exact hv
theorem zEm {l:List (List UInt8)}{i id off len:Nat}:qTp (((l.map bsT).map V.t).set i (.sl id off len))=true:=zSf zM4 rfl
theorem jCk {l:List (List UInt8)}{i:Nat}{x:List UInt8}:List.set (List.map bsT l) i (T.sl (List.map qA x))=List.map bsT (l.set i x):=by
 rw[List.map_set];rfl
attribute [go_sem] zDi zAk zZi zK5 zK4 zEm jCk
theorem vM {tab:Tab}{gl:Gl}{a:AC}{fs fs':Fs}{hs hs':Hs}{Qx:qFz}(h:qJ fs hs fs' hs')(hl:qVd tab gl a fs' hs' Qx):qVd tab gl a fs hs Qx:=by
 obtain⟨ι,I,μ,i0,h0,hr⟩:=hl;exact⟨ι,I,μ,i0,h.trans h0,hr⟩
end Go.Eng
end
section
set_option maxRecDepth 20000
namespace Go.Eng
open Go.MuLone
theorem jSf {P:Program}{G:Gl}{tab:Tab}{f:FuncId}{fn:Func}{c:Code}{ac:AC}{hints:List (Nat×List Nat)}{rs:List (Nat×Option (Nat×Bool))}(hf:P.funcs[f]?=some fn)(hname:(fn.name == "runtime.NumGoroutine")=false)(hb:fn.body=some c)(hann:ann P fn.ntmps hints c=some ac)(hmx:P.follows .mixedOrders=true)
  (ht:qFl P G tab) (hrs:qNt P fn.results.toList=some rs) (ct:Ct) (hn : ∀ x,(ct.aS x).length≤fn.ntmps) (hi : ∀ x,(ct.ins x).length≤100)
  (h : ∀ x,ct.pre x→ac.wp tab G (qF 0 (ct.aS x)) (qF 0 (ct.ins x)) (zD rs (ct.ins x).length (fun r' o'=>r'=ct.r x∧o'=ct.outs x))):FOk P G f ct.fs:=
 ct.ok (fun args w=>run_callFunc_enter hf hname hb args w) (fun x hx=>zE6 hf hb hann hmx ht hrs (hn x) (hi x) (h x hx))
theorem jSd {P:Program}{G:Gl}{tab:Tab}{f:FuncId}{fn:Func}{c:Code}{ac:AC}{hints:List (Nat×List Nat)}{rs:List (Nat×Option (Nat×Bool))}(fz:List Nat)(hf:P.funcs[f]?=some fn)(hname:(fn.name == "runtime.NumGoroutine")=false)(hb:fn.body=some c)(hann:ann P fn.ntmps hints c=some ac)(hmx:P.follows .mixedOrders=true)
  (ht:qFl P G tab) (hrs:qNt P fn.results.toList=some rs) (ct:Ct) (hn : ∀ x,(ct.aS x).length≤fn.ntmps) (hi : ∀ x,(ct.ins x).length≤100)
  (h : ∀ x,ct.pre x→ac.wp tab G (qF 0 (ct.aS x)) (qF 0 (ct.ins x)) (kU fz rs (ct.ins x).length (fun r' o'=>r'=ct.r x∧o'=ct.outs x))):FOk P G f ct.fs:=
 ct.ok (fun args w=>run_callFunc_enter hf hname hb args w) (fun x hx=>zCd fz hf hb hann hmx ht hrs (hn x) (hi x) (h x hx))
theorem jSe {P:Program}{G:Gl}{tab:Tab}{f:FuncId}{fn:Func}{c:Code}{ac:AC}{hints:List (Nat×List Nat)}{rs:List (Nat×Option (Nat×Bool))}(hf:P.funcs[f]?=some fn)(hb:fn.body=some c)(hann:ann P fn.ntmps hints c=some ac)(hmx:P.follows .mixedOrders=true)
  (ht:qFl P G tab) (hrs:qNt P fn.results.toList=some rs) {aS:List V} (hn:aS.length≤fn.ntmps)
  (h:ac.wp tab G (qF 0 aS) (qF 0 []) (zD rs 0 (fun r o=>r = .t (.bool true)∧o=[]))):zDf P G f aS [] (.t (.bool true)) []:=
 zE6 hf hb hann hmx ht hrs hn (Nat.zero_le _) h
theorem jGv {P:Program}{G:Gl}{tab:Tab}{f:FuncId}(fn:Func)(hints:List (Nat×List Nat))(ac:AC)(rs:List (Nat×Option (Nat×Bool)))(ht:qFl P G tab){aS:List V}
  (h:ac.wp tab G (qF 0 aS) (qF 0 []) (zD rs 0 (fun r o=>r = .t (.bool true)∧o=[])))
  (hf:P.funcs[f]?=some fn:=by kernel_rfl) (hb:fn.body=some (fn.body.getD .skip):=by kernel_rfl) (hann:ann P fn.ntmps hints (fn.body.getD .skip)=some ac:=by kernel_rfl) (hmx:P.follows .mixedOrders=true:=by kernel_rfl)
  (hrs:qNt P fn.results.toList=some rs:=by kernel_rfl) (hn:aS.length≤fn.ntmps:=by exact Nat.le_of_ble_eq_true (by kernel_rfl)):zDf P G f aS [] (.t (.bool true)) []:=jSe hf hb hann hmx ht hrs hn h
end Go.Eng
end
section
set_option maxRecDepth 20000
namespace Go.Eng
open Go.MuLone
structure ECt where
 α:Type
 β:Type
 d:β:=by exact default
 aS:α→List V
 ins:α→List Ob:=fun _=>[]
 pre:α→Prop
 r:β→V
 outs:β→List Ob:=fun _=>[]
 R:α→β→Prop
 inj : ∀ x y,aS x=aS y→ins x=ins y→x=y:=by simp only[Prod.forall,qAf,qJ3,Prod.mk.injEq];intros;assumption
structure EF (E:ECt) where
 F:E.α→E.β
 ok : ∀ x,E.pre x→E.R x (F x)
def ECt.ct (E:ECt)(G:EF E):Ct:=⟨E.α,E.aS,E.ins,E.pre,fun x=>E.r (G.F x),fun x=>E.outs (G.F x),fun x y h h'=>by rw[E.inj x y h h'];exact⟨rfl,rfl⟩⟩
noncomputable def ECt.fs (E:ECt)(G:EF E):FnS:=(E.ct G).fs
theorem ECt.eq (E:ECt)(G:EF E)(x:E.α)(h:E.pre x) : ∃ y,E.R x y∧E.fs G (E.aS x) (E.ins x)=some (E.r y,E.outs y):=⟨G.F x,G.ok x h,(E.ct G).eq x h⟩
theorem fnQ (E:ECt){g:EF E}(x:E.α)(h:E.pre x){e:E.β}(hr : ∀ y,E.R x y→y=e:=by exact fun _ h=>h):E.fs g (E.aS x) (E.ins x)=some (E.r e,E.outs e):=by
 obtain⟨y,h1,h2⟩:=E.eq g x h;cases hr y h1;exact h2
theorem EF.ok_of {P:Program}{G:Gl}{f:FuncId}(E:ECt)(hc : ∀ args w,(callFunc f args).run P w = .ok (.enter f args) w)
  (h : ∀ x,E.pre x → ∃ y,E.R x y∧zDf P G f (E.aS x) (E.ins x) (E.r y) (E.outs y)) : ∃ g:EF E,FOk P G f (E.fs g):=by
 classical
 refine⟨⟨fun x=>if hx:E.pre x then (h x hx).choose else E.d,fun x hx=>?_⟩,(E.ct _).ok hc (fun x hx=>?_)⟩
 ·simp only[dif_pos hx];exact (h x hx).choose_spec.1
 ·show zDf P G f (E.aS x) (E.ins x) (E.r _) (E.outs _);simp only[dif_pos (show E.pre x from hx)];exact (h x hx).choose_spec.2
def ECt.K (E:ECt)(x:E.α)(r:V)(o:List Ob):Prop := ∃ y,E.R x y∧r=E.r y∧o=E.outs y
theorem zZ0 {rs:List (Nat×Option (Nat×Bool))}{n:Nat}{κ:Type}{A:κ→V→List Ob→Prop}{e:AE}{fs:Fs}{hs:Hs}(h:zD rs n (fun r o => ∃ y,A y r o) e fs hs) : ∃ y,zD rs n (A y) e fs hs:=by
 cases e with
 | exit id=>exact h.elim
 | normal=>obtain⟨p,l,h1,y,h2⟩:=h;exact⟨y,p,l,h1,h2⟩
 | ret=>obtain⟨p,l,h1,y,h2⟩:=h;exact⟨y,p,l,h1,h2⟩
theorem zZz {fz:List Nat}{rs:List (Nat×Option (Nat×Bool))}{n:Nat}{κ:Type}{A:κ→V→List Ob→Prop}{e:AE}{fs:Fs}{hs:Hs}(h:kU fz rs n (fun r o => ∃ y,A y r o) e fs hs) : ∃ y,kU fz rs n (A y) e fs hs:=by
 cases e with
 | exit id=>exact h.elim
 | normal=>
  obtain⟨p,l,h1,p2,l2,h2,y,h3⟩:=h;exact⟨y,p,l,h1,p2,l2,h2,h3⟩
 | ret=>
  obtain⟨p,l,h1,p2,l2,h2,y,h3⟩:=h;exact⟨y,p,l,h1,p2,l2,h2,h3⟩
theorem zVj {α:Type}{R A:α→Prop}(h : ∃ y,R y∧A y) : ∃ z : { y // R y },A z.1:=let ⟨y,h1,h2⟩:=h;⟨⟨y,h1⟩,h2⟩
theorem jLf {P:Program}{G:Gl}{tab:Tab}{f:FuncId}(fn:Func)(hints:List (Nat×List Nat))(ac:AC)(rs:List (Nat×Option (Nat×Bool)))(ht:qFl P G tab)(E:ECt)
  (h : ∀ x,E.pre x→ac.wp tab G (qF 0 (E.aS x)) (qF 0 (E.ins x)) (zD rs (E.ins x).length (E.K x)))
  (hf:P.funcs[f]?=some fn:=by kernel_rfl) (hname:(fn.name == "runtime.NumGoroutine")=false:=by kernel_rfl) (hb:fn.body=some (fn.body.getD .skip):=by kernel_rfl) (hann:ann P fn.ntmps hints (fn.body.getD .skip)=some ac:=by kernel_rfl) (hmx:P.follows .mixedOrders=true:=by kernel_rfl)
  (hrs:qNt P fn.results.toList=some rs:=by kernel_rfl) (hst:ac.strict=true:=by kernel_rfl) (hn : ∀ x,(E.aS x).length≤fn.ntmps:=by exact fun _=>Nat.le_of_ble_eq_true (by kernel_rfl)) (hi : ∀ x,(E.ins x).length≤100:=by exact fun _=>Nat.le_of_ble_eq_true (by kernel_rfl)) : ∃ g:EF E,FOk P G f (E.fs g):=
 EF.ok_of E (fun args w=>run_callFunc_enter hf hname hb args w) (fun x hx=>by
  obtain⟨z,hz⟩:=zC6 (Q:=fun z : { y // E.R x y }=>zD rs (E.ins x).length (fun r o=>r=E.r z.1∧o=E.outs z.1)) hst (zV (fun e f g hq=>by
   obtain⟨y,hy⟩:=zZ0 hq;have : ∃ y,E.R x y∧zD rs (E.ins x).length (fun r o=>r=E.r y∧o=E.outs y) e f g:=by
    cases e with
    | exit id=>exact hy.elim
    | normal=>obtain⟨p,l,h1,h2,h3⟩:=hy;exact⟨y,h2,p,l,h1,h3⟩
    | ret=>obtain⟨p,l,h1,h2,h3⟩:=hy;exact⟨y,h2,p,l,h1,h3⟩
   exact zVj this) (h x hx))
  exact⟨z.1,z.2,zE6 hf hb hann hmx ht hrs (hn x) (hi x) hz⟩)
theorem jLg {P:Program}{G:Gl}{tab:Tab}{f:FuncId}(fz:List Nat)(fn:Func)(hints:List (Nat×List Nat))(ac:AC)(rs:List (Nat×Option (Nat×Bool)))(ht:qFl P G tab)(E:ECt)
  (h : ∀ x,E.pre x→ac.wp tab G (qF 0 (E.aS x)) (qF 0 (E.ins x)) (kU fz rs (E.ins x).length (E.K x)))
  (hf:P.funcs[f]?=some fn:=by kernel_rfl) (hname:(fn.name == "runtime.NumGoroutine")=false:=by kernel_rfl) (hb:fn.body=some (fn.body.getD .skip):=by kernel_rfl) (hann:ann P fn.ntmps hints (fn.body.getD .skip)=some ac:=by kernel_rfl) (hmx:P.follows .mixedOrders=true:=by kernel_rfl)
  (hrs:qNt P fn.results.toList=some rs:=by kernel_rfl) (hst:ac.strict=true:=by kernel_rfl) (hn : ∀ x,(E.aS x).length≤fn.ntmps:=by exact fun _=>Nat.le_of_ble_eq_true (by kernel_rfl)) (hi : ∀ x,(E.ins x).length≤100:=by exact fun _=>Nat.le_of_ble_eq_true (by kernel_rfl)) : ∃ g:EF E,FOk P G f (E.fs g):=
 EF.ok_of E (fun args w=>run_callFunc_enter hf hname hb args w) (fun x hx=>by
  obtain⟨z,hz⟩:=zC6 (Q:=fun z : { y // E.R x y }=>kU fz rs (E.ins x).length (fun r o=>r=E.r z.1∧o=E.outs z.1)) hst (zV (fun e f g hq=>by
   obtain⟨y,hy⟩:=zZz hq;have : ∃ y,E.R x y∧kU fz rs (E.ins x).length (fun r o=>r=E.r y∧o=E.outs y) e f g:=by
    cases e with
    | exit id=>exact hy.elim
    | normal=>obtain⟨p,l,h1,p2,l2,h2,h3,h4⟩:=hy;exact⟨y,h3,p,l,h1,p2,l2,h2,h4⟩
    | ret=>obtain⟨p,l,h1,p2,l2,h2,h3,h4⟩:=hy;exact⟨y,h3,p,l,h1,p2,l2,h2,h4⟩
   exact zVj this) (h x hx))
  exact⟨z.1,z.2,zCd fz hf hb hann hmx ht hrs (hn x) (hi x) hz⟩)
theorem qU8:(∀ b:Bool,((!b)=true)=(b=false))∧(∀ b:Bool,((!b)=false)=(b=true))∧(∀ (p:Prop) [Decidable p],(decide p=true)=p)∧(∀ (p:Prop) [Decidable p],(decide p=false) = ¬ p)∧(∀ p:Prop,(¬ ¬ p)=p)∧
  (∀ a b:Int,((a==b)=true)=(a=b))∧(∀ a b:Int,((a==b)=false) = ¬ (a=b))∧(∀ a b:Int,((a != b)=true) = ¬ (a=b))∧(∀ a b:Int,((a != b)=false)=(a=b)):=by
 refine⟨sM,sM,sM,sM,sM,sM,sM,sM,sM⟩
abbrev LkE (tab:Tab)(n:Nat)(E:ECt)(g:EF E):Prop:=tab.look n=some (E.fs g)
end Go.Eng
end
section
namespace Go.Eng
theorem jQ5 {α:Type}:(∀ (n:Nat) (l:List α),(l.take n).length=min n l.length)∧(∀ (n:Nat) (l:List α),(l.drop n).length=l.length-n)∧(∀ (l m:List α),(l++m).length=l.length+m.length)∧(∀ (a:α) (l:List α),(a::l).length=l.length+1)∧(([]:List α).length=0)∧(∀ (n:Nat) (a:α),(List.replicate n a).length=n)∧(∀ (l:List α) (n:Nat) (a:α),(l.set n a).length=l.length):=sM
theorem jQ4 {α γ:Type}(f:α→γ)(l:List α):(l.map f).length=l.length:=List.length_map f
theorem dS {p:Prop}(h:p:=by first|omega|(simp only[jQ5,jQ4];omega)):p:=h
theorem aiG {a b:Prop}(k:b)(h:a:=by first|rfl|omega):a∧b:=⟨h,k⟩
attribute [go_sem] Bool.false_eq_true Int.toNat_natCast Bool.and_self false_and and_false or_true true_or or_false false_or Bool.or_self Bool.or_true Bool.true_or Bool.or_false Bool.false_or Bool.and_false Bool.false_and not_true_eq_false not_false_eq_true and_self List.length_append List.length_set List.take_length Option.getD_some Option.getD_none false_implies implies_true Option.some.injEq forall_eq_apply_imp_iff forall_eq forall_eq' List.length_drop List.length_take List.getElem?_drop Nat.mul_one Nat.one_mul Nat.zero_add Nat.add_zero Nat.sub_zero Nat.add_sub_cancel_left Nat.add_sub_cancel jSh jSj jSi zBi zEg zLc zOs zTz zQ7 jQ0 jJx jQ2 jQ1 jEo zYo zR3 jEq zYq zYs zYv zYu zYp jGy Nat.min_eq_left Nat.min_eq_right jEr zYt zYr jEp Int.cast_ofNat_Int Int.natCast_zero Int.natCast_one
variable {tab:Tab} {gl:Gl} {fs:Fs} {hs:Hs} {Qx:qFz} {fm:Nat→Option V} {nb:Nat} {K:V×Wr→List Nat→Prop}
def mv (d s:Nat):zR:=⟨some d,.op .mov,[.tmp s],none⟩
theorem jRd {d s:Nat}:((mv d s).q tab gl fm nb).wp hs K=((⟨some d,.op .mov,[.tmp s],none⟩:zR).q tab gl fm nb).wp hs K:=Eq.trans (Eq.refl _) rfl
theorem jRc {d s:Nat}:(mv d s).dst=some d:=Eq.trans (Eq.refl _) rfl
def mG (d s t:Nat):zR:=⟨some d,.op .mov,[.tmp s],some (t,true)⟩
theorem jRb {d s t:Nat}:((mG d s t).q tab gl fm nb).wp hs K=((⟨some d,.op .mov,[.tmp s],some (t,true)⟩:zR).q tab gl fm nb).wp hs K:=Eq.trans (Eq.refl _) rfl
theorem jRa {d s t:Nat}:(mG d s t).dst=some d:=Eq.trans (Eq.refl _) rfl
def mC (d:Nat)(v:V):zR:=⟨some d,.op .mov,[.cst v],none⟩
theorem jQ7 {d:Nat}{v:V}:((mC d v).q tab gl fm nb).wp hs K=((⟨some d,.op .mov,[.cst v],none⟩:zR).q tab gl fm nb).wp hs K:=Eq.trans (Eq.refl _) rfl
theorem jQ6 {d:Nat}{v:V}:(mC d v).dst=some d:=Eq.trans (Eq.refl _) rfl
def oO (d:Nat)(a:AO)(xs:List qFj):zR:=⟨some d,.op a,xs,none⟩
theorem jRj {d:Nat}{a:AO}{xs:List qFj}:((oO d a xs).q tab gl fm nb).wp hs K=((⟨some d,.op a,xs,none⟩:zR).q tab gl fm nb).wp hs K:=Eq.trans (Eq.refl _) rfl
theorem jRi {d:Nat}{a:AO}{xs:List qFj}:(oO d a xs).dst=some d:=Eq.trans (Eq.refl _) rfl
def oG (d t:Nat)(a:AO)(xs:List qFj):zR:=⟨some d,.op a,xs,some (t,true)⟩
theorem jRh {d t:Nat}{a:AO}{xs:List qFj}:((oG d t a xs).q tab gl fm nb).wp hs K=((⟨some d,.op a,xs,some (t,true)⟩:zR).q tab gl fm nb).wp hs K:=Eq.trans (Eq.refl _) rfl
theorem jRg {d t:Nat}{a:AO}{xs:List qFj}:(oG d t a xs).dst=some d:=Eq.trans (Eq.refl _) rfl
def bT (d:Nat)(o:BinOp)(x y:Nat):zR:=⟨some d,.op (.bin o),[.tmp x,.tmp y],none⟩
theorem jQq {d:Nat}{o:BinOp}{x y:Nat}:((bT d o x y).q tab gl fm nb).wp hs K=((⟨some d,.op (.bin o),[.tmp x,.tmp y],none⟩:zR).q tab gl fm nb).wp hs K:=Eq.trans (Eq.refl _) rfl
theorem jQp {d:Nat}{o:BinOp}{x y:Nat}:(bT d o x y).dst=some d:=Eq.trans (Eq.refl _) rfl
def bN (d:Nat)(o:BinOp)(x:Nat)(n:Int):zR:=⟨some d,.op (.bin o),[.tmp x,.cst (.t (.int .i64 n))],none⟩
theorem jQo {d:Nat}{o:BinOp}{x:Nat}{n:Int}:((bN d o x n).q tab gl fm nb).wp hs K=((⟨some d,.op (.bin o),[.tmp x,.cst (.t (.int .i64 n))],none⟩:zR).q tab gl fm nb).wp hs K:=Eq.trans (Eq.refl _) rfl
theorem jQn {d:Nat}{o:BinOp}{x:Nat}{n:Int}:(bN d o x n).dst=some d:=Eq.trans (Eq.refl _) rfl
def cL (d f:Nat)(k:Bool)(xs:List qFj):zR:=⟨some d,.call f k,xs,none⟩
theorem jQx {d f:Nat}{k:Bool}{xs:List qFj}:((cL d f k xs).q tab gl fm nb).wp hs K=((⟨some d,.call f k,xs,none⟩:zR).q tab gl fm nb).wp hs K:=Eq.trans (Eq.refl _) rfl
theorem jQw {d f:Nat}{k:Bool}{xs:List qFj}:(cL d f k xs).dst=some d:=Eq.trans (Eq.refl _) rfl
def mF (d s t:Nat):zR:=⟨some d,.op .mov,[.tmp s],some (t,false)⟩
theorem jQ9 {d s t:Nat}:((mF d s t).q tab gl fm nb).wp hs K=((⟨some d,.op .mov,[.tmp s],some (t,false)⟩:zR).q tab gl fm nb).wp hs K:=Eq.trans (Eq.refl _) rfl
theorem jQ8 {d s t:Nat}:(mF d s t).dst=some d:=Eq.trans (Eq.refl _) rfl
def oF (d t:Nat)(a:AO)(xs:List qFj):zR:=⟨some d,.op a,xs,some (t,false)⟩
theorem jRf {d t:Nat}{a:AO}{xs:List qFj}:((oF d t a xs).q tab gl fm nb).wp hs K=((⟨some d,.op a,xs,some (t,false)⟩:zR).q tab gl fm nb).wp hs K:=Eq.trans (Eq.refl _) rfl
theorem jRe {d t:Nat}{a:AO}{xs:List qFj}:(oF d t a xs).dst=some d:=Eq.trans (Eq.refl _) rfl
def cG (d t f:Nat)(k:Bool)(xs:List qFj):zR:=⟨some d,.call f k,xs,some (t,true)⟩
theorem jQv {d t f:Nat}{k:Bool}{xs:List qFj}:((cG d t f k xs).q tab gl fm nb).wp hs K=((⟨some d,.call f k,xs,some (t,true)⟩:zR).q tab gl fm nb).wp hs K:=Eq.trans (Eq.refl _) rfl
theorem jQu {d t f:Nat}{k:Bool}{xs:List qFj}:(cG d t f k xs).dst=some d:=Eq.trans (Eq.refl _) rfl
def cF (d t f:Nat)(k:Bool)(xs:List qFj):zR:=⟨some d,.call f k,xs,some (t,false)⟩
theorem jQt {d t f:Nat}{k:Bool}{xs:List qFj}:((cF d t f k xs).q tab gl fm nb).wp hs K=((⟨some d,.call f k,xs,some (t,false)⟩:zR).q tab gl fm nb).wp hs K:=Eq.trans (Eq.refl _) rfl
theorem jQs {d t f:Nat}{k:Bool}{xs:List qFj}:(cF d t f k xs).dst=some d:=Eq.trans (Eq.refl _) rfl
attribute [go_sem ↓] jQ9 jRf jQv jQt
attribute [go_sem] jQ8 jRe jQu jQs
def oS (n x y:Nat):zR:=⟨none,.op (.store n),[.tmp x,.tmp y],none⟩
theorem jRl {n x y:Nat}:((oS n x y).q tab gl fm nb).wp hs K=((⟨none,.op (.store n),[.tmp x,.tmp y],none⟩:zR).q tab gl fm nb).wp hs K:=Eq.trans (Eq.refl _) rfl
theorem jRk {n x y:Nat}:(oS n x y).dst=none:=Eq.trans (Eq.refl _) rfl
def rG (nb:Nat)(os:List zR):AC:= .reg nb none os
theorem jRo {os:List zR}:(rG nb os).wp tab gl fs hs Qx=(AC.reg nb none os).wp tab gl fs hs Qx:=Eq.trans (Eq.refl _) rfl
attribute [go_sem ↓] jRo jRd jRb jQ7 jRj jRh jQq jQo jQx jRl
attribute [go_sem] jRc jRa jQ6 jRi jRg jQp jQn jQw jRk
attribute [go_sem] Int.reduceAdd Int.reduceBEq Int.reduceDiv Int.reduceEq Int.reduceFDiv Int.reduceGE Int.reduceGT Int.reduceLE Int.reduceLT Int.reduceMod Int.reduceMul Int.reduceNeg Int.reducePow Int.reduceSub Int.reduceTDiv Int.reduceTMod Int.reduceToNat Nat.reduceAdd Nat.reduceBEq Nat.reduceBneDiff Nat.reduceDiv Nat.reduceEqDiff Nat.reduceGT Nat.reduceLT Nat.reduceLeDiff Nat.reduceMod Nat.reduceMul Nat.reducePow Nat.reduceSub reduceCtorEq
attribute [go_sem ↓] reduceIte
theorem mcn {α β:Type}:(∀ (f:α→β) (a:α) (l:List α),List.map f (a::l)=f a::List.map f l) ∧ ∀ f:α→β,List.map f []=[]:=⟨fun _ _ _=>rfl,fun _=>rfl⟩
theorem oms {α β:Type}{f:α→β}{a:α}:Option.map f (some a)=some (f a):=rfl
end Go.Eng
end
section
namespace Go.Eng
def qN9 (s:List UInt8):T:= .str ⟨s.toArray⟩
theorem zT5 {s:List UInt8}:T.str ⟨s.toArray⟩=qN9 s:=Eq.trans (Eq.refl _) rfl
theorem qSs (b:ByteArray) : ∀ (n i:Nat) (r:List UInt8),n=b.size-i→ByteArray.toList.loop b i r=r.reverse++b.data.toList.drop i
 | 0,i,r,h=>by
  unfold ByteArray.toList.loop;rw[if_neg oM];have:b.data.toList.drop i=[]:=List.drop_eq_nil_of_le (by have:b.data.toList.length=b.size:=rfl;omega);rw[this,List.append_nil]
 | n+1,i,r,h=>by
  unfold ByteArray.toList.loop;have hi:i<b.size:=oM;have hl:b.data.toList.length=b.size:=rfl;rw[if_pos hi,qSs b n (i+1) _ oM];have e:b.data.toList.drop i=b.data.toList[i]'(oM)::b.data.toList.drop (i+1):=List.drop_eq_getElem_cons oM;rw[e];have e2:b.get! i=b.data.toList[i]'(oM):=by
   show b.data[i]! = _;have hi':i<b.data.size:=hi;rw[getElem!_pos b.data i hi'];simp
  rw[e2];simp
theorem zGa {s:List UInt8}:(ByteArray.mk s.toArray).toList=s:=by
 unfold ByteArray.toList;rw[qSs _ _ 0 [] rfl];simp
theorem zP7 {a b:List UInt8}:qH8 .eql (qN9 a) (qN9 b)=some (.bool (decide (a=b))):=by
 show some (T.bool ((ByteArray.mk a.toArray).toList==(ByteArray.mk b.toArray).toList))=_;rw[zGa,zGa];by_cases h:a=b<;>simp[h]
theorem zP8 {a b:List UInt8}:qH8 .neq (qN9 a) (qN9 b)=some (.bool (!decide (a=b))):=by
 show some (T.bool (!((ByteArray.mk a.toArray).toList==(ByteArray.mk b.toArray).toList)))=_;rw[zGa,zGa];by_cases h:a=b<;>simp[h]
theorem zKs {a b:List UInt8}(h:a.length+b.length≤9223372036854775807):qH8 .add (qN9 a) (qN9 b)=some (qN9 (a++b)):=by
 show (if (ByteArray.mk a.toArray).size+(ByteArray.mk b.toArray).size≤maxLen then some (T.str (ByteArray.mk a.toArray++ByteArray.mk b.toArray)) else none)=_;have h1:(ByteArray.mk a.toArray).size=a.length:=rfl;have h2:(ByteArray.mk b.toArray).size=b.length:=rfl;have h3:maxLen=9223372036854775807:=by decide
 rw[h1,h2,h3,if_pos h];have e:ByteArray.mk a.toArray++ByteArray.mk b.toArray=⟨(a++b).toArray⟩:=by
  apply ByteArray.ext;simp[ByteArray.data_append]
 rw[e];rfl
theorem zOn {a:List UInt8}:qPr [.t (qN9 a)] = .ret (.t (.int .i64 a.length),[]):=Eq.trans (Eq.refl _) rfl
theorem zE0 {a:List UInt8}{k:IntKind}{i:Nat}(h:i<a.length):qFu [.t (qN9 a),.t (.int k (i:Nat))] = .ret (.t (qA (a.getD i 0)),[]):=by
 have e:(ByteArray.mk a.toArray).data.toList[(i:Int).toNat]?=some (a.getD i 0):=by simp[List.getD,h]
 simp only[qN9,qFu,vW,Q.of,Q.bind,Q.assert,e];rw[if_pos oM]
theorem zTd {a:List UInt8}{nb:Nat}:qW3 nb [.t (qN9 a)]=Q.assert (qCo a.length 1) (.free nb (.ret (.sl nb 0 a.length,[(nb,.live 1 ((a.map qA).map V.t) true false)]))):=by
 have h1:(ByteArray.mk a.toArray).size=a.length:=rfl;have h2:((ByteArray.mk a.toArray).data.toList.map fun b=>V.t (qA b))=(a.map qA).map V.t:=by simp[List.map_map,Function.comp_def]
 simp only[qN9,qW3,h1,h2]
theorem zAq {bs:List UInt8}:qGc ((bs.map qA).map V.t)=some bs:=by
 have:=qM3 (bs:=bs);rw[List.map_map];exact this
theorem zHt {a b:List UInt8}:(qN9 a=qN9 b)=(a=b):=by
 apply propext;constructor
 ·intro h;have h1:=congrArg (fun x=>match x with | T.str s=>s.data.toList | _=>[]) h;simpa [qN9] using h1
 ·rintro rfl;rfl
theorem jA1 {s:List UInt8}:(qN9 s).cells=[qN9 s]:=Eq.trans (Eq.refl _) rfl
theorem jBc {s:List UInt8}:(V.t (qN9 s)).cells=[V.t (qN9 s)]:=Eq.trans (Eq.refl _) rfl
theorem jBi {s:List UInt8}:(V.t (qN9 s)).plain=true:=Eq.trans (Eq.refl _) rfl
theorem zE3 {s:List UInt8}:(V.t (qN9 s)).single=true:=Eq.trans (Eq.refl _) rfl
theorem zLx {s:List UInt8}:(qN9 s).flat=true:=Eq.trans (Eq.refl _) rfl
attribute [go_sem ↓] zP7 zP8 zKs zOn zE0 zTd
attribute [go_sem] zT5 zAq zHt jA1 jBc jBi zE3 zLx
end Go.Eng
end
section
namespace Go.Eng
variable {tab:Tab} {gl:Gl} {fs:Fs} {hs:Hs} {Qx:qFz}
def qMg {σ:Type}(Inv:σ→Prop)(μ:σ→Nat)(fI:σ→Fs)(hI:σ→Hs)(s:σ)(fs:Fs)(hs:Hs):Prop := ∃ t,Inv t∧μ t<μ s∧qJ fs hs (fI t) (hI t)
def jIo {σ:Type}(Inv:σ→Prop)(μ:σ→Nat)(fI:σ→Fs)(hI:σ→Hs)(s:σ)(Qx:qFz):qFz:=fun e fs' hs'=>match e with | .normal=>qMg Inv μ fI hI s fs' hs' | e=>Qx e fs' hs'
theorem zEd {σ:Type}{Inv:σ→Prop}{μ:σ→Nat}{fI:σ→Fs}{hI:σ→Hs}{s:σ}:jIo Inv μ fI hI s Qx .normal fs hs=qMg Inv μ fI hI s fs hs:=Eq.trans (Eq.refl _) rfl
theorem zMi {σ:Type}{Inv:σ→Prop}{μ:σ→Nat}{fI:σ→Fs}{hI:σ→Hs}{s:σ}{id:Nat}:jIo Inv μ fI hI s Qx (.exit id) fs hs=Qx (.exit id) fs hs:=Eq.trans (Eq.refl _) rfl
theorem zRd {σ:Type}{Inv:σ→Prop}{μ:σ→Nat}{fI:σ→Fs}{hI:σ→Hs}{s:σ}:jIo Inv μ fI hI s Qx .ret fs hs=Qx .ret fs hs:=Eq.trans (Eq.refl _) rfl
attribute [go_sem] zEd zMi zRd
theorem qMg.of {σ:Type}{Inv:σ→Prop}{μ:σ→Nat}{fI:σ→Fs}{hI:σ→Hs}{s:σ}(t:σ)(h1:Inv t)(h2:μ t<μ s)(h3:qJ fs hs (fI t) (hI t)):qMg Inv μ fI hI s fs hs:=⟨t,h1,h2,h3⟩
theorem jV {a:AC}{σ:Type}(Inv:σ→Prop)(μ:σ→Nat)(fI:σ→Fs)(hI:σ→Hs)(s0:σ)(hP:Inv s0)(h0:qJ fs hs (fI s0) (hI s0))(h : ∀ s,Inv s→a.wp tab gl (fI s) (hI s) (jIo Inv μ fI hI s Qx)):qVd tab gl a fs hs Qx:=by
 refine qJf (ι := { s:σ // Inv s }) (fun i=>(fI i.1,hI i.1)) (fun i=>μ i.1) ⟨s0,hP⟩ h0 (fun i=>?_);refine zV (fun e f g hq=>?_) (h i.1 i.2);cases e with
 | normal=>
  obtain⟨t,h1,h2,h3⟩:=hq;exact⟨⟨t,h1⟩,h2,h3⟩
 | exit id=>exact hq
 | ret=>exact hq
end Go.Eng
end
section
set_option maxRecDepth 20000
namespace Go.Eng
theorem u8f (n:Nat)(h:n<256):T.int .u8 (no_index (OfNat.ofNat n))=qA (OfNat.ofNat n):=by
 have e:(UInt8.ofNat n).toNat=n:=by rw[UInt8.toNat_ofNat'];omega
 show T.int .u8 (Int.ofNat n)=T.int .u8 (((UInt8.ofNat n).toNat:Nat):Int);rw[e];rfl
theorem jSg (n:Nat)(h:n<4294967296):T.int .u32 (no_index (OfNat.ofNat n))=zU (OfNat.ofNat n):=by
 have e:(UInt32.ofNat n).toNat=n:=by rw[UInt32.toNat_ofNat'];omega
 show T.int .u32 (Int.ofNat n)=T.int .u32 (((UInt32.ofNat n).toNat:Nat):Int);rw[e];rfl
theorem jSb (s:List UInt8):T.str ⟨Array.mk s⟩=qN9 s:=rfl
theorem jR0 (x:V):[x,x,x,x,x,x,x,x,x,x,x,x,x,x,x,x,x,x,x,x,x,x,x,x,x,x,x,x,x,x,x,x,x,x,x,x,x,x,x,x,x,x,x,x,x,x,x,x,x,x,x,x,x,x,x,x,x,x,x,x,x,x,x,x]=List.replicate 64 x:=rfl
theorem jR1 (x:V):[x,x,x,x,x,x,x,x,x,x,x,x,x,x,x,x,x,x,x,x,x,x,x,x,x,x,x,x,x,x,x,x,x,x,x,x,x,x,x,x,x,x,x,x,x,x,x,x,x,x,x,x,x,x,x,x,x,x,x,x,x,x,x,x,x,x,x,x,x,x,x,x,x,x,x,x,x,x,x,x]=List.replicate 80 x:=rfl
theorem jKu (x:V):[x,x,x,x,x,x,x,x,x,x,x,x,x,x,x,x,x,x,x,x,x,x,x,x,x,x,x,x,x,x,x,x,x,x,x,x,x,x,x,x,x,x,x,x,x,x,x,x,x,x,x,x,x,x,x,x,x,x,x,x,x,x,x,x,x,x,x,x,x,x,x,x,x,x,x,x,x,x,x,x,x,x,x,x,x,x,x,x,x,x,x,x,x,x,x,x,x,x,x,x,x,x,x,x,x,x,x,x,x,x,x,x,x,x,x,x,x,x,x,x,x,x,x,x,x,x,x,x,x,x,x,x,x,x,x,x]=List.replicate 136 x:=rfl
end Go.Eng
end
