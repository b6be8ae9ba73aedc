/- A part of an abstract machine, its walks, their tie. -/
import Derived.Test.YtekghmfbgbhobaaGreatDoorD8
import Derived.Conc.MuLone
import Derived.KernelRfl
set_option linter.all false
section
namespace Go.Eng
variable {tab:Tab} {gl:Gl} {fs:Fs} {hs:Hs} {Qx:qHq}
theorem jD3 {g:V→Q V}:rdL g [] = .ret []:=Eq.trans (Eq.refl _) rfl
theorem zBe {g:V→Q V}{c:V}{r:List V}:rdL g (c::r)=(g c).bind fun x=>(rdL g r).bind fun y=> .ret (x::y):=Eq.trans (Eq.refl _) rfl
theorem jEa {n:Nat}{x:T}:rdV n (.t x) = .ret (.t x):=by cases n<;>rfl
theorem jD8 {n:Nat}:rdV n .nil = .ret .nil:=by cases n<;>rfl
theorem jKh {n:Nat}{cs:List T}:rdV n (.ro cs) = .ret (.ro cs):=by cases n<;>rfl
theorem jD9 {n id i f:Nat}:rdV n (.ref id i f) = .ret (.ref id i f):=by cases n<;>rfl
theorem jKe {n g id i f:Nat}:rdV n (.bd g id i f) = .ret (.bd g id i f):=by cases n<;>rfl
theorem jKf {n:Nat}:rdV n .bq = .ret .bq:=by cases n<;>rfl
attribute [go_sem] jKf
attribute [go_sem] jKe
theorem jEb {n:Nat}{cs:List V}:rdV n (.tup cs) = .ret (.tup cs):=by cases n<;>rfl
theorem jD7 {n:Nat}{cs:List V}:rdV (n+1) (.agg cs)=(rdL (rdV n) cs).bind fun p=> .ret (V.mk p):=Eq.trans (Eq.refl _) rfl
theorem jKg {n:Nat}{f:FuncId}{cs:List V}:rdV (n+1) (.fn f cs)=(rdL (rdV n) cs).bind fun p=> .ret (.fn f p):=Eq.trans (Eq.refl _) rfl
theorem jKi {n id off len:Nat}:rdV (n+1) (.sl id off len) = .get id fun
  | .live _ _ false _=>(zS (n+1) (.sl id off len)).bind fun p=>Q.assert (p.2=[]) (.ret p.1)
  | _=> .ret (.sl id off len):=Eq.trans (Eq.refl _) rfl
theorem zWi {es:List V}:zT0 es=match qG5 es with | some _=> .ret es | none=>rdL (rdV 4) es:=Eq.trans (Eq.refl _) rfl
theorem zMy {α:Type}{q:Q α}:(q.bind fun x=>Q.ret x)=q:=by
 induction q with
 | ret a=>rfl
 | fail=>rfl
 | get id k ih=>simp only[Q.bind,ih]
 | free id k ih=>simp only[Q.bind,ih]
theorem jKb {n:Nat}{ts:List T}:rdL (rdV n) (ts.map .t) = .ret (ts.map .t):=by
 induction ts with
 | nil=>rfl
 | cons x r ih=>simp[rdL,jEa,ih,Q.bind]
theorem jD2 {g:V→Q V}{a b:List V}:rdL g (a++b)=(rdL g a).bind fun x=>(rdL g b).bind fun y=> .ret (x++y):=by
 induction a with
 | nil=>simp[rdL,Q.bind,zMy]
 | cons c r ih=>simp only[List.cons_append,rdL,ih,qF4,Q.bind]
section
variable {ρ:Nat→Nat} {vt ko:List Nat}
theorem jMd:vEq ρ vt ko .nil .nil=True:=by simp[vEq]
theorem jMf {x:T}:vEq ρ vt ko .nil (.t x)=(x = .sl []):=by simp[vEq]
theorem jMe {id off len:Nat}:vEq ρ vt ko .nil (.sl id off len)=((vt.contains id=true∧off=0)∧len=0):=by simp only[vEq]
theorem jL9 {cs cs':List V}:vEq ρ vt ko (.agg cs) (.agg cs')=zBx ρ vt ko cs cs':=by simp only[vEq]
theorem jMa {cs:List V}{ts:List T}:vEq ρ vt ko (.agg cs) (.t (.agg ts))=zBx ρ vt ko cs (ts.map .t):=by simp only[vEq]
theorem jMc {f f':FuncId}{cs cs':List V}:vEq ρ vt ko (.fn f cs) (.fn f' cs')=(f=f'∧zBx ρ vt ko cs cs'):=by simp only[vEq]
theorem jMk {x y:T}:vEq ρ vt ko (.t x) (.t y)=(x=y):=by
 have:vEq ρ vt ko (.t x) (.t y)=(V.t x=(V.t y).ren ρ∧((V.t y).ids.all fun i=>ko.contains i)=true):=by cases y<;>simp only[vEq]
 rw[this];simp[V.ren,V.ids]
theorem jMi {i j k i' j' k':Nat}:vEq ρ vt ko (.ref i j k) (.ref i' j' k')=((i=ρ i'∧j=j'∧k=k')∧ko.contains i'=true):=by
 simp[vEq,V.ren,V.ids]
theorem jMh:vEq ρ vt ko .bq .bq=True:=by
 simp[vEq,V.ren,V.ids]
attribute [go_sem] jMh
theorem jMb {g i j k g' i' j' k':Nat}:vEq ρ vt ko (.bd g i j k) (.bd g' i' j' k')=((g=g'∧i=ρ i'∧j=j'∧k=k')∧ko.contains i'=true):=by
 simp[vEq,V.ren,V.ids]
attribute [go_sem] jMb
theorem jMj {i j k i' j' k':Nat}:vEq ρ vt ko (.sl i j k) (.sl i' j' k')=((i=ρ i'∧j=j'∧k=k')∧ko.contains i'=true):=by
 simp[vEq,V.ren,V.ids]
theorem jMg {cs cs':List T}:vEq ρ vt ko (.ro cs) (.ro cs')=(cs=cs'):=by
 simp[vEq,V.ren,V.ids]
theorem zYc:zBx ρ vt ko [] []=True:=by simp only[zBx]
theorem zTh {c c':V}{r r':List V}:zBx ρ vt ko (c::r) (c'::r')=(vEq ρ vt ko c c'∧zBx ρ vt ko r r'):=by simp only[zBx]
theorem zU1 {u es':List V}:jB9 ρ vt ko u es'=match qG5 u with
 | some _=>u=qHr ρ es'∧((qQo es').all fun i=>ko.contains i)=true
 | none=>zBx ρ vt ko u es':=Eq.trans (Eq.refl _) rfl
theorem zNn {v v':V}:zNl hs ρ vt ko (some v) v'=(rdV 4 v).wp hs (fun u _=>vEq ρ vt ko u v'):=Eq.trans (Eq.refl _) rfl
theorem zNm {v':V}:zNl hs ρ vt ko none v'=False:=Eq.trans (Eq.refl _) rfl
theorem zL2:qMk fs hs ρ vt ko []=True:=Eq.trans (Eq.refl _) rfl
theorem zGz {t:Nat}{v':V}{r:Fs}:qMk fs hs ρ vt ko ((t,v')::r)=(zNl hs ρ vt ko (yF fs t) v'∧qMk fs hs ρ vt ko r):=Eq.trans (Eq.refl _) rfl
theorem zT2:zTw hs ρ vt ko []=True:=Eq.trans (Eq.refl _) rfl
theorem zOl {i:Nat}{o':Ob}{r:Hs}:zTw hs ρ vt ko ((i,o')::r)=(obC hs ρ vt ko (yF hs (ρ i)) o'∧zTw hs ρ vt ko r):=Eq.trans (Eq.refl _) rfl
theorem zV4 {z z':Nat}{es es':List V}{wr wr' full full':Bool}:obC hs ρ vt ko (some (.live z es wr full)) (.live z' es' wr' full') =
  (z=z'∧wr=wr'∧(full'=true→full=true)∧(zT0 es).wp hs (fun u _=>jB9 ρ vt ko u es')):=Eq.trans (Eq.refl _) rfl
theorem zV3 {o:Ob}:obC hs ρ vt ko (some o) .dead=True:=by cases o<;>rfl
end
theorem zVe {es:List V}:jCm es=match qG5 es with | some _=>[] | none=>qQo es:=Eq.trans (Eq.refl _) rfl
theorem zQk {n:Nat}{ids:List Nat}{obs:List Ob}:qQl n [] ids obs = .ret (ids,obs):=by cases n<;>rfl
theorem zMp {n id:Nat}{todo ids:List Nat}{obs:List Ob}:qQl (n+1) (id::todo) ids obs=if ids.contains id then qQl n todo ids obs else
  .get id fun
   | .live z es true full=>(zT0 es).bind fun es'=>qQl n (todo++jCm es') (ids++[id]) (obs++[.live z es' true full])
   | _=> .fail:=Eq.trans (Eq.refl _) rfl
theorem zW5 {n:Nat}{vs:List V}:jGb n vs=(rdL (rdV 4) vs).bind fun us=>(qQl (40+n) (List.range n++qQo us) [] []).bind fun q=>
  Q.assert ((qQo us).all (fun i=>q.1.contains i)=true) (.ret (jAl (qHr (fun r=>q.1.idxOf r) us),q.2.map (Ob.ren fun r=>q.1.idxOf r))):=Eq.trans (Eq.refl _) rfl
theorem zH9 {fz:List Nat}{rs:List (Nat×Option (Nat×Bool))}{n:Nat}{R:V→List Ob→Prop}:xU fz rs n R .normal fs hs=(zA1 fz).wp hs (fun fw _=>((rsQ fs rs).bind fun vs=>jGb n vs).wp (zDj hs fw) (fun p _=>R p.1 p.2)):=Eq.trans (Eq.refl _) rfl
theorem zW1 {fz:List Nat}{rs:List (Nat×Option (Nat×Bool))}{n:Nat}{R:V→List Ob→Prop}:xU fz rs n R .ret fs hs=(zA1 fz).wp hs (fun fw _=>((rsQ fs rs).bind fun vs=>jGb n vs).wp (zDj hs fw) (fun p _=>R p.1 p.2)):=Eq.trans (Eq.refl _) rfl
def unK (tab:Tab)(gl:Gl)(a:AC)(n:Nat)(Qx:qHq):qHq:=fun e fs' hs'=>match e with | .normal=>zEg tab gl a n fs' hs' Qx | e=>Qx e fs' hs'
theorem qG {a:AC}{n:Nat}:zEg tab gl a (n+1) fs hs Qx=a.wp tab gl fs hs (unK tab gl a n Qx):=Eq.trans (Eq.refl _) rfl
theorem zNs {a:AC}{n:Nat}:unK tab gl a n Qx .normal fs hs=zEg tab gl a n fs hs Qx:=Eq.trans (Eq.refl _) rfl
theorem zX6 {a:AC}{n id:Nat}:unK tab gl a n Qx (.exit id) fs hs=Qx (.exit id) fs hs:=Eq.trans (Eq.refl _) rfl
theorem jFm {a:AC}{n:Nat}:unK tab gl a n Qx .ret fs hs=Qx .ret fs hs:=Eq.trans (Eq.refl _) rfl
@[congr] theorem jC4 {a:AC} {n:Nat} {fs':Fs} {hs':Hs} (h1:fs=fs') (h2:hs=hs'):zEg tab gl a n fs hs Qx=zEg tab gl a n fs' hs' Qx:=by rw[h1,h2]
theorem zEf {ι:Type}{I:ι→Fs×Hs}{μ:ι→Nat}{i:ι}:zVv I μ i Qx .normal fs hs = ∃ j,μ j<μ i∧qI fs hs (I j).1 (I j).2:=Eq.trans (Eq.refl _) rfl
theorem zMt {ι:Type}{I:ι→Fs×Hs}{μ:ι→Nat}{i:ι}{id:Nat}:zVv I μ i Qx (.exit id) fs hs=Qx (.exit id) fs hs:=Eq.trans (Eq.refl _) rfl
theorem zQ3 {ι:Type}{I:ι→Fs×Hs}{μ:ι→Nat}{i:ι}:zVv I μ i Qx .ret fs hs=Qx .ret fs hs:=Eq.trans (Eq.refl _) rfl
attribute [go_sem] jD3 zBe jEa jD8 jKh jD9 jEb jD7 jKg jKi zWi jKb jD2 jMd jMf jMe jL9 jMa jMc jMk jMi jMj jMg zYc zTh zU1 zNn zNm
 zL2 zGz zT2 zOl zV4 zV3 zVe zQk zMp zW5 zH9 zW1 zNs zX6 jFm zEf zMt zQ3
theorem jN6 {p:Prop}[Decidable p](h:p):decide p=true:=decide_eq_true h
theorem jN5 {p:Prop}[Decidable p](h : ¬ p):decide p=false:=decide_eq_false h
theorem jId {a b:Int}(h:a=b):(a==b)=true:=by simp[h]
theorem jIc {a b:Int}(h : ¬ a=b):(a==b)=false:=by simp[h]
theorem jIf {a b:Int}(h : ¬ a=b):(a != b)=true:=by simp[h]
theorem jIe {a b:Int}(h:a=b):(a != b)=false:=by simp[h]
attribute [go_sem low] jN6 jN5 jQ0 jId jIc jIf jIe
theorem zEi {α γ:Type}{f:α→γ}{l:List α}{x:α}{r:List γ}:List.map f l++f x::r=List.map f (l++[x])++r:=sM
theorem zH1 {α γ:Type}{f:α→γ}{l r:List α}:List.map f l++List.map f r=List.map f (l++r):=sM
theorem zPj {α γ:Type}{f:α→γ}{l:List α}{n:Nat}:List.drop n (List.map f l)=List.map f (List.drop n l):=sM
theorem zTb {α γ:Type}{f:α→γ}{l:List α}{n:Nat}:List.take n (List.map f l)=List.map f (List.take n l):=sM
theorem zXt {α γ:Type}{f:α→γ}{l:List α}{n:Nat}{x:α}:List.set (List.map f l) n (f x)=List.map f (List.set l n x):=by
 rw[List.map_set]
theorem zVc {α γ:Type}{f:α→γ}{l:List α}{n:Nat}:(List.map f l)[n]?=(l[n]?).map f:=List.getElem?_map
theorem jPl {n:Nat}{x:T}:List.replicate n (V.t x)=List.map V.t (List.replicate n x):=sM
theorem jPk {n:Nat}{x:UInt8}:List.replicate n (qA x)=List.map qA (List.replicate n x):=sM
theorem jPm {n:Nat}{x:UInt32}:List.replicate n (jE x)=List.map jE (List.replicate n x):=sM
theorem jW1 {α:Type}{x:α}:List.replicate 0 x=[]:=Eq.trans (Eq.refl _) rfl
theorem jW2 {α:Type}{x:α}:List.replicate 1 x=[x]:=Eq.trans (Eq.refl _) rfl
theorem jW3 {α:Type}{x:α}:List.replicate 2 x=[x,x]:=Eq.trans (Eq.refl _) rfl
theorem jW4 {α:Type}{x:α}:List.replicate 3 x=[x,x,x]:=Eq.trans (Eq.refl _) rfl
theorem jW5 {α:Type}{x:α}:List.replicate 4 x=[x,x,x,x]:=Eq.trans (Eq.refl _) rfl
theorem jW6 {α:Type}{x:α}:List.replicate 5 x=[x,x,x,x,x]:=Eq.trans (Eq.refl _) rfl
theorem jW7 {α:Type}{x:α}:List.replicate 6 x=[x,x,x,x,x,x]:=Eq.trans (Eq.refl _) rfl
theorem jW8 {α:Type}{x:α}:List.replicate 7 x=[x,x,x,x,x,x,x]:=Eq.trans (Eq.refl _) rfl
theorem jW9 {α:Type}{x:α}:List.replicate 8 x=[x,x,x,x,x,x,x,x]:=Eq.trans (Eq.refl _) rfl
theorem jB7 {es:List T}:qDr (.t (.sl es)) = .ret (es.map .t):=Eq.trans (Eq.refl _) rfl
theorem zPs:qDr .nil = .ret []:=Eq.trans (Eq.refl _) rfl
theorem zU0 {id off len:Nat}:qDr (.sl id off len) = .get id fun
  | .live _ es _ _=>Q.assert (off+len≤es.length) (.ret ((es.drop off).take len))
  | .dead=> .fail:=Eq.trans (Eq.refl _) rfl
theorem jQ2 {z:Nat}{ts:List T}:zOk z (ts.map .t)=qRz z ts:=by
 induction ts with
 | nil=>rfl
 | cons x r ih=>
  have:zOk z (V.t x::r.map .t)=((V.t x).cells.length==z&&zOk z (r.map .t)):=rfl;rw[List.map_cons,this,ih];have:qRz z (x::r)=(x.cells.length==z&&qRz z r):=rfl;rw[this,qM3,List.length_map]
theorem jF7 {z:Nat}:zOk z []=true:=Eq.trans (Eq.refl _) rfl
theorem zYo {z:Nat}{x:V}{r:List V}:zOk z (x::r)=(x.cells.length==z&&zOk z r):=Eq.trans (Eq.refl _) rfl
theorem zYn {z:Nat}:qRz z []=true:=Eq.trans (Eq.refl _) rfl
theorem zTu {z:Nat}{x:T}{r:List T}:qRz z (x::r)=(x.cells.length==z&&qRz z r):=Eq.trans (Eq.refl _) rfl
theorem zDf {α:Type}{z:Nat}{f:α→T}(h : ∀ x,(f x).cells.length=z){l:List α}:qRz z (l.map f)=true:=by
 simp[qRz,h]
theorem jNb {l:List UInt8}:qRz 1 (l.map qA)=true:=zDf (f:=qA) (fun _=>rfl)
theorem jNc {l:List UInt32}:qRz 1 (l.map jE)=true:=zDf (f:=jE) (fun _=>rfl)
theorem zMd {es:List V}:qE5 es=match qG5 es with | some _=> .ret (es,[]) | none=>qE6 (zS 3) es:=Eq.trans (Eq.refl _) rfl
theorem zBo {α:Type}{l xs:List α}:jB l 0 xs=xs++l.drop xs.length:=by simp[jB]
theorem zBn {α:Type}{x:α}{l xs:List α}{i:Nat}:jB (x::l) (i+1) xs=x::jB l i xs:=by
 simp[jB,show i+1+xs.length=i+xs.length+1 by omega]
def zPx (b:Bool)(z:List V)(pl:List (Nat×Nat))(vs:List V):Option (List V):=if b then qXt z pl vs else none
@[congr] theorem jCb {b b':Bool} {z:List V} {pl:List (Nat×Nat)} {vs:List V} (h:b=b'):zPx b z pl vs=zPx b' z pl vs:=by rw[h]
theorem zMj {z:List V}{pl:List (Nat×Nat)}{vs:List V}:zPx true z pl vs=qXt z pl vs:=Eq.trans (Eq.refl _) rfl
theorem zPy {z:List V}:qXt z [] []=some z:=Eq.trans (Eq.refl _) rfl
theorem zMk {z:List V}{off n:Nat}{pl:List (Nat×Nat)}{v:V}{vs:List V}:qXt z ((off,n)::pl) (v::vs)=zPx (decide (v.cells.length=n∧off+n≤z.length)&&v.plain) (jB z off v.cells) pl vs:=by
 simp only[qXt,zPx,Bool.and_eq_true,decide_eq_true_eq,and_assoc]
def zD0 (b:Bool)(z:Nat)(es:List V)(ix:List Nat)(vs:List V):Option (List V):=if b then qXs z es ix vs else none
@[congr] theorem zZk {b b':Bool} {z:Nat} {es:List V} {ix:List Nat} {vs:List V} (h:b=b'):zD0 b z es ix vs=zD0 b' z es ix vs:=by rw[h]
theorem zHp {z:Nat}{es:List V}{ix:List Nat}{vs:List V}:zD0 true z es ix vs=qXs z es ix vs:=Eq.trans (Eq.refl _) rfl
theorem zPw {z:Nat}{es:List V}:qXs z es [] []=some es:=Eq.trans (Eq.refl _) rfl
theorem zMi {z i:Nat}{es:List V}{ix:List Nat}{v:V}{vs:List V}:qXs z es (i::ix) (v::vs)=zD0 (decide (v.cells.length=z∧i<es.length)&&v.plain) z (es.set i v) ix vs:=by
 simp only[qXs,zD0,Bool.and_eq_true,decide_eq_true_eq,and_assoc]
theorem zV8:qV8 []=true:=Eq.trans (Eq.refl _) rfl
theorem zRf {x:V}{r:List V}:qV8 (x::r)=(x.single&&qV8 r):=Eq.trans (Eq.refl _) rfl
theorem zV6 {a b:List V}:qV8 (a++b)=(qV8 a&&qV8 b):=by simp[qV8]
theorem zA8 {α:Type}{f:α→T}(h : ∀ x,(V.t (f x)).single=true){l:List α}:qV8 ((l.map f).map V.t)=true:=by
 simp only[qV8,List.all_eq_true];intro x hx;simp only[List.map_map,List.mem_map,Function.comp] at hx;obtain⟨a,_,rfl⟩:=hx;exact h a
theorem jJs {l:List UInt8}:qV8 ((l.map qA).map V.t)=true:=zA8 (f:=qA) (fun _=>rfl)
theorem jJt {l:List UInt32}:qV8 ((l.map jE).map V.t)=true:=zA8 (f:=jE) (fun _=>rfl)
theorem zNd {k:IntKind}{n:Int}:(V.t (T.int k n)).single=true:=Eq.trans (Eq.refl _) rfl
theorem zIj {n:UInt8}:(V.t (qA n)).single=true:=Eq.trans (Eq.refl _) rfl
theorem zNi {n:UInt32}:(V.t (jE n)).single=true:=Eq.trans (Eq.refl _) rfl
theorem zIi {n:Bool}:(V.t (T.bool n)).single=true:=Eq.trans (Eq.refl _) rfl
theorem zNg {n:ByteArray}:(V.t (T.str n)).single=true:=Eq.trans (Eq.refl _) rfl
theorem zNh {n:List T}:(V.t (T.sl n)).single=true:=Eq.trans (Eq.refl _) rfl
theorem zIl {n:List T}:(V.t (T.agg n)).single=false:=Eq.trans (Eq.refl _) rfl
theorem zNc {n:List V}:(V.agg n).single=false:=Eq.trans (Eq.refl _) rfl
theorem zS0 {i j k:Nat}:(V.sl i j k).single=true:=Eq.trans (Eq.refl _) rfl
theorem zNf {i j k:Nat}:(V.ref i j k).single=true:=Eq.trans (Eq.refl _) rfl
theorem zSy {g i j k:Nat}:(V.bd g i j k).single=true:=Eq.trans (Eq.refl _) rfl
theorem zSz:V.bq.single=true:=Eq.trans (Eq.refl _) rfl
attribute [go_sem] zSz
attribute [go_sem] zSy
theorem zNe:V.nil.single=true:=Eq.trans (Eq.refl _) rfl
theorem zNj {n b:Nat}:qDu n b=(n≤9223372036854775807∧n*b≤140737488355328):=Eq.trans (Eq.refl _) rfl
theorem jWd {l:List UInt8}{i:Nat}(h:i<l.length):l[i]?=some (l.getD i 0):=by simp[List.getD,h]
theorem jOg {l:List UInt32}{i:Nat}(h:i<l.length):l[i]?=some (l.getD i 0):=by simp[List.getD,h]
theorem jJk {a b:Nat}:(a:Int)+(b:Int)=((a+b:Nat):Int):=rfl
theorem jC8 {a n:Nat}:(a:Int)+(no_index (@OfNat.ofNat Int n _))=((a + @OfNat.ofNat Nat n (instOfNatNat n):Nat):Int):=rfl
theorem zV0 {a n:Nat}:(no_index (@OfNat.ofNat Int n _))+(a:Int)=((@OfNat.ofNat Nat n (instOfNatNat n)+a:Nat):Int):=rfl
theorem jJm {a b:Nat}:(a:Int)*(b:Int)=((a*b:Nat):Int):=rfl
theorem jDa {a n:Nat}:(no_index (@OfNat.ofNat Int n _))*(a:Int)=((@OfNat.ofNat Nat n (instOfNatNat n)*a:Nat):Int):=rfl
theorem jDc {a n:Nat}:(a:Int)*(no_index (@OfNat.ofNat Int n _))=((a * @OfNat.ofNat Nat n (instOfNatNat n):Nat):Int):=rfl
theorem jDf {a n:Nat}:(a:Int).tmod (no_index (@OfNat.ofNat Int n _))=((a % @OfNat.ofNat Nat n (instOfNatNat n):Nat):Int):=rfl
theorem jDe {a n:Nat}:(a:Int).tdiv (no_index (@OfNat.ofNat Int n _))=((a / @OfNat.ofNat Nat n (instOfNatNat n):Nat):Int):=rfl
theorem jC9 {a n:Nat}:(a:Int).fdiv (no_index (@OfNat.ofNat Int n _))=((a / @OfNat.ofNat Nat n (instOfNatNat n):Nat):Int):=by
 rw[Int.fdiv_eq_ediv_of_nonneg _ (by exact Int.natCast_nonneg n)];rfl
theorem jJn {a b:Nat}(h:b≤a):(a:Int)-(b:Int)=((a-b:Nat):Int):=oM
theorem jDd {a n:Nat}(h : @OfNat.ofNat Nat n (instOfNatNat n)≤a):(a:Int)-(no_index (@OfNat.ofNat Int n _))=((a - @OfNat.ofNat Nat n (instOfNatNat n):Nat):Int):=by
 have:(@OfNat.ofNat Int n _:Int)=((@OfNat.ofNat Nat n (instOfNatNat n):Nat):Int):=rfl;rw[this];omega
theorem jDb {a n:Nat}(h:a ≤ @OfNat.ofNat Nat n (instOfNatNat n)):(no_index (@OfNat.ofNat Int n _))-(a:Int)=((@OfNat.ofNat Nat n (instOfNatNat n)-a:Nat):Int):=by
 have:(@OfNat.ofNat Int n _:Int)=((@OfNat.ofNat Nat n (instOfNatNat n):Nat):Int):=rfl;rw[this];omega
theorem jJl {n:Nat}:(no_index (@OfNat.ofNat Int n _)).toNat = @OfNat.ofNat Nat n (instOfNatNat n):=rfl
attribute [go_sem] zV8 zRf zV6 jJs jJt zNd zIj zNi zIi zNg zNh zIl zNc zS0 zNf zNe
attribute [go_sem] zMd zBo zBn zMj zPy zMk zHp zPw zMi
attribute [go_sem] jW1 jW2 jW3 jW4 jW5 jW6 jW7 jW8 jW9 List.drop_replicate jB7 zPs zU0 jQ2 jF7 zYo zYn zTu jNb jNc zNj jPl jPk jPm
attribute [go_sem] List.idxOf_cons List.idxOf_nil cond_true cond_false Ob.live.injEq
theorem jXl {n:Int}(h : -9223372036854775808≤n∧n<9223372036854775808):IntKind.i64.wrap n=n:=qBd h
theorem jXn {n:Int}(h:0≤n∧n<18446744073709551616):IntKind.u64.wrap n=n:=qJk h
theorem jXm {n:Int}(h:0≤n∧n<4294967296):IntKind.u32.wrap n=n:=zJ6 h
theorem jLg {a:Nat}{k k':IntKind}{b:Int}(h:0≤b∧b≤64)(hk:k.bits=64):zAo .shr k (a:Int) k' b=some (.int k ((a/2^b.toNat:Nat):Int)):=by
 change (if b<0 then none else some (T.int k ((a:Int).fdiv (2^min b.toNat k.bits))))=_;rw[if_neg oM,hk,show min b.toNat 64=b.toNat by omega,Int.fdiv_eq_ediv_of_nonneg _ (Int.pow_nonneg oM)]
 norm_cast
theorem jFc {a:Nat}{k':IntKind}{b:Int}(h:0≤b∧b≤64):zAo .shr .u64 (a:Int) k' b=some (.int .u64 ((a/2^b.toNat:Nat):Int)):=jLg h rfl
theorem zIg {a:Nat}{k':IntKind}{b:Int}(h:0≤b∧b≤64):zAo .shr .i64 (a:Int) k' b=some (.int .i64 ((a/2^b.toNat:Nat):Int)):=jLg h rfl
theorem jLz {m:Nat}:T.int .u8 (IntKind.u8.wrap (m:Int))=qA (UInt8.ofNat m):=by
 unfold qA;congr 1
attribute [go_sem ↓] jFc zIg
end Go.Eng
end
section
namespace Go.Eng
structure Ct where
 α:Type
 aS:α→List V
 ins:α→List Ob
 pre:α→Prop
 r:α→V
 outs:α→List Ob
 inj : ∀ x y,aS x=aS y→ins x=ins y→r x=r y∧outs x=outs y
open Classical in
noncomputable def Ct.fs (c:Ct):FnS:=fun aS ins=>if h : ∃ x,(c.aS x=aS∧c.ins x=ins)∧c.pre x then some (c.r h.choose,c.outs h.choose) else none
theorem Ct.eq (c:Ct)(x:c.α)(h:c.pre x):c.fs (c.aS x) (c.ins x)=some (c.r x,c.outs x):=by
 have hx : ∃ y,(c.aS y=c.aS x∧c.ins y=c.ins x)∧c.pre y:=⟨x,⟨rfl,rfl⟩,h⟩;unfold Ct.fs;rw[dif_pos hx];obtain⟨h1,h2⟩:=c.inj _ _ hx.choose_spec.1.1 hx.choose_spec.1.2;rw[h1,h2]
theorem Ct.ok {P:Program}{G:Nat→Option (List T)}{f:FuncId}(c:Ct)(hc : ∀ args w,(callFunc f args).run P w = .ok (.enter f args) w)(h : ∀ x,c.pre x→zG1 P G f (c.aS x) (c.ins x) (c.r x) (c.outs x)):FOk P G f c.fs:=by
 refine FOk.of hc (fun aS ins r outs hs=>?_);unfold Ct.fs at hs;split at hs
 ·rename_i hx;cases hs;have h1:=hx.choose_spec;generalize hx.choose=y at h1 ⊢;obtain⟨⟨rfl,rfl⟩,h3⟩:=h1;exact h y h3
 ·cases hs
theorem zDq {a b:UInt8}(h:qA a=qA b):a=b:=by
 have:=congrArg d8 h;rw[zHm,zHm] at this;exact Option.some.inj this
theorem zLy {a b:UInt32}(h:jE a=jE b):a=b:=by
 have:=congrArg d32 h;rw[zPe,zPe] at this;exact Option.some.inj this
theorem qB9 {α γ:Type}{f:α→γ}(hf : ∀ a b,f a=f b→a=b) : ∀ {l m:List α},l.map f=m.map f→l=m
 | [],[],_=>rfl
 | [],_::_,h=>by simp at h
 | _::_,[],h=>by simp at h
 | a::l,b::m,h=>by
  simp only[List.map_cons,List.cons.injEq] at h;rw[hf _ _ h.1,qB9 hf h.2]
theorem yD {l m:List UInt8}:(l.map qA=m.map qA)=(l=m):=propext ⟨qB9 (fun _ _=>zDq),fun h=>by rw[h]⟩
theorem zKz {l m:List UInt32}:(l.map jE=m.map jE)=(l=m):=propext ⟨qB9 (fun _ _=>zLy),fun h=>by rw[h]⟩
theorem zVx {l m:List T}:(l.map V.t=m.map V.t)=(l=m):=propext ⟨qB9 (fun _ _ h=>V.t.inj h),fun h=>by rw[h]⟩
theorem qP6 {a b:UInt8}:(qA a=qA b)=(a=b):=propext ⟨zDq,fun h=>by rw[h]⟩
theorem zBv {a b:UInt32}:(jE a=jE b)=(a=b):=propext ⟨zLy,fun h=>by rw[h]⟩
theorem jP5 {x:UInt32}{k:IntKind}{n:Nat}:qGy .shl (jE x) (.int k (no_index (@OfNat.ofNat Int n _)))=if n<32 then some (jE (x <<< UInt32.ofNat n)) else qGy .shl (jE x) (.int k (n:Int)):=by
 split
 ·exact qVm (by assumption)
 ·rfl
theorem jP8 {x:UInt32}{k:IntKind}{n:Nat}:qGy .shr (jE x) (.int k (no_index (@OfNat.ofNat Int n _)))=if n<32 then some (jE (x >>> UInt32.ofNat n)) else qGy .shr (jE x) (.int k (n:Int)):=by
 split
 ·exact qVn (by assumption)
 ·rfl
theorem jLb {x:UInt32}{k:IntKind}{n:Nat}(h:n<32):qGy .shl (jE x) (.int k (n:Int))=some (jE (x <<< UInt32.ofNat n)):=qVm h
theorem jLf {x:UInt32}{k:IntKind}{n:Nat}(h:n<32):qGy .shr (jE x) (.int k (n:Int))=some (jE (x >>> UInt32.ofNat n)):=qVn h
theorem qCh {α:Type}{l:List α}{k:Nat}{d:α}(h:k<l.length):l.take (k+1)=l.take k++[l.getD k d]:=by
 rw[List.take_add_one];simp[List.getD,h]
theorem zZ0 {x:Int}{m:Nat}(h:m≤64):(BitVec.ofInt 64 x &&& BitVec.ofInt 64 ((2^m-1:Nat):Int)).toNat=(x%((2^m:Nat):Int)).toNat:=by
 have h0:1≤2^m:=Nat.one_le_two_pow;have h2:2^m≤2^64:=Nat.pow_le_pow_right (n:=2) oM h;rw[BitVec.toNat_and,BitVec.toNat_ofInt,BitVec.toNat_ofInt];have h1:(((2^m-1:Nat):Int)%((2^64:Nat):Int)).toNat=2^m-1:=by
  rw[Int.emod_eq_of_lt oM oM];simp
 rw[h1,Nat.and_two_pow_sub_one_eq_mod];have hd:((2^m:Nat):Int) ∣ ((2^64:Nat):Int):=Int.natCast_dvd_natCast.2 (Nat.pow_dvd_pow 2 h);have e:x%((2^64:Nat):Int)%((2^m:Nat):Int)=x%((2^m:Nat):Int):=Int.emod_emod_of_dvd x hd;rw[←e];have hx0:0≤x%((2^64:Nat):Int):=Int.emod_nonneg _ oM;generalize x%((2^64:Nat):Int)=y at hx0;obtain⟨z,rfl⟩:=Int.eq_ofNat_of_zero_le hx0;rw[←Int.natCast_emod,Int.toNat_natCast,Int.toNat_natCast]
theorem zAf {x:Int}{m:Nat}(h:m≤63):IntKind.i64.wrap ((BitVec.ofInt 64 x &&& BitVec.ofInt 64 ((2^m-1:Nat):Int)).toNat:Int)=x%((2^m:Nat):Int):=by
 rw[zZ0 oM];have h0:1≤2^m:=Nat.one_le_two_pow;have h2:2^m≤2^63:=Nat.pow_le_pow_right (n:=2) oM h;have h3:=Int.emod_nonneg x (b:=((2^m:Nat):Int)) oM;have h4:=Int.emod_lt_of_pos x (b:=((2^m:Nat):Int)) oM;rw[qBd oM];omega
theorem jVz {x:Int}:zAo .and .i64 x .i64 1=some (.int .i64 (x%2)):=by
 have h := @zAf x 1 oM;rw[show ((2^1-1:Nat):Int)=1 from rfl,show ((2^1:Nat):Int)=2 from rfl] at h;have h2:=congrArg (fun z=>some (T.int IntKind.i64 z)) h;exact h2
theorem jV1 {x:Int}:zAo .and .i64 x .i64 3=some (.int .i64 (x%4)):=by
 have h := @zAf x 2 oM;rw[show ((2^2-1:Nat):Int)=3 from rfl,show ((2^2:Nat):Int)=4 from rfl] at h;have h2:=congrArg (fun z=>some (T.int IntKind.i64 z)) h;exact h2
theorem jNo {x:Int}:zAo .and .i64 x .i64 15=some (.int .i64 (x%16)):=by
 have h := @zAf x 4 oM;rw[show ((2^4-1:Nat):Int)=15 from rfl,show ((2^4:Nat):Int)=16 from rfl] at h;have h2:=congrArg (fun z=>some (T.int IntKind.i64 z)) h;exact h2
theorem zUa {x:Int}:zAo .and .i64 x .i64 65535=some (.int .i64 (x%65536)):=by
 have h := @zAf x 16 oM;rw[show ((2^16-1:Nat):Int)=65535 from rfl,show ((2^16:Nat):Int)=65536 from rfl] at h;have h2:=congrArg (fun z=>some (T.int IntKind.i64 z)) h;exact h2
theorem jGq {x:Int}:zAo .and .u64 x .u64 31=some (.int .u64 (x%32)):=by
 have h := @zZ0 x 5 oM;rw[show ((2^5-1:Nat):Int)=31 from rfl,show ((2^5:Nat):Int)=32 from rfl] at h;have h2:IntKind.u64.wrap ((BitVec.ofInt 64 x &&& BitVec.ofInt 64 31).toNat:Int)=x%32:=by
  rw[h,qU9];omega
 have h3:=congrArg (fun z=>some (T.int IntKind.u64 z)) h2;exact h3
theorem zP8 {z:Nat}{es:List V}{wr full:Bool}:(Ob.live z es wr full).flat=qPk es:=Eq.trans (Eq.refl _) rfl
theorem zP5:qPk []=true:=Eq.trans (Eq.refl _) rfl
theorem qZq {c:V}{r:List V}:qPk (c::r)=(c.flat&&qPk r):=Eq.trans (Eq.refl _) rfl
theorem zP4:qTw []=true:=Eq.trans (Eq.refl _) rfl
theorem qL7 {c:T}{r:List T}:qTw (c::r)=(c.flat&&qTw r):=Eq.trans (Eq.refl _) rfl
theorem jCe {ts:List T}:qPk (ts.map .t)=qTw ts:=by
 induction ts with
 | nil=>rfl
 | cons x r ih=>rw[List.map_cons,qZq,ih,qL7];rfl
theorem jCc {l:List UInt8}:qTw (l.map qA)=true:=by
 induction l with
 | nil=>rfl
 | cons x r ih=>rw[List.map_cons,qL7,ih];rfl
theorem jCd {l:List UInt32}:qTw (l.map jE)=true:=by
 induction l with
 | nil=>rfl
 | cons x r ih=>rw[List.map_cons,qL7,ih];rfl
theorem zVa {i j k:Nat}:(V.sl i j k).flat=true:=Eq.trans (Eq.refl _) rfl
theorem zQd {i j k:Nat}:(V.ref i j k).flat=true:=Eq.trans (Eq.refl _) rfl
theorem zU8 {g i j k:Nat}:(V.bd g i j k).flat=true:=Eq.trans (Eq.refl _) rfl
theorem zU9:V.bq.flat=true:=Eq.trans (Eq.refl _) rfl
attribute [go_sem] zU9
attribute [go_sem] zU8
theorem zQc:V.nil.flat=true:=Eq.trans (Eq.refl _) rfl
theorem zQb {cs:List V}:(V.agg cs).flat=qPk cs:=Eq.trans (Eq.refl _) rfl
theorem zQe {cs:List V}:(V.tup cs).flat=qPk cs:=Eq.trans (Eq.refl _) rfl
theorem zU5 {cs:List T}:(T.sl cs).flat=cs.isEmpty:=Eq.trans (Eq.refl _) rfl
theorem zQa {cs:List T}:(T.agg cs).flat=qTw cs:=Eq.trans (Eq.refl _) rfl
attribute [go_sem] zP8 zP5 qZq zP4 qL7 jCe jCc jCd zVa zQd zQc zQb zQe zU5 zQa List.isEmpty_nil List.isEmpty_cons
attribute [go_sem ↓] jGq
attribute [go_sem ↓] jVz jV1 jNo zUa
attribute [go_sem] jP5 jP8 jLb jLf qP6 zBv
abbrev LkC (tab:Tab)(n:Nat)(c:Ct):Prop:=tab.look n=some c.fs
end Go.Eng
end
section
namespace Go.Eng
variable {tab:Tab} {gl:Gl} {fs:Fs} {hs:Hs} {Qx:qHq}
def upP (n:Nat)(P:Nat→Prop)(fI:Nat→Fs)(hI:Nat→Hs)(i:Nat)(Qx:qHq):qHq:=fun e fs' hs'=>match e with | .normal=>i<n∧P (i+1)∧qI fs' hs' (fI (i+1)) (hI (i+1)) | e=>Qx e fs' hs'
theorem zNv {n:Nat}{P:Nat→Prop}{fI:Nat→Fs}{hI:Nat→Hs}{i:Nat}:upP n P fI hI i Qx .normal fs hs=(i<n∧P (i+1)∧qI fs hs (fI (i+1)) (hI (i+1))):=Eq.trans (Eq.refl _) rfl
theorem zX9 {n:Nat}{P:Nat→Prop}{fI:Nat→Fs}{hI:Nat→Hs}{i id:Nat}:upP n P fI hI i Qx (.exit id) fs hs=Qx (.exit id) fs hs:=Eq.trans (Eq.refl _) rfl
theorem jFo {n:Nat}{P:Nat→Prop}{fI:Nat→Fs}{hI:Nat→Hs}{i:Nat}:upP n P fI hI i Qx .ret fs hs=Qx .ret fs hs:=Eq.trans (Eq.refl _) rfl
attribute [go_sem] zNv zX9 jFo
theorem qSj {a:AC}(n:Nat)(P:Nat→Prop)(fI:Nat→Fs)(hI:Nat→Hs)(hP:P 0)(h0:qI fs hs (fI 0) (hI 0))(h : ∀ i,i≤n→P i→a.wp tab gl (fI i) (hI i) (upP n P fI hI i Qx)):qQs tab gl a fs hs Qx:=by
 refine qLu (ι := { i:Nat // i≤n∧P i }) (fun i=>(fI i.1,hI i.1)) (fun i=>n-i.1) ⟨0,Nat.zero_le _,hP⟩ h0 (fun i=>?_);refine jF (fun e f g hq=>?_) (h i.1 i.2.1 i.2.2);cases e with
 | normal=>exact⟨⟨i.1+1,hq.1,hq.2.1⟩,by simp only;have:=hq.1;omega,hq.2.2⟩
 | exit id=>exact hq
 | ret=>exact hq
theorem zXz {a:Nat}{k':IntKind}{b:Int}(h:0≤b∧b≤32):zAo .shr .u32 (a:Int) k' b=some (.int .u32 ((a/2^b.toNat:Nat):Int)):=by
 change (if b<0 then none else some (T.int .u32 ((a:Int).fdiv (2^min b.toNat 32))))=_;rw[if_neg oM,show min b.toNat 32=b.toNat by omega,Int.fdiv_eq_ediv_of_nonneg _ (Int.pow_nonneg oM)]
 norm_cast
attribute [go_sem ↓] zXz
theorem zKj {a b:UInt8}:((a.toNat:Int)==(b.toNat:Int))=decide (a=b):=by
 by_cases h:a=b
 ·subst h;simp
 ·have : ¬ ((a.toNat:Int)=b.toNat):=fun e=>h (UInt8.toNat_inj.1 oM)
  simp[h,this]
theorem zUg {a b:UInt8}:qGy .eql (qA a) (qA b)=some (.bool (decide (a=b))):=by
 change some (T.bool ((a.toNat:Int)==(b.toNat:Int)))=_;rw[zKj]
theorem zUl {a b:UInt8}:qGy .neq (qA a) (qA b)=some (.bool (!decide (a=b))):=by
 change some (T.bool (!((a.toNat:Int)==(b.toNat:Int))))=_;rw[zKj]
theorem zUk {a b:UInt8}:qGy .lss (qA a) (qA b)=some (.bool (decide (a.toNat<b.toNat))):=by
 change some (T.bool (decide ((a.toNat:Int)<(b.toNat:Int))))=_;congr 2;simp
theorem zUi {a b:UInt8}:qGy .gtr (qA a) (qA b)=some (.bool (decide (a.toNat>b.toNat))):=by
 change some (T.bool (decide ((a.toNat:Int)>(b.toNat:Int))))=_;congr 2;simp
theorem zUj {a b:UInt8}:qGy .leq (qA a) (qA b)=some (.bool (decide (a.toNat≤b.toNat))):=by
 change some (T.bool (decide ((a.toNat:Int)≤(b.toNat:Int))))=_;congr 2;simp
theorem zUh {a b:UInt8}:qGy .geq (qA a) (qA b)=some (.bool (decide (a.toNat ≥ b.toNat))):=by
 change some (T.bool (decide ((a.toNat:Int) ≥ (b.toNat:Int))))=_;congr 2;simp
theorem zOw {a b:UInt8}:qGy .xor (qA a) (qA b)=some (qA (a ^^^ b)):=by
 change some (T.int .u8 (IntKind.u8.wrap ((BitVec.ofInt 8 (a.toNat:Int) ^^^ BitVec.ofInt 8 (b.toNat:Int)).toNat:Int)))=_;have e : ∀ x:UInt8,BitVec.ofInt 8 (x.toNat:Int)=x.toBitVec:=fun x=>BitVec.eq_of_toNat_eq sM
 rw[e,e,←UInt8.toBitVec_xor,qL2];have:=(a ^^^ b).toNat_lt;unfold qA;rw[UInt8.toNat_toBitVec];congr 2;omega
attribute [go_sem ↓] zUg zUl zUk zUi zUj zUh zOw
attribute [go_sem] UInt8.reduceToNat
theorem zAs {b:UInt8}:qJg .u64 [.t (qA b)] = .ret (.t (.int .u64 (b.toNat:Int)),[]):=by
 change Q.ret (V.t (.int .u64 (IntKind.u64.wrap (b.toNat:Int))),([]:Wr))=_;have:=b.toNat_lt;rw[qJk oM]
theorem zAq {b:UInt8}:qJg .i64 [.t (qA b)] = .ret (.t (.int .i64 (b.toNat:Int)),[]):=by
 change Q.ret (V.t (.int .i64 (IntKind.i64.wrap (b.toNat:Int))),([]:Wr))=_;have:=b.toNat_lt;rw[qBd oM]
theorem zXx {a:Nat}{k':IntKind}(h:a<72057594037927936):zAo .shl .u64 (a:Int) k' 8=some (.int .u64 ((256*a:Nat):Int)):=by
 change (if (8:Int)<0 then none else some (T.int .u64 (IntKind.u64.wrap ((a:Int)*2^min (8:Int).toNat 64))))=_;rw[if_neg oM,show (a:Int)*2^min (8:Int).toNat 64=((256*a:Nat):Int) by
  rw[show min (8:Int).toNat 64=8 from rfl];omega,qJk oM]
theorem or8 {a x:Nat}(hx:x<256):(256*a) ||| x=256*a+x:=by
 have:=Nat.shiftLeft_add_eq_or_of_lt (i:=8) (b:=x) oM a;rw[Nat.shiftLeft_eq] at this;rw[Nat.mul_comm];exact this.symm
theorem jDm {a:Nat}{x:UInt8}(h:a<72057594037927936):zAo .or .u64 ((256*a:Nat):Int) .u64 (x.toNat:Int)=some (.int .u64 ((256*a+x.toNat:Nat):Int)):=by
 have hx:=x.toNat_lt;change some (T.int .u64 (IntKind.u64.wrap ((BitVec.ofInt 64 ((256*a:Nat):Int) ||| BitVec.ofInt 64 (x.toNat:Int)).toNat:Int)))=_;have e:(BitVec.ofInt 64 ((256*a:Nat):Int) ||| BitVec.ofInt 64 (x.toNat:Int)).toNat=256*a+x.toNat:=by
  rw[BitVec.toNat_or,BitVec.toNat_ofInt,BitVec.toNat_ofInt,Int.emod_eq_of_lt oM oM,Int.emod_eq_of_lt oM oM,Int.toNat_natCast,Int.toNat_natCast,or8 oM]
 rw[e,qJk oM]
attribute [go_sem ↓] zAs zAq zXx jDm
theorem zHd {bs:List UInt8}:bsT bs = .sl (bs.map qA):=Eq.trans (Eq.refl _) rfl
theorem jWe {l:List (List UInt8)}{i:Nat}(h:i<l.length):l[i]?=some (l.getD i []):=by simp[List.getD,h]
theorem jVt {l:List (List (List UInt8))}{i:Nat}(h:i<l.length):l[i]?=some (l.getD i []):=by simp[List.getD,h]
theorem zHe {l:List (List UInt8)}{x:List UInt8}{r:List T}:List.map bsT l++T.sl (List.map qA x)::r=List.map bsT (l++[x])++r:=by simp[bsT]
theorem jF6 {l:List (List UInt8)}:qRz 1 (l.map bsT)=true:=zDf (f:=bsT) (fun _=>rfl)
theorem zRe {l:List (List UInt8)}:qV8 ((l.map bsT).map V.t)=true:=zA8 (f:=bsT) (fun _=>rfl)
theorem jBn {a b:List UInt8}(h:bsT a=bsT b):a=b:=by
 have:=congrArg dBs h;rw[bsT,bsT,zDv,zDv] at this;exact Option.some.inj this
theorem qHj {l m:List (List UInt8)}:(l.map bsT=m.map bsT)=(l=m):=propext ⟨qB9 (fun _ _=>jBn),fun h=>by rw[h]⟩
theorem zT6 {ts:List T}{r:List V}:qG5 (ts.map .t++r)=(qG5 r).map (ts ++ ·):=by
 induction ts with
 | nil=>simp[Option.map_id']
 | cons x l ih=>
  rw[List.map_cons,List.cons_append,qVd,ih,Option.map_map];rfl
attribute [go_sem] zT6
attribute [go_sem] zHd zHe jF6 zRe
end Go.Eng
end
section
namespace Go.Eng
theorem zJ9 {ts:List T}{i:Nat}{v:V}(h:i<ts.length)(hv : ∀ x,v≠ .t x):qG5 ((ts.map .t).set i v)=none:=by
 induction ts generalizing i with
 | nil=>simp at h
 | cons x r ih=>
  cases i with
  | zero=>
   rw[List.map_cons,List.set_cons_zero];cases v with
   | t y=>exact absurd rfl (hv y)
   | _=>rfl
  | succ i=>
   rw[List.map_cons,List.set_cons_succ,qVd,ih (by simpa using h)];rfl
theorem zG5 {ts:List T}{i id off len:Nat}(h:i<ts.length):qG5 ((ts.map .t).set i (.sl id off len))=none:=zJ9 h sM
theorem zDl {ts:List T}{i:Nat}{cs:List V}(h:i<ts.length):qG5 ((ts.map .t).set i (.agg cs))=none:=zJ9 h sM
theorem jD4 {n:Nat}{ts:List T}{i:Nat}{v:V}(h:i<ts.length):rdL (rdV n) ((ts.map .t).set i v)=(rdV n v).bind fun x=> .ret ((ts.map .t).set i x):=by
 induction ts generalizing i with
 | nil=>simp at h
 | cons x r ih=>
  cases i with
  | zero=>rw[List.map_cons,List.set_cons_zero,zBe,jKb];rfl
  | succ i=>
   rw[List.map_cons,List.set_cons_succ,zBe,jEa,ih (by simpa using h),qUo,qF4];rfl
theorem zPb {n:Nat}{ts:List T}:qE6 (zS n) (ts.map .t) = .ret (ts.map .t,[]):=by
 induction ts with
 | nil=>rfl
 | cons x r ih=>rw[List.map_cons,qL3,zPc,qUo,ih,qUo];rfl
theorem zPa {n:Nat}{ts:List T}{i:Nat}{v:V}(h:i<ts.length):qE6 (zS n) ((ts.map .t).set i v)=(zS n v).bind fun p=> .ret ((ts.map .t).set i p.1,p.2):=by
 induction ts generalizing i with
 | nil=>simp at h
 | cons x r ih=>
  cases i with
  | zero=>
   rw[List.map_cons,List.set_cons_zero,qL3,zPb];simp[Q.bind]
  | succ i=>
   rw[List.map_cons,List.set_cons_succ,qL3,zPc,qUo,ih (by simpa using h),qF4];rfl
theorem zV9 {es:List V}{i:Nat}{v:V}(h:qV8 es=true)(hv:v.single=true):qV8 (es.set i v)=true:=by
 simp only[qV8,List.all_eq_true] at *;intro x hx;rcases List.mem_or_eq_of_mem_set hx with h1 | rfl
 ·exact h x h1
 ·exact hv
theorem zH5 {l:List (List UInt8)}{i id off len:Nat}:qV8 (((l.map bsT).map V.t).set i (.sl id off len))=true:=zV9 zRe rfl
theorem jG9 {l:List (List UInt8)}{i:Nat}{x:List UInt8}:List.set (List.map bsT l) i (T.sl (List.map qA x))=List.map bsT (l.set i x):=by
 rw[List.map_set];rfl
attribute [go_sem] zG5 zDl jD4 zPb zPa zH5 jG9
theorem qBl {tab:Tab}{gl:Gl}{a:AC}{fs fs':Fs}{hs hs':Hs}{Qx:qHq}(h:qI fs hs fs' hs')(hl:qQs tab gl a fs' hs' Qx):qQs tab gl a fs hs Qx:=by
 obtain⟨ι,I,μ,i0,h0,hr⟩:=hl;exact⟨ι,I,μ,i0,h.trans h0,hr⟩
end Go.Eng
end
section
set_option maxRecDepth 20000
namespace Go.Eng
open Go.MuLone
theorem jXj {P:Program}{G:Gl}{tab:Tab}{f:FuncId}{fn:Func}{c:Code}{ac:AC}{hints:List (Nat×List Nat)}{rs:List (Nat×Option (Nat×Bool))}(hf:P.funcs[f]?=some fn)(hname:(fn.name == "runtime.NumGoroutine")=false)(hb:fn.body=some c)(hann:ann P fn.ntmps hints c=some ac)(hmx:P.follows .mixedOrders=true)
  (ht:qG9 P G tab) (hrs:qQx P fn.results.toList=some rs) (ct:Ct) (hn : ∀ x,(ct.aS x).length≤fn.ntmps) (hi : ∀ x,(ct.ins x).length≤100)
  (h : ∀ x,ct.pre x→ac.wp tab G (qE 0 (ct.aS x)) (qE 0 (ct.ins x)) (qX rs (ct.ins x).length (fun r' o'=>r'=ct.r x∧o'=ct.outs x))):FOk P G f ct.fs:=
 ct.ok (fun args w=>run_callFunc_enter hf hname hb args w) (fun x hx=>zIn hf hb hann hmx ht hrs (hn x) (hi x) (h x hx))
theorem jXh {P:Program}{G:Gl}{tab:Tab}{f:FuncId}{fn:Func}{c:Code}{ac:AC}{hints:List (Nat×List Nat)}{rs:List (Nat×Option (Nat×Bool))}(fz:List Nat)(hf:P.funcs[f]?=some fn)(hname:(fn.name == "runtime.NumGoroutine")=false)(hb:fn.body=some c)(hann:ann P fn.ntmps hints c=some ac)(hmx:P.follows .mixedOrders=true)
  (ht:qG9 P G tab) (hrs:qQx P fn.results.toList=some rs) (ct:Ct) (hn : ∀ x,(ct.aS x).length≤fn.ntmps) (hi : ∀ x,(ct.ins x).length≤100)
  (h : ∀ x,ct.pre x→ac.wp tab G (qE 0 (ct.aS x)) (qE 0 (ct.ins x)) (xU fz rs (ct.ins x).length (fun r' o'=>r'=ct.r x∧o'=ct.outs x))):FOk P G f ct.fs:=
 ct.ok (fun args w=>run_callFunc_enter hf hname hb args w) (fun x hx=>zFc fz hf hb hann hmx ht hrs (hn x) (hi x) (h x hx))
theorem jXi {P:Program}{G:Gl}{tab:Tab}{f:FuncId}{fn:Func}{c:Code}{ac:AC}{hints:List (Nat×List Nat)}{rs:List (Nat×Option (Nat×Bool))}(hf:P.funcs[f]?=some fn)(hb:fn.body=some c)(hann:ann P fn.ntmps hints c=some ac)(hmx:P.follows .mixedOrders=true)
  (ht:qG9 P G tab) (hrs:qQx P fn.results.toList=some rs) {aS:List V} (hn:aS.length≤fn.ntmps)
  (h:ac.wp tab G (qE 0 aS) (qE 0 []) (qX rs 0 (fun r o=>r = .t (.bool true)∧o=[]))):zG1 P G f aS [] (.t (.bool true)) []:=
 zIn hf hb hann hmx ht hrs hn (Nat.zero_le _) h
theorem jLx {P:Program}{G:Gl}{tab:Tab}{f:FuncId}(fn:Func)(hints:List (Nat×List Nat))(ac:AC)(rs:List (Nat×Option (Nat×Bool)))(ht:qG9 P G tab){aS:List V}
  (h:ac.wp tab G (qE 0 aS) (qE 0 []) (qX rs 0 (fun r o=>r = .t (.bool true)∧o=[])))
  (hf:P.funcs[f]?=some fn:=by kernel_rfl) (hb:fn.body=some (fn.body.getD .skip):=by kernel_rfl) (hann:ann P fn.ntmps hints (fn.body.getD .skip)=some ac:=by kernel_rfl) (hmx:P.follows .mixedOrders=true:=by kernel_rfl)
  (hrs:qQx P fn.results.toList=some rs:=by kernel_rfl) (hn:aS.length≤fn.ntmps:=by exact Nat.le_of_ble_eq_true (by kernel_rfl)):zG1 P G f aS [] (.t (.bool true)) []:=jXi hf hb hann hmx ht hrs hn h
end Go.Eng
end
section
set_option maxRecDepth 20000
namespace Go.Eng
open Go.MuLone
structure ECt where
 α:Type
 β:Type
 d:β:=by exact default
 aS:α→List V
 ins:α→List Ob:=fun _=>[]
 pre:α→Prop
 r:β→V
 outs:β→List Ob:=fun _=>[]
 R:α→β→Prop
 inj : ∀ x y,aS x=aS y→ins x=ins y→x=y:=by simp only[Prod.forall,zAy,jOb,Prod.mk.injEq];intros;assumption
structure EF (E:ECt) where
 F:E.α→E.β
 ok : ∀ x,E.pre x→E.R x (F x)
def ECt.ct (E:ECt)(G:EF E):Ct:=⟨E.α,E.aS,E.ins,E.pre,fun x=>E.r (G.F x),fun x=>E.outs (G.F x),fun x y h h'=>by rw[E.inj x y h h'];exact⟨rfl,rfl⟩⟩
noncomputable def ECt.fs (E:ECt)(G:EF E):FnS:=(E.ct G).fs
theorem ECt.eq (E:ECt)(G:EF E)(x:E.α)(h:E.pre x) : ∃ y,E.R x y∧E.fs G (E.aS x) (E.ins x)=some (E.r y,E.outs y):=⟨G.F x,G.ok x h,(E.ct G).eq x h⟩
theorem fnQ (E:ECt){g:EF E}(x:E.α)(h:E.pre x){e:E.β}(hr : ∀ y,E.R x y→y=e:=by exact fun _ h=>h):E.fs g (E.aS x) (E.ins x)=some (E.r e,E.outs e):=by
 obtain⟨y,h1,h2⟩:=E.eq g x h;cases hr y h1;exact h2
theorem EF.ok_of {P:Program}{G:Gl}{f:FuncId}(E:ECt)(hc : ∀ args w,(callFunc f args).run P w = .ok (.enter f args) w)
  (h : ∀ x,E.pre x → ∃ y,E.R x y∧zG1 P G f (E.aS x) (E.ins x) (E.r y) (E.outs y)) : ∃ g:EF E,FOk P G f (E.fs g):=by
 classical
 refine⟨⟨fun x=>if hx:E.pre x then (h x hx).choose else E.d,fun x hx=>?_⟩,(E.ct _).ok hc (fun x hx=>?_)⟩
 ·simp only[dif_pos hx];exact (h x hx).choose_spec.1
 ·show zG1 P G f (E.aS x) (E.ins x) (E.r _) (E.outs _);simp only[dif_pos (show E.pre x from hx)];exact (h x hx).choose_spec.2
def ECt.K (E:ECt)(x:E.α)(r:V)(o:List Ob):Prop := ∃ y,E.R x y∧r=E.r y∧o=E.outs y
theorem jEo {rs:List (Nat×Option (Nat×Bool))}{n:Nat}{κ:Type}{A:κ→V→List Ob→Prop}{e:AE}{fs:Fs}{hs:Hs}(h:qX rs n (fun r o => ∃ y,A y r o) e fs hs) : ∃ y,qX rs n (A y) e fs hs:=by
 cases e with
 | exit id=>exact h.elim
 | normal=>obtain⟨p,l,h1,y,h2⟩:=h;exact⟨y,p,l,h1,h2⟩
 | ret=>obtain⟨p,l,h1,y,h2⟩:=h;exact⟨y,p,l,h1,h2⟩
theorem jEn {fz:List Nat}{rs:List (Nat×Option (Nat×Bool))}{n:Nat}{κ:Type}{A:κ→V→List Ob→Prop}{e:AE}{fs:Fs}{hs:Hs}(h:xU fz rs n (fun r o => ∃ y,A y r o) e fs hs) : ∃ y,xU fz rs n (A y) e fs hs:=by
 cases e with
 | exit id=>exact h.elim
 | normal=>
  obtain⟨p,l,h1,p2,l2,h2,y,h3⟩:=h;exact⟨y,p,l,h1,p2,l2,h2,h3⟩
 | ret=>
  obtain⟨p,l,h1,p2,l2,h2,y,h3⟩:=h;exact⟨y,p,l,h1,p2,l2,h2,h3⟩
theorem zZg {α:Type}{R A:α→Prop}(h : ∃ y,R y∧A y) : ∃ z : { y // R y },A z.1:=let ⟨y,h1,h2⟩:=h;⟨⟨y,h1⟩,h2⟩
theorem jQg {P:Program}{G:Gl}{tab:Tab}{f:FuncId}(fn:Func)(hints:List (Nat×List Nat))(ac:AC)(rs:List (Nat×Option (Nat×Bool)))(ht:qG9 P G tab)(E:ECt)
  (h : ∀ x,E.pre x→ac.wp tab G (qE 0 (E.aS x)) (qE 0 (E.ins x)) (qX rs (E.ins x).length (E.K x)))
  (hf:P.funcs[f]?=some fn:=by kernel_rfl) (hname:(fn.name == "runtime.NumGoroutine")=false:=by kernel_rfl) (hb:fn.body=some (fn.body.getD .skip):=by kernel_rfl) (hann:ann P fn.ntmps hints (fn.body.getD .skip)=some ac:=by kernel_rfl) (hmx:P.follows .mixedOrders=true:=by kernel_rfl)
  (hrs:qQx P fn.results.toList=some rs:=by kernel_rfl) (hst:ac.strict=true:=by kernel_rfl) (hn : ∀ x,(E.aS x).length≤fn.ntmps:=by exact fun _=>Nat.le_of_ble_eq_true (by kernel_rfl)) (hi : ∀ x,(E.ins x).length≤100:=by exact fun _=>Nat.le_of_ble_eq_true (by kernel_rfl)) : ∃ g:EF E,FOk P G f (E.fs g):=
 EF.ok_of E (fun args w=>run_callFunc_enter hf hname hb args w) (fun x hx=>by
  obtain⟨z,hz⟩:=zGw (Q:=fun z : { y // E.R x y }=>qX rs (E.ins x).length (fun r o=>r=E.r z.1∧o=E.outs z.1)) hst (jF (fun e f g hq=>by
   obtain⟨y,hy⟩:=jEo hq;have : ∃ y,E.R x y∧qX rs (E.ins x).length (fun r o=>r=E.r y∧o=E.outs y) e f g:=by
    cases e with
    | exit id=>exact hy.elim
    | normal=>obtain⟨p,l,h1,h2,h3⟩:=hy;exact⟨y,h2,p,l,h1,h3⟩
    | ret=>obtain⟨p,l,h1,h2,h3⟩:=hy;exact⟨y,h2,p,l,h1,h3⟩
   exact zZg this) (h x hx))
  exact⟨z.1,z.2,zIn hf hb hann hmx ht hrs (hn x) (hi x) hz⟩)
theorem jQh {P:Program}{G:Gl}{tab:Tab}{f:FuncId}(fz:List Nat)(fn:Func)(hints:List (Nat×List Nat))(ac:AC)(rs:List (Nat×Option (Nat×Bool)))(ht:qG9 P G tab)(E:ECt)
  (h : ∀ x,E.pre x→ac.wp tab G (qE 0 (E.aS x)) (qE 0 (E.ins x)) (xU fz rs (E.ins x).length (E.K x)))
  (hf:P.funcs[f]?=some fn:=by kernel_rfl) (hname:(fn.name == "runtime.NumGoroutine")=false:=by kernel_rfl) (hb:fn.body=some (fn.body.getD .skip):=by kernel_rfl) (hann:ann P fn.ntmps hints (fn.body.getD .skip)=some ac:=by kernel_rfl) (hmx:P.follows .mixedOrders=true:=by kernel_rfl)
  (hrs:qQx P fn.results.toList=some rs:=by kernel_rfl) (hst:ac.strict=true:=by kernel_rfl) (hn : ∀ x,(E.aS x).length≤fn.ntmps:=by exact fun _=>Nat.le_of_ble_eq_true (by kernel_rfl)) (hi : ∀ x,(E.ins x).length≤100:=by exact fun _=>Nat.le_of_ble_eq_true (by kernel_rfl)) : ∃ g:EF E,FOk P G f (E.fs g):=
 EF.ok_of E (fun args w=>run_callFunc_enter hf hname hb args w) (fun x hx=>by
  obtain⟨z,hz⟩:=zGw (Q:=fun z : { y // E.R x y }=>xU fz rs (E.ins x).length (fun r o=>r=E.r z.1∧o=E.outs z.1)) hst (jF (fun e f g hq=>by
   obtain⟨y,hy⟩:=jEn hq;have : ∃ y,E.R x y∧xU fz rs (E.ins x).length (fun r o=>r=E.r y∧o=E.outs y) e f g:=by
    cases e with
    | exit id=>exact hy.elim
    | normal=>obtain⟨p,l,h1,p2,l2,h2,h3,h4⟩:=hy;exact⟨y,h3,p,l,h1,p2,l2,h2,h4⟩
    | ret=>obtain⟨p,l,h1,p2,l2,h2,h3,h4⟩:=hy;exact⟨y,h3,p,l,h1,p2,l2,h2,h4⟩
   exact zZg this) (h x hx))
  exact⟨z.1,z.2,zFc fz hf hb hann hmx ht hrs (hn x) (hi x) hz⟩)
theorem qU:(∀ b:Bool,((!b)=true)=(b=false))∧(∀ b:Bool,((!b)=false)=(b=true))∧(∀ (p:Prop) [Decidable p],(decide p=true)=p)∧(∀ (p:Prop) [Decidable p],(decide p=false) = ¬ p)∧(∀ p:Prop,(¬ ¬ p)=p)∧
  (∀ a b:Int,((a==b)=true)=(a=b))∧(∀ a b:Int,((a==b)=false) = ¬ (a=b))∧(∀ a b:Int,((a != b)=true) = ¬ (a=b))∧(∀ a b:Int,((a != b)=false)=(a=b)):=by
 refine⟨sM,sM,sM,sM,sM,sM,sM,sM,sM⟩
abbrev LkE (tab:Tab)(n:Nat)(E:ECt)(g:EF E):Prop:=tab.look n=some (E.fs g)
end Go.Eng
end
section
namespace Go.Eng
theorem jVv {α:Type}:(∀ (n:Nat) (l:List α),(l.take n).length=min n l.length)∧(∀ (n:Nat) (l:List α),(l.drop n).length=l.length-n)∧(∀ (l m:List α),(l++m).length=l.length+m.length)∧(∀ (a:α) (l:List α),(a::l).length=l.length+1)∧(([]:List α).length=0)∧(∀ (n:Nat) (a:α),(List.replicate n a).length=n)∧(∀ (l:List α) (n:Nat) (a:α),(l.set n a).length=l.length):=sM
theorem jWg {α γ:Type}(f:α→γ)(l:List α):(l.map f).length=l.length:=List.length_map f
theorem dS {p:Prop}(h:p:=by first|omega|(simp only[jVv,jWg];omega)):p:=h
theorem aiG {a b:Prop}(k:b)(h:a:=by first|rfl|omega):a∧b:=⟨h,k⟩
attribute [go_sem] Bool.false_eq_true Int.toNat_natCast Bool.and_self false_and and_false or_true true_or or_false false_or Bool.or_self Bool.or_true Bool.true_or Bool.or_false Bool.false_or Bool.and_false Bool.false_and not_true_eq_false not_false_eq_true and_self List.length_append List.length_set List.take_length Option.getD_some Option.getD_none false_implies implies_true Option.some.injEq forall_eq_apply_imp_iff forall_eq forall_eq' List.length_drop List.length_take List.getElem?_drop Nat.mul_one Nat.one_mul Nat.zero_add Nat.add_zero Nat.sub_zero Nat.add_sub_cancel_left Nat.add_sub_cancel jXl jXn jXm zEi zH1 zPj zTb zXt zVc jWd jOg jWe jVt jJk jC8 zV0 jJm jDa jDc jDf jDe jC9 jLz Nat.min_eq_left Nat.min_eq_right jJn jDd jDb jJl Int.cast_ofNat_Int Int.natCast_zero Int.natCast_one
variable {tab:Tab} {gl:Gl} {fs:Fs} {hs:Hs} {Qx:qHq} {fm:Nat→Option V} {nb:Nat} {K:V×Wr→List Nat→Prop}
def mv (d s:Nat):jC:=⟨some d,.op .mov,[.tmp s],none⟩
theorem jWq {d s:Nat}:((mv d s).q tab gl fm nb).wp hs K=((⟨some d,.op .mov,[.tmp s],none⟩:jC).q tab gl fm nb).wp hs K:=Eq.trans (Eq.refl _) rfl
theorem jWp {d s:Nat}:(mv d s).dst=some d:=Eq.trans (Eq.refl _) rfl
def mG (d s t:Nat):jC:=⟨some d,.op .mov,[.tmp s],some (t,true)⟩
theorem jWo {d s t:Nat}:((mG d s t).q tab gl fm nb).wp hs K=((⟨some d,.op .mov,[.tmp s],some (t,true)⟩:jC).q tab gl fm nb).wp hs K:=Eq.trans (Eq.refl _) rfl
theorem jWn {d s t:Nat}:(mG d s t).dst=some d:=Eq.trans (Eq.refl _) rfl
def mC (d:Nat)(v:V):jC:=⟨some d,.op .mov,[.cst v],none⟩
theorem jWk {d:Nat}{v:V}:((mC d v).q tab gl fm nb).wp hs K=((⟨some d,.op .mov,[.cst v],none⟩:jC).q tab gl fm nb).wp hs K:=Eq.trans (Eq.refl _) rfl
theorem jWj {d:Nat}{v:V}:(mC d v).dst=some d:=Eq.trans (Eq.refl _) rfl
def oO (d:Nat)(a:AO)(xs:List qG7):jC:=⟨some d,.op a,xs,none⟩
theorem jWw {d:Nat}{a:AO}{xs:List qG7}:((oO d a xs).q tab gl fm nb).wp hs K=((⟨some d,.op a,xs,none⟩:jC).q tab gl fm nb).wp hs K:=Eq.trans (Eq.refl _) rfl
theorem jWv {d:Nat}{a:AO}{xs:List qG7}:(oO d a xs).dst=some d:=Eq.trans (Eq.refl _) rfl
def oG (d t:Nat)(a:AO)(xs:List qG7):jC:=⟨some d,.op a,xs,some (t,true)⟩
theorem jWu {d t:Nat}{a:AO}{xs:List qG7}:((oG d t a xs).q tab gl fm nb).wp hs K=((⟨some d,.op a,xs,some (t,true)⟩:jC).q tab gl fm nb).wp hs K:=Eq.trans (Eq.refl _) rfl
theorem jWt {d t:Nat}{a:AO}{xs:List qG7}:(oG d t a xs).dst=some d:=Eq.trans (Eq.refl _) rfl
def bT (d:Nat)(o:BinOp)(x y:Nat):jC:=⟨some d,.op (.bin o),[.tmp x,.tmp y],none⟩
theorem jV5 {d:Nat}{o:BinOp}{x y:Nat}:((bT d o x y).q tab gl fm nb).wp hs K=((⟨some d,.op (.bin o),[.tmp x,.tmp y],none⟩:jC).q tab gl fm nb).wp hs K:=Eq.trans (Eq.refl _) rfl
theorem jV4 {d:Nat}{o:BinOp}{x y:Nat}:(bT d o x y).dst=some d:=Eq.trans (Eq.refl _) rfl
def bN (d:Nat)(o:BinOp)(x:Nat)(n:Int):jC:=⟨some d,.op (.bin o),[.tmp x,.cst (.t (.int .i64 n))],none⟩
theorem jV3 {d:Nat}{o:BinOp}{x:Nat}{n:Int}:((bN d o x n).q tab gl fm nb).wp hs K=((⟨some d,.op (.bin o),[.tmp x,.cst (.t (.int .i64 n))],none⟩:jC).q tab gl fm nb).wp hs K:=Eq.trans (Eq.refl _) rfl
theorem jV2 {d:Nat}{o:BinOp}{x:Nat}{n:Int}:(bN d o x n).dst=some d:=Eq.trans (Eq.refl _) rfl
def cL (d f:Nat)(k:Bool)(xs:List qG7):jC:=⟨some d,.call f k,xs,none⟩
theorem jWb {d f:Nat}{k:Bool}{xs:List qG7}:((cL d f k xs).q tab gl fm nb).wp hs K=((⟨some d,.call f k,xs,none⟩:jC).q tab gl fm nb).wp hs K:=Eq.trans (Eq.refl _) rfl
theorem jWa {d f:Nat}{k:Bool}{xs:List qG7}:(cL d f k xs).dst=some d:=Eq.trans (Eq.refl _) rfl
def mF (d s t:Nat):jC:=⟨some d,.op .mov,[.tmp s],some (t,false)⟩
theorem jWm {d s t:Nat}:((mF d s t).q tab gl fm nb).wp hs K=((⟨some d,.op .mov,[.tmp s],some (t,false)⟩:jC).q tab gl fm nb).wp hs K:=Eq.trans (Eq.refl _) rfl
theorem jWl {d s t:Nat}:(mF d s t).dst=some d:=Eq.trans (Eq.refl _) rfl
def oF (d t:Nat)(a:AO)(xs:List qG7):jC:=⟨some d,.op a,xs,some (t,false)⟩
theorem jWs {d t:Nat}{a:AO}{xs:List qG7}:((oF d t a xs).q tab gl fm nb).wp hs K=((⟨some d,.op a,xs,some (t,false)⟩:jC).q tab gl fm nb).wp hs K:=Eq.trans (Eq.refl _) rfl
theorem jWr {d t:Nat}{a:AO}{xs:List qG7}:(oF d t a xs).dst=some d:=Eq.trans (Eq.refl _) rfl
def cG (d t f:Nat)(k:Bool)(xs:List qG7):jC:=⟨some d,.call f k,xs,some (t,true)⟩
theorem jV9 {d t f:Nat}{k:Bool}{xs:List qG7}:((cG d t f k xs).q tab gl fm nb).wp hs K=((⟨some d,.call f k,xs,some (t,true)⟩:jC).q tab gl fm nb).wp hs K:=Eq.trans (Eq.refl _) rfl
theorem jV8 {d t f:Nat}{k:Bool}{xs:List qG7}:(cG d t f k xs).dst=some d:=Eq.trans (Eq.refl _) rfl
def cF (d t f:Nat)(k:Bool)(xs:List qG7):jC:=⟨some d,.call f k,xs,some (t,false)⟩
theorem jV7 {d t f:Nat}{k:Bool}{xs:List qG7}:((cF d t f k xs).q tab gl fm nb).wp hs K=((⟨some d,.call f k,xs,some (t,false)⟩:jC).q tab gl fm nb).wp hs K:=Eq.trans (Eq.refl _) rfl
theorem jV6 {d t f:Nat}{k:Bool}{xs:List qG7}:(cF d t f k xs).dst=some d:=Eq.trans (Eq.refl _) rfl
attribute [go_sem ↓] jWm jWs jV9 jV7
attribute [go_sem] jWl jWr jV8 jV6
def oS (n x y:Nat):jC:=⟨none,.op (.store n),[.tmp x,.tmp y],none⟩
theorem jWy {n x y:Nat}:((oS n x y).q tab gl fm nb).wp hs K=((⟨none,.op (.store n),[.tmp x,.tmp y],none⟩:jC).q tab gl fm nb).wp hs K:=Eq.trans (Eq.refl _) rfl
theorem jWx {n x y:Nat}:(oS n x y).dst=none:=Eq.trans (Eq.refl _) rfl
def rG (nb:Nat)(os:List jC):AC:= .reg nb none os
theorem jWz {os:List jC}:(rG nb os).wp tab gl fs hs Qx=(AC.reg nb none os).wp tab gl fs hs Qx:=Eq.trans (Eq.refl _) rfl
attribute [go_sem ↓] jWz jWq jWo jWk jWw jWu jV5 jV3 jWb jWy
attribute [go_sem] jWp jWn jWj jWv jWt jV4 jV2 jWa jWx
attribute [go_sem] Int.reduceAdd Int.reduceBEq Int.reduceDiv Int.reduceEq Int.reduceFDiv Int.reduceGE Int.reduceGT Int.reduceLE Int.reduceLT Int.reduceMod Int.reduceMul Int.reduceNeg Int.reducePow Int.reduceSub Int.reduceTDiv Int.reduceTMod Int.reduceToNat Nat.reduceAdd Nat.reduceBEq Nat.reduceBneDiff Nat.reduceDiv Nat.reduceEqDiff Nat.reduceGT Nat.reduceLT Nat.reduceLeDiff Nat.reduceMod Nat.reduceMul Nat.reducePow Nat.reduceSub reduceCtorEq
attribute [go_sem ↓] reduceIte
theorem mcn {α β:Type}:(∀ (f:α→β) (a:α) (l:List α),List.map f (a::l)=f a::List.map f l) ∧ ∀ f:α→β,List.map f []=[]:=⟨fun _ _ _=>rfl,fun _=>rfl⟩
theorem oms {α β:Type}{f:α→β}{a:α}:Option.map f (some a)=some (f a):=rfl
end Go.Eng
end
section
namespace Go.Eng
def qMb (s:List UInt8):T:= .str ⟨s.toArray⟩
theorem zX2 {s:List UInt8}:T.str ⟨s.toArray⟩=qMb s:=Eq.trans (Eq.refl _) rfl
theorem qVj (b:ByteArray) : ∀ (n i:Nat) (r:List UInt8),n=b.size-i→ByteArray.toList.loop b i r=r.reverse++b.data.toList.drop i
 | 0,i,r,h=>by
  unfold ByteArray.toList.loop;rw[if_neg oM];have:b.data.toList.drop i=[]:=List.drop_eq_nil_of_le (by have:b.data.toList.length=b.size:=rfl;omega);rw[this,List.append_nil]
 | n+1,i,r,h=>by
  unfold ByteArray.toList.loop;have hi:i<b.size:=oM;have hl:b.data.toList.length=b.size:=rfl;rw[if_pos hi,qVj b n (i+1) _ oM];have e:b.data.toList.drop i=b.data.toList[i]'(oM)::b.data.toList.drop (i+1):=List.drop_eq_getElem_cons oM;rw[e];have e2:b.get! i=b.data.toList[i]'(oM):=by
   show b.data[i]! = _;have hi':i<b.data.size:=hi;rw[getElem!_pos b.data i hi'];simp
  rw[e2];simp
theorem zKc {s:List UInt8}:(ByteArray.mk s.toArray).toList=s:=by
 unfold ByteArray.toList;rw[qVj _ _ 0 [] rfl];simp
theorem zUn {a b:List UInt8}:qGy .eql (qMb a) (qMb b)=some (.bool (decide (a=b))):=by
 show some (T.bool ((ByteArray.mk a.toArray).toList==(ByteArray.mk b.toArray).toList))=_;rw[zKc,zKc];by_cases h:a=b<;>simp[h]
theorem zUo {a b:List UInt8}:qGy .neq (qMb a) (qMb b)=some (.bool (!decide (a=b))):=by
 show some (T.bool (!((ByteArray.mk a.toArray).toList==(ByteArray.mk b.toArray).toList)))=_;rw[zKc,zKc];by_cases h:a=b<;>simp[h]
theorem zOx {a b:List UInt8}(h:a.length+b.length≤9223372036854775807):qGy .add (qMb a) (qMb b)=some (qMb (a++b)):=by
 show (if (ByteArray.mk a.toArray).size+(ByteArray.mk b.toArray).size≤maxLen then some (T.str (ByteArray.mk a.toArray++ByteArray.mk b.toArray)) else none)=_;have h1:(ByteArray.mk a.toArray).size=a.length:=rfl;have h2:(ByteArray.mk b.toArray).size=b.length:=rfl;have h3:maxLen=9223372036854775807:=by decide
 rw[h1,h2,h3,if_pos h];have e:ByteArray.mk a.toArray++ByteArray.mk b.toArray=⟨(a++b).toArray⟩:=by
  apply ByteArray.ext;simp[ByteArray.data_append]
 rw[e];rfl
theorem zS1 {a:List UInt8}:qSr [.t (qMb a)] = .ret (.t (.int .i64 a.length),[]):=Eq.trans (Eq.refl _) rfl
theorem zIh {a:List UInt8}{k:IntKind}{i:Nat}(h:i<a.length):qHo [.t (qMb a),.t (.int k (i:Nat))] = .ret (.t (qA (a.getD i 0)),[]):=by
 have e:(ByteArray.mk a.toArray).data.toList[(i:Int).toNat]?=some (a.getD i 0):=by simp[List.getD,h]
 simp only[qMb,qHo,wH,Q.of,Q.bind,Q.assert,e];rw[if_pos oM]
theorem zW8 {a:List UInt8}{nb:Nat}:qZ1 nb [.t (qMb a)]=Q.assert (qDu a.length 1) (.free nb (.ret (.sl nb 0 a.length,[(nb,.live 1 ((a.map qA).map V.t) true false)]))):=by
 have h1:(ByteArray.mk a.toArray).size=a.length:=rfl;have h2:((ByteArray.mk a.toArray).data.toList.map fun b=>V.t (qA b))=(a.map qA).map V.t:=by simp[List.map_map,Function.comp_def]
 simp only[qMb,qZ1,h1,h2]
theorem zDr {bs:List UInt8}:qIn ((bs.map qA).map V.t)=some bs:=by
 have:=qP8 (bs:=bs);rw[List.map_map];exact this
theorem zLw {a b:List UInt8}:(qMb a=qMb b)=(a=b):=by
 apply propext;constructor
 ·intro h;have h1:=congrArg (fun x=>match x with | T.str s=>s.data.toList | _=>[]) h;simpa [qMb] using h1
 ·rintro rfl;rfl
theorem jFk {s:List UInt8}:(qMb s).cells=[qMb s]:=Eq.trans (Eq.refl _) rfl
theorem jFu {s:List UInt8}:(V.t (qMb s)).cells=[V.t (qMb s)]:=Eq.trans (Eq.refl _) rfl
theorem jF0 {s:List UInt8}:(V.t (qMb s)).plain=true:=Eq.trans (Eq.refl _) rfl
theorem zIk {s:List UInt8}:(V.t (qMb s)).single=true:=Eq.trans (Eq.refl _) rfl
theorem zP9 {s:List UInt8}:(qMb s).flat=true:=Eq.trans (Eq.refl _) rfl
attribute [go_sem ↓] zUn zUo zOx zS1 zIh zW8
attribute [go_sem] zX2 zDr zLw jFk jFu jF0 zIk zP9
end Go.Eng
end
section
namespace Go.Eng
variable {tab:Tab} {gl:Gl} {fs:Fs} {hs:Hs} {Qx:qHq}
def qDd {σ:Type}(Inv:σ→Prop)(μ:σ→Nat)(fI:σ→Fs)(hI:σ→Hs)(s:σ)(fs:Fs)(hs:Hs):Prop := ∃ t,Inv t∧μ t<μ s∧qI fs hs (fI t) (hI t)
def jNg {σ:Type}(Inv:σ→Prop)(μ:σ→Nat)(fI:σ→Fs)(hI:σ→Hs)(s:σ)(Qx:qHq):qHq:=fun e fs' hs'=>match e with | .normal=>qDd Inv μ fI hI s fs' hs' | e=>Qx e fs' hs'
theorem zH0 {σ:Type}{Inv:σ→Prop}{μ:σ→Nat}{fI:σ→Fs}{hI:σ→Hs}{s:σ}:jNg Inv μ fI hI s Qx .normal fs hs=qDd Inv μ fI hI s fs hs:=Eq.trans (Eq.refl _) rfl
theorem zQp {σ:Type}{Inv:σ→Prop}{μ:σ→Nat}{fI:σ→Fs}{hI:σ→Hs}{s:σ}{id:Nat}:jNg Inv μ fI hI s Qx (.exit id) fs hs=Qx (.exit id) fs hs:=Eq.trans (Eq.refl _) rfl
theorem zVi {σ:Type}{Inv:σ→Prop}{μ:σ→Nat}{fI:σ→Fs}{hI:σ→Hs}{s:σ}:jNg Inv μ fI hI s Qx .ret fs hs=Qx .ret fs hs:=Eq.trans (Eq.refl _) rfl
attribute [go_sem] zH0 zQp zVi
theorem qDd.of {σ:Type}{Inv:σ→Prop}{μ:σ→Nat}{fI:σ→Fs}{hI:σ→Hs}{s:σ}(t:σ)(h1:Inv t)(h2:μ t<μ s)(h3:qI fs hs (fI t) (hI t)):qDd Inv μ fI hI s fs hs:=⟨t,h1,h2,h3⟩
theorem zD {a:AC}{σ:Type}(Inv:σ→Prop)(μ:σ→Nat)(fI:σ→Fs)(hI:σ→Hs)(s0:σ)(hP:Inv s0)(h0:qI fs hs (fI s0) (hI s0))(h : ∀ s,Inv s→a.wp tab gl (fI s) (hI s) (jNg Inv μ fI hI s Qx)):qQs tab gl a fs hs Qx:=by
 refine qLu (ι := { s:σ // Inv s }) (fun i=>(fI i.1,hI i.1)) (fun i=>μ i.1) ⟨s0,hP⟩ h0 (fun i=>?_);refine jF (fun e f g hq=>?_) (h i.1 i.2);cases e with
 | normal=>
  obtain⟨t,h1,h2,h3⟩:=hq;exact⟨⟨t,h1⟩,h2,h3⟩
 | exit id=>exact hq
 | ret=>exact hq
end Go.Eng
end
section
set_option maxRecDepth 20000
namespace Go.Eng
theorem u8f (n:Nat)(h:n<256):T.int .u8 (no_index (OfNat.ofNat n))=qA (OfNat.ofNat n):=by
 have e:(UInt8.ofNat n).toNat=n:=by rw[UInt8.toNat_ofNat'];omega
 show T.int .u8 (Int.ofNat n)=T.int .u8 (((UInt8.ofNat n).toNat:Nat):Int);rw[e];rfl
theorem jXk (n:Nat)(h:n<4294967296):T.int .u32 (no_index (OfNat.ofNat n))=jE (OfNat.ofNat n):=by
 have e:(UInt32.ofNat n).toNat=n:=by rw[UInt32.toNat_ofNat'];omega
 show T.int .u32 (Int.ofNat n)=T.int .u32 (((UInt32.ofNat n).toNat:Nat):Int);rw[e];rfl
theorem jXg (s:List UInt8):T.str ⟨Array.mk s⟩=qMb s:=rfl
theorem jXa (x:V):[x,x,x,x,x,x,x,x,x,x,x,x,x,x,x,x,x,x,x,x,x,x,x,x,x,x,x,x,x,x,x,x,x,x,x,x,x,x,x,x,x,x,x,x,x,x,x,x,x,x,x,x,x,x,x,x,x,x,x,x,x,x,x,x]=List.replicate 64 x:=rfl
theorem jXb (x:V):[x,x,x,x,x,x,x,x,x,x,x,x,x,x,x,x,x,x,x,x,x,x,x,x,x,x,x,x,x,x,x,x,x,x,x,x,x,x,x,x,x,x,x,x,x,x,x,x,x,x,x,x,x,x,x,x,x,x,x,x,x,x,x,x,x,x,x,x,x,x,x,x,x,x,x,x,x,x,x,x]=List.replicate 80 x:=rfl
theorem jPr (x:V):[x,x,x,x,x,x,x,x,x,x,x,x,x,x,x,x,x,x,x,x,x,x,x,x,x,x,x,x,x,x,x,x,x,x,x,x,x,x,x,x,x,x,x,x,x,x,x,x,x,x,x,x,x,x,x,x,x,x,x,x,x,x,x,x,x,x,x,x,x,x,x,x,x,x,x,x,x,x,x,x,x,x,x,x,x,x,x,x,x,x,x,x,x,x,x,x,x,x,x,x,x,x,x,x,x,x,x,x,x,x,x,x,x,x,x,x,x,x,x,x,x,x,x,x,x,x,x,x,x,x,x,x,x,x,x,x]=List.replicate 136 x:=rfl
end Go.Eng
end
