/- A part of an abstract machine, its walks, their tie. -/
import Derived.Test.YteglhhgmfnbalaaGreatDoorK7
set_option linter.all false
section
namespace Go.Eng
open List
variable {tab:Tab}{gl:Gl}{fs:Fs}{hs:Hs}{Qx:xV}
def zYi {ι:Type}(I:ι->Fs×Hs)(μ:ι->Nat)(i:ι)(Qx:xV):xV:=λe fs' hs'=>match e with|.normal=>∃j,μ j<μ i/\qL fs' hs' (I j).1 (I j).2|e=>Qx e fs' hs'
theorem qLk {a:AC}{ι:Type}(I:ι->Fs×Hs)(μ:ι->Nat)(i0:ι)(h0:qL fs hs (I i0).1 (I i0).2)(h:∀i,a.wp tab gl (I i).1 (I i).2 (zYi I μ i Qx)):qYv tab gl a fs hs Qx:=⟨ι,I,μ,i0,h0,h⟩
def upK (n:Nat)(fI:Nat->Fs)(hI:Nat->Hs)(i:Nat)(Qx:xV):xV:=λe fs' hs'=>match e with|.normal=>i<n/\qL fs' hs' (fI (i+1)) (hI (i+1))|e=>Qx e fs' hs'
theorem zOr {n:Nat}{fI:Nat->Fs}{hI:Nat->Hs}{i:Nat}:upK n fI hI i Qx .normal fs hs=(i<n/\qL fs hs (fI (i+1)) (hI (i+1))):=eR
theorem jBa {n:Nat}{fI:Nat->Fs}{hI:Nat->Hs}{i id:Nat}:upK n fI hI i Qx (.exit id) fs hs=Qx (.exit id) fs hs:=eR
theorem jJc {n:Nat}{fI:Nat->Fs}{hI:Nat->Hs}{i:Nat}:upK n fI hI i Qx .ret fs hs=Qx .ret fs hs:=eR
theorem zAc {v:Option V}{A B A' B':Prop}(hA:A->A')(hB:B->B'):qJw v A B->qJw v A' B':=by
 unfold qJw;split
 .exact λh=>⟨λe=>hA (h.1 e),λe=>hB (h.2 e)⟩
 .exact id
theorem zM3 {v:Option V}{A B A' B':Prop}(hA:A->A')(hB:B->B'):qT2 v A B->qT2 v A' B':=by
 unfold qT2;split
 .exact λh=>⟨hA h.1,hB h.2⟩
 .exact zAc hA hB
theorem zX {a:AC}:∀{fs:Fs}{hs:Hs}{Q Q':xV},(∀e f h,Q e f h->Q' e f h)->a.wp tab gl fs hs Q->a.wp tab gl fs hs Q':=by
 induction a with
 |skip=>intro fs hs Q Q' h hw;exact h _ _ _ hw
 |ret=>intro fs hs Q Q' h hw;exact h _ _ _ hw
 |exit id=>intro fs hs Q Q' h hw;exact h _ _ _ hw
 |seq a b iha ihb=>
  intro fs hs Q Q' h hw;refine iha (λe f g hq=>?_) hw;cases e with
  |normal=>exact ihb h hq
  |exit id=>exact h _ _ _ hq
  |ret=>exact h _ _ _ hq
 |cond c a b iha ihb=>
  intro fs hs Q Q' h hw;exact zAc (iha h) (ihb h) hw
 |condb c a b iha ihb=>
  intro fs hs Q Q' h hw;exact zM3 (iha h) (ihb h) hw
 |block id a ih=>
  intro fs hs Q Q' h hw;refine ih (λe f g hq=>?_) hw;cases e with
  |normal=>exact h _ _ _ hq
  |exit id'=>
   simp only at hq⊢;split
   .rename_i h1;rw[if_pos h1]at hq;exact h _ _ _ hq
   .rename_i h1;rw[if_neg h1]at hq;exact h _ _ _ hq
  |ret=>exact h _ _ _ hq
 |loop a ih=>
  intro fs hs Q Q' h hw;obtain⟨ι,I,μ,i0,h0,hr⟩:=hw;refine⟨ι,I,μ,i0,h0,λi=>ih (λe f g hq=>?_) (hr i)⟩;cases e with
  |normal=>exact hq
  |exit id=>exact h _ _ _ hq
  |ret=>exact h _ _ _ hq
 |reg nb anc ops=>
  intro fs hs Q Q' h hw;have key:∀(ops:List zU)(nb:Nat)(fs:Fs)(hs:Hs)(acc:List (List Nat×List Nat))(K K':Fs->Hs->List (List Nat×List Nat)->Prop),(∀f g c,K f g c->K' f g c)->zD2 tab gl ops nb fs hs acc K->zD2 tab gl ops nb fs hs acc K':=by
   intro ops
   induction ops with
   |nil=>intro nb fs hs acc K K' h hw;exact h _ _ _ hw
   |cons o r ih=>
    intro nb fs hs acc K K' h hw;obtain⟨x,l,h1,h2⟩:=hw;exact⟨x,l,h1,ih _ _ _ _ _ _ h h2⟩
  exact key ops nb fs hs [] _ _ (λf g c hq=>⟨hq.1,h _ _ _ hq.2⟩) hw
theorem qB {a:AC}(n:Nat)(fI:Nat->Fs)(hI:Nat->Hs)(h0:qL fs hs (fI 0) (hI 0))(h:∀i,i<=n->a.wp tab gl (fI i) (hI i) (upK n fI hI i Qx)):qYv tab gl a fs hs Qx:=by
 refine qLk (ι := { i:Nat // i<=n }) (λi=>(fI i.1,hI i.1)) (λi=>n-i.1) ⟨0,Nat.zero_le _⟩ h0 (λi=>?_);refine zX (λe f g hq=>?_) (h i.1 i.2);cases e with
 |normal=>exact⟨⟨i.1+1,hq.1⟩,by simp only;have:=hq.1;omega,hq.2⟩
 |exit id=>exact hq
 |ret=>exact hq
theorem jB5 {ts:List T}:qFl (ts.map .t)=some ts:=by
 induction ts with
 |nil=>rfl
 |cons x r ih=>simp[qFl,ih]
theorem zV7:qFl []=some []:=eR
theorem qVu {x:T}{r:List V}:qFl (.t x::r)=(qFl r).map (x :: ·):=eR
theorem zV8 {id i f:Nat}{r:List V}:qFl (.ref id i f::r)=none:=eR
theorem jE3 {g id i f:Nat}{r:List V}:qFl (.bd g id i f::r)=none:=eR
theorem jE4 {r:List V}:qFl (.bq::r)=none:=eR
attribute [go_sem] jE4
attribute [go_sem] jE3
theorem jE7 {id i f:Nat}{r:List V}:qFl (.sl id i f::r)=none:=eR
theorem zPq {r:List V}:qFl (.nil::r)=none:=eR
theorem zV5 {cs r:List V}:qFl (.agg cs::r)=none:=eR
theorem jE6 {cs:List T}{r:List V}:qFl (.ro cs::r)=none:=eR
theorem jE5 {f:FuncId}{cs r:List V}:qFl (.fn f cs::r)=none:=eR
theorem zYp {α γ:Type}{f:α->γ}:Option.map f none=none:=eR
theorem jN2 {cs:List V}:V.mk cs=match qFl cs with|some ts=>.t (.agg ts)|none=>.agg cs:=eR
theorem zQh {g:V->Q (V×List Nat)}:qDk g []=.ret ([],[]):=eR
theorem qL0 {g:V->Q (V×List Nat)}{c:V}{r:List V}:qDk g (c::r)=(g c).bind λp=>(qDk g r).bind λq=>.ret (p.1::q.1,p.2++q.2):=eR
theorem zQn {n:Nat}{x:T}:zN n (.t x)=.ret (.t x,[]):=by cases n<;>rfl
theorem zWx {n:Nat}:zN n .nil=.ret (.t (.sl []),[]):=by cases n<;>rfl
theorem jFm {n:Nat}{cs:List T}:zN n (.ro cs)=.ret (.ro cs,[]):=by cases n<;>rfl
theorem zWy {n id i f:Nat}:zN n (.ref id i f)=.ret (.ref id i f,[]):=by cases n<;>rfl
theorem jFk {n g id i f:Nat}:zN n (.bd g id i f)=.ret (.bd g id i f,[]):=by cases n<;>rfl
attribute [go_sem] jFk
theorem zWw {n:Nat}{cs:List V}:zN (n+1) (.agg cs)=(qDk (zN n) cs).bind λp=>.ret (V.mk p.1,p.2):=eR
theorem jFl {n:Nat}{f:FuncId}{cs:List V}:zN (n+1) (.fn f cs)=(qDk (zN n) cs).bind λp=>.ret (.fn f p.1,p.2):=eR
theorem jFn {n id off len:Nat}:zN (n+1) (.sl id off len)=.get id fun
  |.live _ es wr _=>Q.assert (off+len<=es.length)
   (match qFl es with
   |some ts=>.ret (.t (.sl ((ts.drop off).take len)),if wr then [id] else [])
   |none=>(qDk (zN n) es).bind λp=>match qFl p.1 with
    |some ts=>.ret (.t (.sl ((ts.drop off).take len)),if wr then id::p.2 else p.2)
    |none=>.fail)
  |.dead=>.fail:=eR
theorem zNh {n:Nat}{ids:List Nat}{obs:List Ob}{fz:List Nat}:qBs n [] ids obs fz=.ret (ids,obs,fz):=by cases n<;>rfl
theorem zH4 {n id:Nat}{todo ids:List Nat}{obs:List Ob}{fz:List Nat}:qBs (n+1) (id::todo) ids obs fz=if ids.contains id then qBs n todo ids obs fz else
  .get id fun
   |.live z es true full=>(qE3 es).bind λp=>qBs n (todo++(match qFl es with|some _=>[]|none=>qA4 p.1)) (ids++[id]) (obs++[.live z p.1 true full]) (fz++p.2)
   |_=>.fail:=eR
theorem zXr:qYn []=.ret []:=eR
theorem zRp {id:Nat}{r:List Nat}:qYn (id::r)=.get id fun
  |.live z es true full=>Q.assert (100<=id) ((qYn r).bind λq=>.ret ((id,.live z es false full)::q))
  |_=>.fail:=eR
theorem zNf {α:Type}{nb:Nat}{k:Q α}:zBz nb 0 k=k:=eR
theorem zNe {α:Type}{nb n:Nat}{k:Q α}:zBz nb (n+1) k=.free nb (zBz (nb+1) n k):=eR
theorem jGb {ids:List Nat}{nb k:Nat}:gam ids nb k=match ids[k]? with|some id=>id|none=>nb+(k-ids.length):=eR
theorem zSx {ids:List Nat}{nb k:Nat}:qLl ids nb k []=[]:=eR
theorem zNr {ids:List Nat}{nb k:Nat}{o:Ob}{r:List Ob}:qLl ids nb k (o::r)=(gam ids nb k,o.ren (gam ids nb))::qLl ids nb (k+1) r:=eR
theorem zZ0 {ρ:Nat->Nat}{z:Nat}{es:List V}{wr full:Bool}:(Ob.live z es wr full).ren ρ=.live z (qFn ρ es) wr full:=eR
theorem jO9 {ρ:Nat->Nat}{x:T}:(V.t x).ren ρ=.t x:=eR
theorem zZx {ρ:Nat->Nat}:V.nil.ren ρ=.nil:=eR
theorem zZy {ρ:Nat->Nat}{id i f:Nat}:(V.ref id i f).ren ρ=.ref (ρ id) i f:=eR
theorem jHy {ρ:Nat->Nat}{g id i f:Nat}:(V.bd g id i f).ren ρ=.bd g (ρ id) i f:=eR
theorem jHz {ρ:Nat->Nat}:V.bq.ren ρ=.bq:=eR
attribute [go_sem] jHz
attribute [go_sem] jHy
theorem jH1 {ρ:Nat->Nat}{cs:List T}:(V.ro cs).ren ρ=.ro cs:=eR
theorem jH2 {ρ:Nat->Nat}{id i f:Nat}:(V.sl id i f).ren ρ=.sl (ρ id) i f:=eR
theorem zZw {ρ:Nat->Nat}{cs:List V}:(V.agg cs).ren ρ=.agg (qFn ρ cs):=eR
theorem zZz {ρ:Nat->Nat}{cs:List V}:(V.tup cs).ren ρ=.tup (qFn ρ cs):=eR
theorem jH0 {ρ:Nat->Nat}{f:FuncId}{cs:List V}:(V.fn f cs).ren ρ=.fn f (qFn ρ cs):=eR
theorem zZv {ρ:Nat->Nat}:qFn ρ []=[]:=eR
theorem zTg {ρ:Nat->Nat}{c:V}{r:List V}:qFn ρ (c::r)=c.ren ρ::qFn ρ r:=eR
theorem zTc:qA4 []=[]:=eR
theorem zNv {c:V}{r:List V}:qA4 (c::r)=c.refs++qA4 r:=eR
theorem jO7 {x:T}:(V.t x).refs=[]:=eR
theorem jHw {cs:List T}:(V.ro cs).refs=[]:=eR
theorem zZr:V.nil.refs=[]:=eR
theorem jHx {id i f:Nat}:(V.sl id i f).refs=[id]:=eR
theorem zZs {id i f:Nat}:(V.ref id i f).refs=[id]:=eR
theorem jHt {g id i f:Nat}:(V.bd g id i f).refs=[id]:=eR
theorem jHu:V.bq.refs=[]:=eR
attribute [go_sem] jHu
attribute [go_sem] jHt
theorem zZq {cs:List V}:(V.agg cs).refs=qA4 cs:=eR
theorem zZt {cs:List V}:(V.tup cs).refs=qA4 cs:=eR
theorem jHv {f:FuncId}{cs:List V}:(V.fn f cs).refs=qA4 cs:=eR
theorem zXz:qPh []=[]:=eR
theorem zRz {c:V}{r:List V}:qPh (c::r)=c.ids++qPh r:=eR
theorem jUs {x:T}:(V.t x).ids=[]:=eR
theorem jMv {cs:List T}:(V.ro cs).ids=[]:=eR
theorem jGf:V.nil.ids=[]:=eR
theorem jMw {id i f:Nat}:(V.sl id i f).ids=[id]:=eR
theorem jGg {id i f:Nat}:(V.ref id i f).ids=[id]:=eR
theorem jMs {g id i f:Nat}:(V.bd g id i f).ids=[id]:=eR
theorem jMt:V.bq.ids=[]:=eR
attribute [go_sem] jMt
attribute [go_sem] jMs
theorem jGe {cs:List V}:(V.agg cs).ids=qPh cs:=eR
theorem jGh {cs:List V}:(V.tup cs).ids=qPh cs:=eR
theorem jMu {f:FuncId}{cs:List V}:(V.fn f cs).ids=qPh cs:=eR
theorem zWu {ts:List T}:qE3 (ts.map .t)=.ret (ts.map .t,[]):=by simp[qE3,jB5]
theorem zZ3 {x:V}:jD4 [x]=x:=eR
theorem zZ2:jD4 []=.tup []:=eR
theorem zZ4 {x y:V}{r:List V}:jD4 (x::y::r)=.tup (x::y::r):=eR
theorem zYh {f g:FuncId}{s:FnS}{r:Tab}:Tab.look ((g,s)::r) f=if g=f then some s else Tab.look r f:=eR
theorem jL8 {x:T}:(V.t x).flat=x.flat:=eR
theorem zXg {k:IntKind}{n:Int}:(T.int k n).flat=true:=eR
theorem zRa {b:Bool}:(T.bool b).flat=true:=eR
theorem zXh {s:ByteArray}:(T.str s).flat=true:=eR
theorem zQ7:zH1 []=true:=eR
theorem zNc {o:Ob}{r:List Ob}:zH1 (o::r)=(o.flat&&zH1 r):=eR
theorem zZ6 {n:Nat}{vs:List V}:jJ6 n vs=(qDk (zN 4) vs).bind λp=>(qBs (12+n) (List.range n++qA4 p.1) [] [] []).bind λq=>
  Q.assert ((q.1.all λi => !(p.2++q.2.2).contains i)=true) ((qYn (p.2++q.2.2)).bind λ_=>.ret (jD4 (qFn (λr=>q.1.idxOf r) p.1),q.2.1.map (Ob.ren λr=>q.1.idxOf r))):=eR
theorem zP9 {f:FuncId}{keep:Bool}{vs:List V}{nb:Nat}:qYq tab f keep vs nb=(qV4 keep vs).bind λcp=>
  (Q.of ((tab.look f).bind λs=>s (qFn (λr=>cp.ids.idxOf r) cp.aS) (cp.obs.map (Ob.ren λr=>cp.ids.idxOf r)))).bind λp=>
   Q.assert (cp.ids.length<=p.2.length/\(keep=true\/p.1.flat=true/\zH1 p.2=true))
    (zBz nb (p.2.length-cp.ids.length) (.ret (p.1.ren (gam cp.ids nb),(if keep then cp.fw else [])++qLl cp.ids nb 0 p.2))):=eR
theorem zHm {keep:Bool}{vs:List V}:qV4 keep vs=(qDk (zN 4) vs).bind λp=>(qBs 12 (qA4 p.1) [] [] []).bind λq=>
  Q.assert ((keep=true\/q.2.2=[])/\(q.1.all λi => !(p.2++q.2.2).contains i)=true) ((qYn (p.2++q.2.2)).bind λfw=>.ret ⟨p.1,q.1,q.2.1,p.2++q.2.2,fw⟩):=eR
theorem zM0 {f:FuncId}{vs:List V}{nb:Nat}:zAb tab f vs nb=(qQd vs).bind λcp=>
  (Q.of ((tab.look f).bind λs=>s (qFn (λr=>cp.ids.idxOf r) cp.aS) (cp.obs.map (Ob.ren λr=>cp.ids.idxOf r)))).bind λp=>
   Q.assert (cp.ids.length<=p.2.length) (zBz nb (p.2.length-cp.ids.length) (.ret (p.1.ren (gam cp.ids nb),cp.fw++qLl cp.ids nb 0 p.2))):=eR
theorem zEb {vs:List V}:qQd vs=(qDk qV8 vs).bind λp=>(qBs 12 (qA4 p.1) [] [] []).bind λq=>
  Q.assert ((q.1.all λi => !(p.2++q.2.2).contains i)=true) ((qYn (p.2++q.2.2)).bind λfw=>.ret ⟨p.1,q.1,q.2.1,p.2++q.2.2,fw⟩):=eR
theorem zQm {id off len:Nat}:qV8 (.sl id off len)=.ret (.sl id off len,[]):=eR
theorem zWv {x:T}:qV8 (.t x)=.ret (.t x,[]):=eR
theorem zQk {f:FuncId}{cs:List V}:qV8 (.fn f cs)=zN 4 (.fn f cs):=eR
attribute [go_sem] zM0 zEb zQm zWv zQk
attribute [go_sem] zOr jBa jJc jB5 zV7 qVu zV8 jE7 zPq zV5 jE6 jE5 zYp jN2 zQh qL0 zQn zWx jFm zWy zWw jFl jFn zNh zH4
 zXr zRp zNf zNe jGb zSx zNr zZ0 jO9 zZx zZy jH1 jH2 zZw zZz jH0 zZv zTg jD1 zTc zNv jO7 jHw zZr jHx zZs zZq zZt jHv
 zWu zZ3 zZ2 zZ4 zYh jL8 zXg zRa zXh zQ7 zNc zZ6 zP9 zHm zTd
attribute [go_sem] length_cons length_nil map_cons map_nil getElem?_cons_zero getElem?_cons_succ getElem?_nil take_succ_cons take_zero take_nil drop_succ_cons drop_zero drop_nil set_cons_zero set_cons_succ
 range_zero all_nil all_cons length_map Bool.and_true Bool.true_and length_replicate
theorem jTq {b:Bool}:(b==true)=b:=by cases b<;>rfl
theorem jTp {b:Bool}:(b==false) = !b:=by cases b<;>rfl
attribute [go_sem] zXz zRz jUs jMv jGf jMw jGg jGe jGh jMu jDa jTq jTp decide_true decide_false Bool.not_true Bool.not_false
end Go.Eng
end
section
namespace Go.Eng
open List
variable {tab:Tab}{gl:Gl}{fs:Fs}{hs:Hs}
def AC.strict:AC->Bool
 |.seq a b=>a.strict&&b.strict
 |.cond _ a b=>a.strict&&b.strict
 |.condb _ _ _=>false
 |.block _ a=>a.strict
 |.loop a=>a.strict
 |_=>true
theorem qYg {κ:Type}:∀{ops:List zU}{nb:Nat}{fs:Fs}{hs:Hs}{acc:List (List Nat×List Nat)}{K:κ->Fs->Hs->List (List Nat×List Nat)->Prop},
  zD2 tab gl ops nb fs hs acc (λf g c=>∃i,K i f g c)->∃i,zD2 tab gl ops nb fs hs acc (K i)
 |[],_,_,_,_,_,h=>h
 |o::r,nb,fs,hs,acc,K,h=>by
  obtain⟨x,l,h1,h2⟩:=h;obtain⟨i,h3⟩:=qYg (ops:=r) h2;exact⟨i,x,l,h1,h3⟩
def jWh {ι κ:Type}(I:ι->Fs×Hs)(m:ι->Nat)(n:Nat)(Q:κ->xV):Sum ι κ->xV
 |.inl j,.normal,f,h=>m j<n/\qL f h (I j).1 (I j).2
 |.inl _,_,_,_=>False
 |.inr _,.normal,_,_=>False
 |.inr k,e,f,h=>Q k e f h
theorem zGu {a:AC}:∀{κ:Type}{fs:Fs}{hs:Hs}{Q:κ->xV},a.strict=true->a.wp tab gl fs hs (λe f h=>∃i,Q i e f h)->∃i,a.wp tab gl fs hs (Q i):=by
 induction a with
 |skip=>intro κ fs hs Q _ hw;exact hw
 |ret=>intro κ fs hs Q _ hw;exact hw
 |exit id=>intro κ fs hs Q _ hw;exact hw
 |seq a b iha ihb=>
  intro κ fs hs Q hs' hw;simp only[AC.strict,Bool.and_eq_true]at hs';refine iha (Q:=λi e f h=>match e with|.normal=>b.wp tab gl f h (Q i)|e=>Q i e f h) hs'.1 (zX (λe f h hq=>?_) hw);cases e with
  |normal=>exact ihb hs'.2 hq
  |exit id=>exact hq
  |ret=>exact hq
 |cond c a b iha ihb=>
  intro κ fs hs Q hs' hw;simp only[AC.strict,Bool.and_eq_true]at hs';simp only[AC.wp,qJw]at hw⊢;split at hw
  .rename_i v b hv;cases b with
   |true=>obtain⟨i,h⟩:=iha hs'.1 (hw.1 rfl);exact⟨i,λ_=>h,(λh=>by cases h)⟩
   |false=>obtain⟨i,h⟩:=ihb hs'.2 (hw.2 rfl);exact⟨i,(λh=>by cases h),λ_=>h⟩
  .exact hw.elim
 |condb c a b iha ihb=>intro κ fs hs Q hs' hw;cases hs'
 |block id a ih=>
  intro κ fs hs Q hs' hw;refine ih (Q:=λi e f h=>match e with|.exit id'=>(if id'=id then Q i .normal f h else Q i (.exit id') f h)|e=>Q i e f h) hs' (zX (λe f h hq=>?_) hw);cases e with
  |normal=>exact hq
  |exit id'=>
   simp only at hq⊢;split
   .rename_i h1;rw[if_pos h1]at hq;exact hq
   .rename_i h1;rw[if_neg h1]at hq;exact hq
  |ret=>exact hq
 |loop a ih=>
  intro κ fs hs Q hs' hw;simp only[AC.strict]at hs';obtain⟨ι,I,m,i0,h0,hr⟩:=hw;have key:∀n i,m i=n->∃k,zPl (λfs hs K=>a.wp tab gl fs hs K) (I i).1 (I i).2 (Q k):=by
   intro n
   induction n using Nat.strongRecOn with
   |_ n ihn=>
    intro i hi;obtain⟨z,hz⟩:=ih (Q:=jWh I m (m i) Q) hs' (zX (λe f h hq=>by
     cases e with
     |normal=>obtain⟨j,hj⟩:=hq;exact⟨.inl j,hj⟩
     |exit id=>obtain⟨k,hk⟩:=hq;exact⟨.inr k,hk⟩
     |ret=>obtain⟨k,hk⟩:=hq;exact⟨.inr k,hk⟩) (hr i))
    cases z with
    |inr k=>
     refine⟨k,Unit,λ_=>I i,λ_=>0,(),qL.refl,λ_=>zX (λe f h hq=>?_) hz⟩;cases e with
     |normal=>exact hq.elim
     |exit id=>exact hq
     |ret=>exact hq
    |inl j=>
     by_cases hlt:m j<m i
     .obtain⟨k,ι2,I2,m2,j0,g0,gr⟩:=ihn (m j) (hi▸hlt) j rfl;refine⟨k,Option ι2,λo=>match o with|none=>I i|some x=>I2 x,λo=>match o with|none=>m2 j0+1|some x=>m2 x,none,qL.refl,λo=>?_⟩;cases o with
      |none=>
       refine zX (λe f h hq=>?_) hz;cases e with
       |normal=>exact⟨some j0,Nat.lt_succ_self _,hq.2.trans g0⟩
       |exit id=>exact hq.elim
       |ret=>exact hq.elim
      |some x=>
       refine zX (λe f h hq=>?_) (gr x);cases e with
       |normal=>obtain⟨y,h1,h2⟩:=hq;exact⟨some y,h1,h2⟩
       |exit id=>exact hq
       |ret=>exact hq
     .refine ?_;have:a.wp tab gl (I i).1 (I i).2 (λ_ _ _=>False):=zX (λe f h hq=>by
       cases e with
       |normal=>exact(hlt hq.1).elim
       |exit id=>exact hq
       |ret=>exact hq) hz
      have hk:∃_:κ,True:=by
       obtain⟨k,_⟩:=ih (κ:=κ) (Q:=λ_ _ _ _=>False) hs' (zX (λe f h hq=>hq.elim) this);exact⟨k,trivial⟩
      obtain⟨k,_⟩:=hk;exact⟨k,Unit,λ_=>I i,λ_=>0,(),qL.refl,λ_=>zX (λe f h hq=>hq.elim) this⟩
  obtain⟨k,ι2,I2,m2,j0,g0,gr⟩:=key _ i0 rfl;exact⟨k,ι2,I2,m2,j0,h0.trans g0,gr⟩
 |reg nb anc ops=>
  intro κ fs hs Q hs' hw;refine qYg (K:=λi f g c=>(match anc with|none=>True|some l=>chk l c=true)/\Q i .normal f g) ?_;refine(?_:∀{X Y:Fs->Hs->List (List Nat×List Nat)->Prop},(∀f g c,X f g c->Y f g c)->zD2 tab gl ops nb fs hs [] X->zD2 tab gl ops nb fs hs [] Y) (λf g c h=>?_) hw
  .intro X Y h hw;have:∀(ops:List zU)(nb:Nat)(fs:Fs)(hs:Hs)(acc:List (List Nat×List Nat)),zD2 tab gl ops nb fs hs acc X->zD2 tab gl ops nb fs hs acc Y:=by
    intro ops
    induction ops with
    |nil=>intro nb fs hs acc hw;exact h _ _ _ hw
    |cons o r ih=>
     intro nb fs hs acc hw;obtain⟨x,l,h1,h2⟩:=hw;exact⟨x,l,h1,ih _ _ _ _ h2⟩
   exact this _ _ _ _ _ hw
  .obtain⟨h1,i,h2⟩:=h;exact⟨i,h1,h2⟩
end Go.Eng
end
section
namespace Go.Eng
open List
def zOj (ρ:Nat->Nat)(ks:List Nat)(v:Option V)(v':V):Prop:=v=some (v'.ren ρ)/\(v'.ids.all λi=>ks.contains i)=true
def qZ4 (fs:Fs)(ρ:Nat->Nat)(ks:List Nat):Fs->Prop
 |[]=>True
 |(t,v')::r=>zOj ρ ks (jB fs t) v'/\qZ4 fs ρ ks r
def obR (ρ:Nat->Nat)(ks:List Nat):Option Ob->Ob->Prop
 |some (.live z es wr full),.live z' es' wr' full'=>z=z'/\wr=wr'/\(full'=true->full=true)/\es=qFn ρ es'/\((qPh es').all λi=>ks.contains i)=true
 |some _,.dead=>True
 |_,_=>False
def jJ1 (hs:Hs)(ρ:Nat->Nat)(ks:List Nat):Hs->Prop
 |[]=>True
 |(i,o')::r=>obR ρ ks (jB hs (ρ i)) o'/\jJ1 hs ρ ks r
def zLr (ρ:Nat->Nat)(old new:List Nat):Bool:=
 new.all (λi=>(decide (i<100)&&ρ i==i)||(decide (100<=i)&&decide (100<=ρ i)))&&decide ((new.map ρ).Nodup)&&old.all λk => !decide (k<100)||new.contains k
theorem qL.ren {fs fs':Fs}{hs ho:Hs}(ρ:Nat->Nat)(h1:qZ4 fs ρ (ho.map (·.1)) fs')(h2:jJ1 hs ρ (ho.map (·.1)) ho)(h3:zLr ρ (hs.map (·.1)) (ho.map (·.1))=true):qL fs hs fs' ho:=by
 simp only[zLr,Bool.and_eq_true]at h3;obtain⟨⟨h4,h5⟩,h6⟩:=h3;have a1:∀{fs':Fs},qZ4 fs ρ (ho.map (·.1)) fs'->qZ5 fs hs ρ [] (ho.map (·.1)) fs':=by
  intro fs'
  induction fs' with
  |nil=>intro _;trivial
  |cons p r ih=>
   obtain⟨t,v'⟩:=p;intro h;obtain⟨⟨g1,g2⟩,g3⟩:=h;refine⟨⟨_,g1,.inl ⟨.inl rfl,λi hi=>?_⟩⟩,ih g3⟩;have:=all_eq_true.1 g2 i hi;simpa using this
 have a2:∀{h':Hs},(∀i∈h'.map (·.1),i∈ho.map (·.1))->jJ1 hs ρ (ho.map (·.1)) h'->jJ2 hs ρ (ho.map (·.1)) h':=by
  intro h'
  induction h' with
  |nil=>intro _ _;trivial
  |cons p r ih=>
   obtain⟨i,o'⟩:=p;intro hm h;obtain⟨g1,g2⟩:=h;have hi:=all_eq_true.1 h4 i (hm i sM);have hi':(i<100/\ρ i=i)\/(100<=i/\100<=ρ i):=by simpa using hi
   refine⟨⟨?_,λh=>by rcases hi' with h'|h';exact h'.2;omega,λh=>by rcases hi' with h'|h';omega;exact h'.2⟩,ih (λj hj=>hm j (by simp at hj⊢;exact .inr hj)) g2⟩;unfold obR at g1;split at g1
   .rename_i z es wr full z' es' wr' full' hl;obtain⟨rfl,rfl,k1,k2,k3⟩:=g1;exact⟨_,hl,rfl,rfl,k1,.inl k2,λj hj=>by have:=all_eq_true.1 k3 j hj;simpa using this⟩
   .rename_i o hl;refine⟨_,hl,?_⟩;cases o<;>trivial
   .exact g1.elim
 have:=qL.of (hs:=hs) (hv:=[]) (ho:=ho) (fs:=fs) (fs':=fs') ρ (a1 h1) (a2 (λ_ h=>h) h2) trivial sM (of_decide_eq_true h5) (λk hk hlt=>by
  have:=all_eq_true.1 h6 k hk;simpa [hlt]using this)
 exact this
theorem zMw {fs:Fs}{ρ:Nat->Nat}{ks:List Nat}:qZ4 fs ρ ks []=True:=eR
theorem zG9 {fs:Fs}{ρ:Nat->Nat}{ks:List Nat}{t:Nat}{v':V}{r:Fs}:qZ4 fs ρ ks ((t,v')::r)=(zOj ρ ks (jB fs t) v'/\qZ4 fs ρ ks r):=eR
theorem zOm {ρ:Nat->Nat}{ks:List Nat}{v v':V}:zOj ρ ks (some v) v'=(v=v'.ren ρ/\(v'.ids.all λi=>ks.contains i)=true):=by
 simp[zOj]
theorem zOl {ρ:Nat->Nat}{ks:List Nat}{v':V}:zOj ρ ks none v'=False:=by simp[zOj]
theorem zV3 {hs:Hs}{ρ:Nat->Nat}{ks:List Nat}:jJ1 hs ρ ks []=True:=eR
theorem zPn {hs:Hs}{ρ:Nat->Nat}{ks:List Nat}{i:Nat}{o':Ob}{r:Hs}:jJ1 hs ρ ks ((i,o')::r)=(obR ρ ks (jB hs (ρ i)) o'/\jJ1 hs ρ ks r):=eR
theorem zY4 {ρ:Nat->Nat}{ks:List Nat}{z z':Nat}{es es':List V}{wr wr' full full':Bool}:obR ρ ks (some (.live z es wr full)) (.live z' es' wr' full') =
  (z=z'/\wr=wr'/\(full'=true->full=true)/\es=qFn ρ es'/\((qPh es').all λi=>ks.contains i)=true):=eR
attribute [go_sem] zMw zG9 zOm zOl zV3 zPn zY4 V.t.injEq T.int.injEq T.bool.injEq T.sl.injEq T.agg.injEq T.str.injEq V.ref.injEq V.bd.injEq V.sl.injEq V.agg.injEq V.fn.injEq List.cons.injEq
 all_nil contains_cons contains_nil Bool.or_false Bool.or_true Bool.true_or beq_self_eq_true eq_self implies_true imp_self Int.natCast_zero Int.natCast_one
end Go.Eng
end
section
namespace Go.Eng
open List
def jG (x:UInt32):T:= .int .u32 x.toNat
def jEk (x:UInt64):T:= .int .u64 x.toNat
theorem qP9 (n:Int):IntKind.u8.wrap n=n%256:=by simp[IntKind.wrap,IntKind.bits,IntKind.signed]
theorem qRv (n:Int):IntKind.u32.wrap n=n%4294967296:=by simp[IntKind.wrap,IntKind.bits,IntKind.signed]
theorem qVn (n:Int):IntKind.u64.wrap n=n%18446744073709551616:=by simp[IntKind.wrap,IntKind.bits,IntKind.signed]
theorem jBo (n:Int):IntKind.i64.wrap n=if n%18446744073709551616 ≥ 9223372036854775808 then n%18446744073709551616-18446744073709551616 else n%18446744073709551616:=by
 simp[IntKind.wrap,IntKind.bits,IntKind.signed]
theorem xP {n:Int}(h : -9223372036854775808<=n/\n<9223372036854775808):IntKind.i64.wrap n=n:=by
 rw[jBo];split<;>omega
theorem qIy {n:Int}(h:0<=n/\n<18446744073709551616):IntKind.u64.wrap n=n:=by
 rw[qVn];omega
theorem zJx {n:Int}(h:0<=n/\n<4294967296):IntKind.u32.wrap n=n:=by
 rw[qRv];omega
theorem qFb (x:UInt32):(BitVec.ofInt 32 (x.toNat:Int))=x.toBitVec:=by
 apply BitVec.eq_of_toNat_eq;simp
theorem qVm (z:UInt32):T.int .u32 (IntKind.u32.wrap (z.toBitVec.toNat:Int))=jG z:=by
 rw[qRv];have:=z.toNat_lt;unfold jG;rw[UInt32.toNat_toBitVec];congr 1;omega
theorem zMy {x y:UInt32}:qJu .or (jG x) (jG y)=some (jG (x ||| y)):=by
 change some (T.int .u32 (IntKind.u32.wrap ((BitVec.ofInt 32 (x.toNat:Int) ||| BitVec.ofInt 32 (y.toNat:Int)).toNat:Int)))=_;rw[qFb,qFb,<-UInt32.toBitVec_or,qVm]
theorem zHf {x y:UInt32}:qJu .and (jG x) (jG y)=some (jG (x &&& y)):=by
 change some (T.int .u32 (IntKind.u32.wrap ((BitVec.ofInt 32 (x.toNat:Int) &&& BitVec.ofInt 32 (y.toNat:Int)).toNat:Int)))=_;rw[qFb,qFb,<-UInt32.toBitVec_and,qVm]
theorem zHg {x y:UInt32}:qJu .xor (jG x) (jG y)=some (jG (x ^^^ y)):=by
 change some (T.int .u32 (IntKind.u32.wrap ((BitVec.ofInt 32 (x.toNat:Int) ^^^ BitVec.ofInt 32 (y.toNat:Int)).toNat:Int)))=_;rw[qFb,qFb,<-UInt32.toBitVec_xor,qVm]
theorem zHe {x y:UInt32}:qJu .add (jG x) (jG y)=some (jG (x+y)):=by
 change some (T.int .u32 (IntKind.u32.wrap ((x.toNat:Int)+(y.toNat:Int))))=_;rw[qRv];unfold jG;rw[UInt32.toNat_add];congr 2
theorem zOq {x:UInt32}:unT .xor (jG x)=some (jG (~~~ x)):=by
 change some (T.int .u32 (IntKind.u32.wrap ((BitVec.ofInt 32 (IntKind.max .u32) ^^^ BitVec.ofInt 32 (x.toNat:Int)).toNat:Int)))=_;have:BitVec.ofInt 32 (IntKind.max .u32)=BitVec.allOnes 32:=by decide
 rw[qFb,this,<-qVm];congr 5
theorem qV2 {x:UInt32}{k:IntKind}{n:Nat}(h:n<32):qJu .shr (jG x) (.int k n)=some (jG (x >>> UInt32.ofNat n)):=by
 change (if(n:Int)<0 then none else some (T.int .u32 ((x.toNat:Int).fdiv (2^min (n:Int).toNat 32))))=_;rw[if_neg oM];have hm:min (n:Int).toNat 32=n:=soM;rw[hm];unfold jG;rw[UInt32.toNat_shiftRight];have hn:(UInt32.ofNat n).toNat%32=n:=by
  rw[UInt32.toNat_ofNat_of_lt' (by simp[UInt32.size];omega)];omega
 rw[hn,Nat.shiftRight_eq_div_pow];congr 2;rw[Int.fdiv_eq_ediv_of_nonneg _ (by exact Int.pow_nonneg oM)]
 norm_cast
theorem qV1 {x:UInt32}{k:IntKind}{n:Nat}(h:n<32):qJu .shl (jG x) (.int k n)=some (jG (x <<< UInt32.ofNat n)):=by
 change (if(n:Int)<0 then none else some (T.int .u32 (IntKind.u32.wrap ((x.toNat:Int)*2^min (n:Int).toNat 32))))=_;rw[if_neg oM];have hm:min (n:Int).toNat 32=n:=soM;rw[hm,qRv];unfold jG;rw[UInt32.toNat_shiftLeft];have hn:(UInt32.ofNat n).toNat%32=n:=by
  rw[UInt32.toNat_ofNat_of_lt' (by simp[UInt32.size];omega)];omega
 rw[hn,Nat.shiftLeft_eq];congr 2
theorem zBd {b:UInt8}:qIq .u32 [.t (qA b)]=.ret (.t (jG b.toUInt32),[]):=by
 change Q.ret (V.t (.int .u32 (IntKind.u32.wrap (b.toNat:Int))),([]:Wr))=_;have:=b.toNat_lt;rw[qRv];unfold jG;rw[UInt8.toNat_toUInt32];have:(b.toNat:Int)%4294967296=b.toNat:=oM;rw[this]
theorem zHq {x:UInt32}:qIq .u8 [.t (jG x)]=.ret (.t (qA x.toUInt8),[]):=by
 change Q.ret (V.t (.int .u8 (IntKind.u8.wrap (x.toNat:Int))),([]:Wr))=_;rw[qP9];unfold qA;rw[UInt32.toNat_toUInt8];congr 4
theorem zHr {x:UInt64}:qIq .u8 [.t (jEk x)]=.ret (.t (qA x.toUInt8),[]):=by
 change Q.ret (V.t (.int .u8 (IntKind.u8.wrap (x.toNat:Int))),([]:Wr))=_;rw[qP9];unfold qA;rw[UInt64.toNat_toUInt8];congr 4
theorem zQb {x:UInt32}:(jG x).cells=[jG x]:=eR
theorem zQc {x:UInt64}:(jEk x).cells=[jEk x]:=eR
theorem zM2 {x:UInt8}:(qA x).cells=[qA x]:=eR
theorem zOy {x:UInt32}:(V.t (jG x)).cells=[V.t (jG x)]:=eR
theorem zOz {x:UInt64}:(V.t (jEk x)).cells=[V.t (jEk x)]:=eR
theorem zJb {x:UInt8}:(V.t (qA x)).cells=[V.t (qA x)]:=eR
theorem qQc:∀{bs:List UInt8},qHz (bs.map λb=>V.t (qA b))=some bs
 |[]=>rfl
 |b::r=>by
  have ih:=qQc (bs:=r);simp only[map_cons];show(qHz (r.map λb=>V.t (qA b))).map (UInt8.ofNat (b.toNat:Int).toNat :: ·)=_;rw[ih];simp
theorem jGc {b:UInt8}:vY (.t (qA b))=some (b.toNat:Int):=eR
theorem jMm {b:UInt32}:vY (.t (jG b))=some (b.toNat:Int):=eR
theorem jMn {b:UInt64}:vY (.t (jEk b))=some (b.toNat:Int):=eR
theorem jJp {b:UInt8}:(V.t (qA b)).plain=true:=eR
theorem jRo {b:UInt32}:(V.t (jG b)).plain=true:=eR
theorem jRp {b:UInt64}:(V.t (jEk b)).plain=true:=eR
theorem zRb {b:UInt8}:(qA b).flat=true:=eR
theorem zXj {b:UInt32}:(jG b).flat=true:=eR
theorem zXk {b:UInt64}:(jEk b).flat=true:=eR
attribute [go_sem] jGc jMm jMn jJp jRo jRp zRb zXj zXk zM2 zQb zQc zJb zOy zOz zBd zHq zHr zMy zHf zHg zHe zOq
end Go.Eng
end
section
namespace Go.Eng
open List
def d8:T->Option UInt8
 |.int .u8 n=>if 0<=n/\n<256 then some (UInt8.ofNat n.toNat) else none
 |_=>none
def d32:T->Option UInt32
 |.int .u32 n=>if 0<=n/\n<4294967296 then some (UInt32.ofNat n.toNat) else none
 |_=>none
def dL {α:Type}(d:T->Option α):List T->Option (List α)
 |[]=>some []
 |x::r=>(d x).bind λy=>(dL d r).map (y :: ·)
def dSl {α:Type}(d:T->Option α):T->Option (List α)
 |.sl es=>dL d es
 |_=>none
theorem zHt {x:UInt8}:d8 (qA x)=some x:=by
 have:=x.toNat_lt;unfold d8 qA;simp only;rw[if_pos oM];simp
theorem zQq {x:UInt32}:d32 (jG x)=some x:=by
 have:=x.toNat_lt;unfold d32 jG;simp only;rw[if_pos oM];simp
theorem jCm {α:Type}{d:T->Option α}{e:α->T}(hd:∀x,d (e x)=some x):∀{xs:List α},dL d (xs.map e)=some xs
 |[]=>rfl
 |x::r=>by simp[dL,hd,jCm hd]
def bsT (bs:List UInt8):T:= .sl (bs.map qA)
def dBs (t:T):Option (List UInt8):=dSl d8 t
theorem zEj {bs:List UInt8}:dBs (.sl (bs.map qA))=some bs:=jCm (λ_=>zHt)
end Go.Eng
end
section
namespace Go.Eng
open List
variable {cx:Cx}{β:Nat->Option BI}{F:Nat->Prop}{a:Act}{w:World}
theorem qL.freeze {fs:Fs}{hs:Hs}{fz:List Nat}{fw:Wr}{l:List Nat}(h:(qYn fz).run (jB hs)=some (fw,l)):qL fs hs fs (zAv hs fw):=by
 intro cx β F a w R;obtain⟨F1,R1,_⟩:=Rel.freezeAll h R (λid _=>.inl rfl);exact⟨β,F1,by rw[qHf];exact R1⟩
def rdL (g:V->Q V):List V->Q (List V)
 |[]=>.ret []
 |c::r=>(g c).bind λx=>(rdL g r).bind λy=>.ret (x::y)
def rdV:Nat->V->Q V
 |n+1,.sl id off len=>.get id fun
  |.live _ _ false _=>(zN (n+1) (.sl id off len)).bind λp=>Q.assert (p.2=[]) (.ret p.1)
  |_=>.ret (.sl id off len)
 |n+1,.agg cs=>(rdL (rdV n) cs).bind λp=>.ret (V.mk p)
 |n+1,.fn f cs=>(rdL (rdV n) cs).bind λp=>.ret (.fn f p)
 |_,v=>.ret v
def zVz (es:List V):Q (List V):=
 match qFl es with
 |some _=>.ret es
 |none=>rdL (rdV 4) es
theorem qLm {hm:Nat->Option Ob}{g:V->Q V}:∀{cs cs':List V}{l:List Nat},(rdL g cs).run hm=some (cs',l)->
  cs'.length=cs.length/\∀(i:Nat)(c c':V),cs[i]?=some c->cs'[i]?=some c'->∃li,(g c).run hm=some (c',li)
 |[],cs',l,h=>by
  obtain⟨e,_⟩:=qE h;cases e;exact⟨rfl,by intro i c c' h;simp at h⟩
 |c::r,cs',l,h=>by
  simp only[rdL]at h;obtain⟨x,l1,l2,hx,h,_⟩:=qS h;obtain⟨y,l3,l4,hy,h,_⟩:=qS h;obtain⟨e,_⟩:=qE h;cases e;obtain⟨g1,g2⟩:=qLm hy;refine⟨by simp[g1],λi a b ha hb=>?_⟩;cases i with
  |zero=>simp at ha hb;subst ha hb;exact⟨_,hx⟩
  |succ i=>exact g2 i a b (by simpa using ha) (by simpa using hb)
theorem qF3 {fm:Nat->Option V}{hm:Nat->Option Ob}(R:Rel cx β F fm hm a w):∀{n:Nat}{v v':V}{l:List Nat}{x:Value},(rdV n v).run hm=some (v',l)->qR β F w v x->qR β F w v' x
 |0,v,v',l,x,h,hx=>by
  have h':(Q.ret v).run hm=some (v',l):=by cases v<;>exact h
  obtain⟨e,_⟩:=qE h';cases e;exact hx
 |n+1,v,v',l,x,h,hx=>by
  cases v with
  |sl id off len=>
   simp only[rdV]at h;obtain⟨o,l',ho,h2,_⟩:=yV h;have keep:(Q.ret (V.sl id off len)).run hm=some (v',l')->qR β F w v' x:=by
    intro h3;obtain⟨e,_⟩:=qE h3;cases e;exact hx
   cases o with
   |dead=>exact keep h2
   |live z es wr full=>
    cases wr with
    |true=>exact keep h2
    |false=>
     obtain⟨p,l1,l2,hp,h3,_⟩:=qS h2;obtain⟨hp2,h3⟩:=qM h3;obtain⟨e,_⟩:=qE h3;cases e;obtain⟨p1,p2⟩:=p;simp only at hp2⊢;subst hp2;have:=wG R hp hx (fz':=[]) sM;rw[zB1]at this;exact this
  |agg cs=>
   simp only[rdV]at h;obtain⟨p,l1,l2,hp,h,_⟩:=qS h;obtain⟨e,_⟩:=qE h;cases e;obtain⟨g1,g2⟩:=qLm hp;obtain⟨us,rfl,k1,k2,k3⟩:=hx.agg_inv;refine qR.mk (by rw[k1,g1]) k2 (λi c' u hc' hu=>?_);have hi:i<cs.length:=by rw[<-g1];exact(List.getElem?_eq_some_iff.1 hc').1
   obtain⟨li,m1⟩:=g2 i cs[i] c' (by simp[hi]) hc';exact qF3 R m1 (k3 i cs[i] u (by simp[hi]) hu)
  |fn f cs=>
   simp only[rdV]at h;obtain⟨p,l1,l2,hp,h,_⟩:=qS h;obtain⟨e,_⟩:=qE h;cases e;obtain⟨g1,g2⟩:=qLm hp;cases hx with
   |fn _ _ us k1 k3=>
    refine .fn f _ us (by rw[k1,g1]) (λi c' u hc' hu=>?_);have hi:i<cs.length:=by rw[<-g1];exact(List.getElem?_eq_some_iff.1 hc').1
    obtain⟨li,m1⟩:=g2 i cs[i] c' (by simp[hi]) hc';exact qF3 R m1 (k3 i cs[i] u (by simp[hi]) hu)
  |t y=>obtain⟨e,_⟩:=qE (x:=V.t y) h;cases e;exact hx
  |nil=>obtain⟨e,_⟩:=qE (x:=V.nil) h;cases e;exact hx
  |ro y=>obtain⟨e,_⟩:=qE (x:=V.ro y) h;cases e;exact hx
  |ref i j k=>obtain⟨e,_⟩:=qE (x:=V.ref i j k) h;cases e;exact hx
  |bd g i j k=>obtain⟨e,_⟩:=qE (x:=V.bd g i j k) h;cases e;exact hx
  |bq=>obtain⟨e,_⟩:=qE (x:=V.bq) h;cases e;exact hx
  |tup y=>obtain⟨e,_⟩:=qE (x:=V.tup y) h;cases e;exact hx
theorem zZp {fm:Nat->Option V}{hm:Nat->Option Ob}(R:Rel cx β F fm hm a w){n:Nat}{v v':V}{l:List Nat}(h:(rdV n v).run hm=some (v',l))(hc:∀(j:Nat)(y:V),v.cells[j]?=some y->∃u,qR β F w y u/\u.oneCell'=true) :
  v'.cells.length=v.cells.length/\∀(j:Nat)(y y':V)(u:Value),v.cells[j]?=some y->v'.cells[j]?=some y'->qR β F w y u->u.oneCell'=true->qR β F w y' u:=by
 have one:v.cells=[v]->v'.cells.length=v.cells.length/\∀(j:Nat)(y y':V)(u:Value),v.cells[j]?=some y->v'.cells[j]?=some y'->qR β F w y u->u.oneCell'=true->qR β F w y' u:=by
  intro hv;obtain⟨u0,h1,h2⟩:=hc 0 v (by rw[hv];rfl);have hv':v'.cells=[v']:=(qF3 R h h1).one_cells h2;rw[hv,hv'];refine⟨rfl,λj y y' u hy hy' hr ho=>?_⟩;cases j with
  |zero=>simp at hy hy';subst hy hy';exact qF3 R h hr
  |succ j=>simp at hy
 have same:v'=v->v'.cells.length=v.cells.length/\∀(j:Nat)(y y':V)(u:Value),v.cells[j]?=some y->v'.cells[j]?=some y'->qR β F w y u->u.oneCell'=true->qR β F w y' u:=by
  rintro rfl;refine⟨rfl,λj y y' u hy hy' hr _=>?_⟩;rw[hy]at hy';cases hy';exact hr
 cases v with
 |agg cs=>
  cases n with
  |zero=>obtain⟨e,_⟩:=qE (x:=V.agg cs) h;exact same e
  |succ n=>
   simp only[rdV]at h;obtain⟨p,l1,l2,hp,h,_⟩:=qS h;obtain⟨e,_⟩:=qE h;cases e;obtain⟨g1,g2⟩:=qLm hp;rw[qVc];refine⟨g1,λj y y' u hy hy' hr _=>?_⟩;obtain⟨li,m1⟩:=g2 j y y' hy hy';exact qF3 R m1 hr
 |t y=>
  have h':(Q.ret (V.t y)).run hm=some (v',l):=by cases n<;>exact h
  obtain⟨e,_⟩:=qE h';exact same e
 |sl id off len=>exact one rfl
 |fn f cs=>exact one rfl
 |nil=>exact one rfl
 |ro y=>exact one rfl
 |ref i j k=>exact one rfl
 |bd g i j k=>exact one rfl
 |bq=>exact one rfl
 |tup y=>exact one rfl
theorem qSk {fm:Nat->Option V}{hm:Nat->Option Ob}(R:Rel cx β F fm hm a w){es es':List V}{l:List Nat}(h:(zVz es).run hm=some (es',l)){sz:Nat}{c:Array Value}(hh:vB β F w es sz c):es'.length=es.length/\vB β F w es' sz c:=by
 unfold zVz at h;split at h
 .obtain⟨e,_⟩:=qE h;cases e;exact⟨rfl,hh⟩
 .obtain⟨g1,g2⟩:=qLm h;refine⟨g1,λi x hx=>?_⟩;have hi:i<es.length:=by rw[<-g1];exact(List.getElem?_eq_some_iff.1 hx).1
  obtain⟨li,m1⟩:=g2 i es[i] x (by simp[hi]) hx;obtain⟨k1,k2⟩:=hh i es[i] (by simp[hi]);obtain⟨q1,q2⟩:=zZp R m1 (λj y hy=>let ⟨u,_,b,d⟩:=k2 j y hy;⟨u,b,d⟩);refine⟨q1.trans k1,λj y' hy'=>?_⟩;have hj:j<es[i].cells.length:=by rw[<-q1];exact(List.getElem?_eq_some_iff.1 hy').1
  obtain⟨u,hu,hr,ho⟩:=k2 j (es[i].cells[j]'hj) (by simp[hj]);exact⟨u,hu,q2 j (es[i].cells[j]'hj) y' u (by simp[hj]) hy' hr ho,ho⟩
theorem qPn {hm:Nat->Option Ob}{es es':List V}{l:List Nat}(h:(zVz es).run hm=some (es',l)):es'.length=es.length:=by
 unfold zVz at h;split at h
 .obtain⟨e,_⟩:=qE h;cases e;rfl
 .exact(qLm h).1
end Go.Eng
end
section
namespace Go.Eng
open List
variable {cx:Cx}{β:Nat->Option BI}{F:Nat->Prop}{a:Act}{w:World}
mutual
def vEq (ρ:Nat->Nat)(vt ko:List Nat):V->V->Prop
 |.nil,.nil=>True
 |.nil,.t x=>x=.sl []
 |.nil,.sl id off len=>(vt.contains id=true/\off=0)/\len=0
 |.agg cs,.agg cs'=>zCz ρ vt ko cs cs'
 |.agg cs,.t (.agg ts)=>zCz ρ vt ko cs (ts.map .t)
 |.fn f cs,.fn f' cs'=>f=f'/\zCz ρ vt ko cs cs'
 |v,v'=>v=v'.ren ρ/\(v'.ids.all λi=>ko.contains i)=true
def zCz (ρ:Nat->Nat)(vt ko:List Nat):List V->List V->Prop
 |[],[]=>True
 |c::r,c'::r'=>vEq ρ vt ko c c'/\zCz ρ vt ko r r'
 |_,_=>False
end
theorem qIt {ρ:Nat->Nat}{vt ko:List Nat}:∀{cs cs':List V},zCz ρ vt ko cs cs'->cs'.length=cs.length/\∀(i:Nat)(c c':V),cs[i]?=some c->cs'[i]?=some c'->vEq ρ vt ko c c'
 |[],[],_=>⟨rfl,by intro i c c' h;simp at h⟩
 |[],_::_,h=>by simp[zCz]at h
 |_::_,[],h=>by simp[zCz]at h
 |c::r,c'::r',h=>by
  simp only[zCz]at h;obtain⟨h1,h2⟩:=h;obtain⟨g1,g2⟩:=qIt h2;refine⟨by simp[g1],λi a b ha hb=>?_⟩;cases i with
  |zero=>simp at ha hb;subst ha hb;exact h1
  |succ i=>exact g2 i a b (by simpa using ha) (by simpa using hb)
structure jKc (ρ:Nat->Nat)(vt ko:List Nat)(β β':Nat->Option BI):Prop where
 o:∀i,i∈ko->β' i=β (ρ i)
 v:∀i,i∈vt->∃z,β' i=some ⟨none,z,0⟩
theorem qIv {ρ:Nat->Nat}{vt ko:List Nat}{β β':Nat->Option BI}(N:jKc ρ vt ko β β'){v':V}{x:Value}(hx:qR β F w (v'.ren ρ) x)(h:(v'.ids.all λi=>ko.contains i)=true):qR β' F w v' x:=by
 have h1:=hx.unren (ρ:=ρ) rfl;refine h1.sub (λi hi bi hb=>?_);have:=all_eq_true.1 h i hi;rw[N.o i (by simpa using this)];exact hb
theorem qRd {ρ:Nat->Nat}{vt ko:List Nat}{β β':Nat->Option BI}(N:jKc ρ vt ko β β'){v:V}{x:Value}(hx:qR β F w v x):∀{v':V},vEq ρ vt ko v v'->qR β' F w v' x:=by
 have aggc:∀{cs cs':List V}{vs:Array Value},vs.size=cs.length->(∀u∈vs,u.oneCell'=true)->(∀(i:Nat)(c:V)(u:Value),cs[i]?=some c->vs[i]?=some u->∀{v':V},vEq ρ vt ko c v'->qR β' F w v' u)->
   zCz ρ vt ko cs cs'->vs.size=cs'.length/\∀(i:Nat)(c:V)(u:Value),cs'[i]?=some c->vs[i]?=some u->qR β' F w c u:=by
  intro cs cs' vs hl _ ih h;obtain⟨g1,g2⟩:=qIt h;refine⟨by rw[hl,g1],λi c u hc hu=>?_⟩;have hi:i<cs.length:=by rw[<-g1];exact(List.getElem?_eq_some_iff.1 hc).1
  exact ih i cs[i] u (by simp[hi]) hu (g2 i cs[i] c (by simp[hi]) hc)
 induction hx with
 |@t y z hy=>
  intro v' h;have h':V.t y=v'.ren ρ/\(v'.ids.all λi=>ko.contains i)=true:=by cases v'<;>(try exact h)<;>(rename_i q;cases q<;>exact h)
  exact qIv N (by rw[<-h'.1];exact .t hy) h'.2
 |nil=>
  intro v' h;cases v' with
  |nil=>exact .nil
  |t y=>simp only[vEq]at h;subst h;exact .t .nil
  |sl id off len=>
   simp only[vEq]at h;obtain⟨⟨h1,rfl⟩,rfl⟩:=h;obtain⟨z,hz⟩:=N.v id (by simpa using h1);exact .slv id z 0 hz
  |_=>simp[vEq,V.ren]at h
 |ref id i f b sz room hb=>
  intro v' h;have h':V.ref id i f=v'.ren ρ/\(v'.ids.all λi=>ko.contains i)=true:=by cases v'<;>(try exact h)<;>(rename_i q;cases q<;>exact h)
  exact qIv N (by rw[<-h'.1];exact .ref id i f b sz room hb) h'.2
 |bd g id i f b sz room hb=>
  intro v' h;have h':V.bd g id i f=v'.ren ρ/\(v'.ids.all λi=>ko.contains i)=true:=by cases v'<;>(try exact h)<;>(rename_i q;cases q<;>exact h)
  exact qIv N (by rw[<-h'.1];exact .bd g id i f b sz room hb) h'.2
 |bq b=>
  intro v' h;have h':V.bq=v'.ren ρ/\(v'.ids.all λi=>ko.contains i)=true:=by cases v'<;>(try exact h)<;>(rename_i q;cases q<;>exact h)
  exact qIv N (by rw[<-h'.1];exact .bq b) h'.2
 |ro cs a news ha hn h1 hF hw hh=>
  intro v' h;have h':V.ro cs=v'.ren ρ/\(v'.ids.all λi=>ko.contains i)=true:=by cases v'<;>(try exact h)<;>(rename_i q;cases q<;>exact h)
  exact qIv N (by rw[<-h'.1];exact .ro cs a news ha hn h1 hF hw hh) h'.2
 |sl id off len cap b sz room a hb hlc hr ha hs=>
  intro v' h;have h':V.sl id off len=v'.ren ρ/\(v'.ids.all λi=>ko.contains i)=true:=by cases v'<;>(try exact h)<;>(rename_i q;cases q<;>exact h)
  exact qIv N (by rw[<-h'.1];exact .sl id off len cap b sz room a hb hlc hr ha hs) h'.2
 |slv id sz room hb=>
  intro v' h;have h':V.sl id 0 0=v'.ren ρ/\(v'.ids.all λi=>ko.contains i)=true:=by cases v'<;>(try exact h)<;>(rename_i q;cases q<;>exact h)
  exact qIv N (by rw[<-h'.1];exact .slv id sz room hb) h'.2
 |agg cs vs hl h1 hh ih=>
  intro v' h;cases v' with
  |agg cs'=>
   simp only[vEq]at h;obtain⟨g1,g2⟩:=aggc hl h1 ih h;exact .agg cs' vs g1 h1 g2
  |t y=>
   cases y with
   |agg ts=>
    simp only[vEq]at h;obtain⟨g1,g2⟩:=aggc hl h1 ih h;refine .t (.agg ts vs (by simpa using g1) h1 (λi c u hc hu=>?_));have:=g2 i (.t c) u (by rw[getElem?_map,hc];rfl) hu;cases this with
    |t h=>exact h
   |_=>simp[vEq,V.ren]at h
  |_=>simp[vEq,V.ren]at h
 |tup cs vs hl hh ih=>
  intro v' h;have h':V.tup cs=v'.ren ρ/\(v'.ids.all λi=>ko.contains i)=true:=by cases v'<;>(try exact h)<;>(rename_i q;cases q<;>exact h)
  exact qIv N (by rw[<-h'.1];exact .tup cs vs hl hh) h'.2
 |fn f cs vs hl hh ih=>
  intro v' h;cases v' with
  |fn f' cs'=>
   simp only[vEq]at h;obtain⟨rfl,h⟩:=h;obtain⟨g1,g2⟩:=qIt h;refine .fn f cs' vs (by rw[hl,g1]) (λi c u hc hu=>?_);have hi:i<cs.length:=by rw[<-g1];exact(List.getElem?_eq_some_iff.1 hc).1
   exact ih i cs[i] u (by simp[hi]) hu (g2 i cs[i] c (by simp[hi]) hc)
  |t y=>cases y<;>simp[vEq,V.ren]at h
  |_=>simp[vEq,V.ren]at h
theorem qWp {v y:V}{j:Nat}(hy:v.cells[j]?=some y):∀r∈y.ids,r∈v.ids:=by
 intro r hr;cases v with
 |agg cs=>simp only[V.ids];exact kU (mem_of_getElem? hy) hr
 |t t=>
  obtain⟨c,_,rfl⟩:=qA0 hy;simp[V.ids]at hr
 |_=>
  simp only[V.cells]at hy;cases j with
  |zero=>simp at hy;subst hy;exact hr
  |succ j=>simp at hy
theorem zU5 {ρ:Nat->Nat}{vt ko:List Nat}{β β':Nat->Option BI}(N:jKc ρ vt ko β β'){v v':V}(h:vEq ρ vt ko v v') :
  v'.cells.length=v.cells.length/\∀(j:Nat)(y y':V),v.cells[j]?=some y->v'.cells[j]?=some y'->∀x,qR β F w y x->qR β' F w y' x:=by
 have ren:v=v'.ren ρ/\(v'.ids.all λi=>ko.contains i)=true->v'.cells.length=v.cells.length/\∀(j:Nat)(y y':V),v.cells[j]?=some y->v'.cells[j]?=some y'->∀x,qR β F w y x->qR β' F w y' x:=by
  rintro⟨rfl,hall⟩;rw[qJv,zJ];refine⟨sM,λj y y' hy hy' x hx=>?_⟩;rw[getElem?_map,hy']at hy;cases hy;refine qIv N hx (all_eq_true.2 (λr hr=>?_));exact all_eq_true.1 hall r (qWp hy' r hr)
 have one:v.cells=[v]->v'.cells=[v']->v'.cells.length=v.cells.length/\∀(j:Nat)(y y':V),v.cells[j]?=some y->v'.cells[j]?=some y'->∀x,qR β F w y x->qR β' F w y' x:=by
  intro e1 e2;rw[e1,e2];refine⟨rfl,λj y y' hy hy' x hx=>?_⟩;cases j with
  |zero=>simp at hy hy';subst hy hy';exact qRd N hx h
  |succ j=>simp at hy
 cases v with
 |nil=>
  cases v' with
  |t y=>simp only[vEq]at h;subst h;exact one rfl rfl
  |agg cs=>simp[vEq,V.ren]at h
  |_=>exact one rfl rfl
 |agg cs=>
  cases v' with
  |agg cs'=>
   simp only[vEq]at h;obtain⟨g1,g2⟩:=qIt h;exact⟨g1,λj y y' hy hy' x hx=>qRd N hx (g2 j y y' hy hy')⟩
  |t y=>
   cases y with
   |agg ts=>
    simp only[vEq]at h;obtain⟨g1,g2⟩:=qIt h;exact⟨g1,λj y y' hy hy' x hx=>qRd N hx (g2 j y y' hy hy')⟩
   |_=>simp[vEq,V.ren]at h
  |_=>simp[vEq,V.ren]at h
 |fn f cs=>
  cases v' with
  |fn f' cs'=>exact one rfl rfl
  |t y=>cases y<;>simp[vEq,V.ren]at h
  |_=>simp[vEq,V.ren]at h
 |t y=>exact ren (by cases v'<;>(try exact h)<;>(rename_i q;cases q<;>exact h))
 |ref i j k=>exact ren (by cases v'<;>(try exact h)<;>(rename_i q;cases q<;>exact h))
 |bd g i j k=>exact ren (by cases v'<;>(try exact h)<;>(rename_i q;cases q<;>exact h))
 |bq=>exact ren (by cases v'<;>(try exact h)<;>(rename_i q;cases q<;>exact h))
 |sl i j k=>exact ren (by cases v'<;>(try exact h)<;>(rename_i q;cases q<;>exact h))
 |ro cs=>exact ren (by cases v'<;>(try exact h)<;>(rename_i q;cases q<;>exact h))
 |tup cs=>exact ren (by cases v'<;>(try exact h)<;>(rename_i q;cases q<;>exact h))
def jF4 (ρ:Nat->Nat)(vt ko:List Nat)(u es':List V):Prop:=
 match qFl u with
 |some _=>u=qFn ρ es'/\((qPh es').all λi=>ko.contains i)=true
 |none=>zCz ρ vt ko u es'
theorem zM6 {ρ:Nat->Nat}{vt ko:List Nat}{β β':Nat->Option BI}(N:jKc ρ vt ko β β'){u es':List V}(h:jF4 ρ vt ko u es'){sz:Nat}{c:Array Value}(hh:vB β F w u sz c):vB β' F w es' sz c:=by
 unfold jF4 at h;split at h
 .obtain⟨rfl,h⟩:=h;have h1:=hh.unren;intro i x hx;obtain⟨k1,k2⟩:=h1 i x hx;refine⟨k1,λj y hy=>?_⟩;obtain⟨u,g1,g2,g3⟩:=k2 j y hy;refine⟨u,g1,g2.sub (λr hr bi hb=>?_),g3⟩;have:=all_eq_true.1 h r (kU (mem_of_getElem? hx) (qWp hy r hr));rw[N.o r (by simpa using this)];exact hb
 .obtain⟨g1,g2⟩:=qIt h;intro i x hx;have hi:i<u.length:=by rw[<-g1];exact(List.getElem?_eq_some_iff.1 hx).1
  obtain⟨k1,k2⟩:=hh i u[i] (by simp[hi]);obtain⟨q1,q2⟩:=zU5 (F:=F) (w:=w) N (g2 i u[i] x (by simp[hi]) hx);refine⟨q1.trans k1,λj y' hy'=>?_⟩;have hj:j<u[i].cells.length:=by rw[<-q1];exact(List.getElem?_eq_some_iff.1 hy').1
  obtain⟨q,hu,hr,ho⟩:=k2 j (u[i].cells[j]'hj) (by simp[hj]);exact⟨q,hu,q2 j (u[i].cells[j]'hj) y' (by simp[hj]) hy' q hr,ho⟩
theorem zHy {ρ:Nat->Nat}{vt ko:List Nat}{u es':List V}(h:jF4 ρ vt ko u es'):es'.length=u.length:=by
 unfold jF4 at h;split at h
 .rw[h.1,zJ];simp
 .exact(qIt h).1
def zOg (hs:Hs)(ρ:Nat->Nat)(vt ko:List Nat)(v:Option V)(v':V):Prop:=
 match v with
 |some v=>(rdV 4 v).wp hs (λu _=>vEq ρ vt ko u v')
 |none=>False
def qMp (fs:Fs)(hs:Hs)(ρ:Nat->Nat)(vt ko:List Nat):Fs->Prop
 |[]=>True
 |(t,v')::r=>zOg hs ρ vt ko (jB fs t) v'/\qMp fs hs ρ vt ko r
def obC (hs:Hs)(ρ:Nat->Nat)(vt ko:List Nat):Option Ob->Ob->Prop
 |some (.live z es wr full),.live z' es' wr' full'=>z=z'/\wr=wr'/\(full'=true->full=true)/\(zVz es).wp hs (λu _=>jF4 ρ vt ko u es')
 |some _,.dead=>True
 |_,_=>False
def zVq (hs:Hs)(ρ:Nat->Nat)(vt ko:List Nat):Hs->Prop
 |[]=>True
 |(i,o')::r=>obC hs ρ vt ko (jB hs (ρ i)) o'/\zVq hs ρ vt ko r
def zU9:Hs->Bool
 |[]=>true
 |(i,.live _ [] true _)::r=>decide (100<=i)&&zU9 r
 |_=>false
def zYy (ρ:Nat->Nat)(old vt new:List Nat):Bool:=zLr ρ old new&&vt.all λi => !new.contains i
theorem qMp.get {fs:Fs}{hs:Hs}{ρ:Nat->Nat}{vt ko:List Nat}:∀{fs':Fs},qMp fs hs ρ vt ko fs'->∀t v',jB fs' t=some v'->zOg hs ρ vt ko (jB fs t) v'
 |[],_,t,v',h=>by cases h
 |(k,u)::r,hw,t,v',h=>by
  simp only[jB]at h;split at h
  .cases h;subst_vars;exact hw.1
  .exact qMp.get hw.2 t v' h
theorem zVq.get {hs:Hs}{ρ:Nat->Nat}{vt ko:List Nat}:∀{hs':Hs},zVq hs ρ vt ko hs'->∀i o',jB hs' i=some o'->obC hs ρ vt ko (jB hs (ρ i)) o'
 |[],_,t,v',h=>by cases h
 |(k,u)::r,hw,t,v',h=>by
  simp only[jB]at h;split at h
  .cases h;subst_vars;exact hw.1
  .exact zVq.get hw.2 t v' h
theorem zU9.get:∀{hs':Hs},zU9 hs'=true->∀i o',jB hs' i=some o'->(∃z full,o'=.live z [] true full)/\100<=i
 |[],_,t,v',h=>by cases h
 |(k,u)::r,hw,t,v',h=>by
  cases u with
  |dead=>simp[zU9]at hw
  |live z es wr full=>
   cases es with
   |cons _ _=>simp[zU9]at hw
   |nil=>
    cases wr with
    |false=>simp[zU9]at hw
    |true=>
     simp only[zU9,Bool.and_eq_true,decide_eq_true_eq]at hw;simp only[jB]at h;split at h
     .cases h;subst_vars;exact⟨⟨z,full,rfl⟩,hw.1⟩
     .exact zU9.get hw.2 t v' h
theorem qL.cv0 {fs fs':Fs}{hs hv ho:Hs}(ρ:Nat->Nat)(h1:qMp fs hs ρ (hv.map (·.1)) (ho.map (·.1)) fs')(h2:zVq hs ρ (hv.map (·.1)) (ho.map (·.1)) ho)(h3:zU9 hv=true)(h4:zYy ρ (hs.map (·.1)) (hv.map (·.1)) (ho.map (·.1))=true):qL fs hs fs' (hv++ho):=by
 simp only[zYy,zLr,Bool.and_eq_true]at h4;obtain⟨⟨⟨hnum,hinj⟩,hkeep⟩,hdis⟩:=h4;intro cx β F a w R
 let β':Nat->Option BI:=λi=>match jB hv i with
  |some o=>some ⟨none,o.z,0⟩
  |none=>match jB ho i with
   |some _=>β (ρ i)
   |none=>none
 have bv:∀i o,jB hv i=some o->β' i=some ⟨none,o.z,0⟩:=λi o h=>by simp[β',h]
 have hvo:∀i,i∈ho.map (·.1)->jB hv i=none:=by
  intro i hi;cases h:jB hv i with
  |none=>rfl
  |some o=>
   have:=all_eq_true.1 hdis i (qBt h);exact absurd hi (by simpa using this)
 have bo:∀i,i∈ho.map (·.1)->β' i=β (ρ i):=by
  intro i hi;obtain⟨o,h⟩:=qHe hi;simp[β',hvo i hi,h]
 have N:jKc ρ (hv.map (·.1)) (ho.map (·.1)) β β':=⟨bo,λi hi=>by
  obtain⟨o,h⟩:=qHe hi;exact⟨o.z,bv i o h⟩⟩
 have inj:∀i j,i∈ho.map (·.1)->j∈ho.map (·.1)->ρ i=ρ j->i=j:=by
  intro i j hi hj e;obtain⟨m,hm⟩:=getElem?_of_mem hi;obtain⟨n,hn⟩:=getElem?_of_mem hj;have hml:m<(ho.map (·.1)).length:=(List.getElem?_eq_some_iff.1 hm).1;have hnl:n<(ho.map (·.1)).length:=(List.getElem?_eq_some_iff.1 hn).1;have:=qAi (of_decide_eq_true hinj) (i:=m) (j:=n) (by simpa using hml) (by simpa using hnl) (by
   have a1:(ho.map (·.1))[m]=i:=by rw[getElem?_eq_getElem hml]at hm;exact Option.some.inj hm
   have a2:(ho.map (·.1))[n]=j:=by rw[getElem?_eq_getElem hnl]at hn;exact Option.some.inj hn
   simp only[getElem_map]at a1 a2⊢;rw[a1,a2];exact e)
  subst this;rw[hm]at hn;exact Option.some.inj hn
 have ob:∀{bi:BI}{o o':Ob},qG9 β F w bi o->obC hs ρ (hv.map (·.1)) (ho.map (·.1)) (some o) o'->qG9 β' F w bi o':=by
  intro bi o o' hok hc;cases o' with
  |dead=>trivial
  |live z' es' wr' full'=>
   cases o with
   |dead=>exact hc.elim
   |live z es wr full=>
    obtain⟨rfl,rfl,hfull,u,l,hrd,hes⟩:=hc;have l1:=qPn hrd;have l2:=zHy hes;unfold qG9 at hok⊢;obtain⟨g1,g2,g3⟩:=hok;refine⟨g1,λh=>by rw[l2,l1];exact g2 (hfull h),?_⟩;cases hb:bi.blk with
    |none=>
     simp only[hb]at g3⊢;refine⟨?_,g3.2⟩;rw[g3.1]at l1;exact eq_nil_of_length_eq_zero (by rw[l2,l1];rfl)
    |some b=>
     simp only[hb]at g3⊢;obtain⟨c,e,fz,k1,k2,k3,k4,k5,k6,k7⟩:=g3;exact⟨c,e,fz,k1,k2,k3,by rw[l2,l1];exact k4,k5,zM6 N hes (qSk R hrd k6).2,k7⟩
 have cases_:∀id o',jB (hv++ho) id=some o'->(∃z full,o'=.live z [] true full/\β' id=some ⟨none,z,0⟩/\100<=id)\/(id∈ho.map (·.1)/\∃o,jB hs (ρ id)=some o/\obC hs ρ (hv.map (·.1)) (ho.map (·.1)) (some o) o'/\(id<100->ρ id=id)/\(100<=id->100<=ρ id)):=by
  intro id o' h;rw[qQu]at h;split at h
  .rename_i o hvl;cases h;obtain⟨⟨z,full,rfl⟩,h100⟩:=zU9.get h3 id o' hvl;exact .inl ⟨z,full,rfl,bv id _ hvl,h100⟩
  .have hob:=h2.get id o' h;have hm:=qBt h;have hi:=all_eq_true.1 hnum id hm;have hi':(id<100/\ρ id=id)\/(100<=id/\100<=ρ id):=by simpa using hi
   cases hl:jB hs (ρ id) with
   |none=>rw[hl]at hob;cases o'<;>exact hob.elim
   |some o=>
    rw[hl]at hob;exact .inr ⟨hm,o,rfl,hob,λh=>by rcases hi' with h'|h';exact h'.2;omega,λh=>by rcases hi' with h'|h';omega;exact h'.2⟩
 have notdead:∀{o o':Ob},obC hs ρ (hv.map (·.1)) (ho.map (·.1)) (some o) o'->o'≠ .dead->o≠ .dead:=by
  intro o o' hc hd hd';subst hd';cases o' with
  |dead=>exact hd rfl
  |live _ _ _ _=>exact hc
 refine⟨β',F,R.tsz,R.dfr,λt v' hv'=>?_,λid o' ho'=>?_,λid hn=>?_,λi j bi bj b oi oj e1 e2 e3 e4 e5 e6 e7 e8=>?_,R.os,R.tape,R.output,R.size,R.ext,λid z es full bi b e1 e2 e3=>?_,R.inF,R.inw,R.Fw,R.F0,λid bi b e1 e2=>?_,λg cs hg=>?_,λk bi hk=>?_,R.gs⟩
 .have hsl:=h1.get t v' hv';unfold zOg at hsl;split at hsl
  .rename_i v hl;obtain⟨u,l,hrd,heq⟩:=hsl;obtain⟨x,g3,g4⟩:=R.fr t v hl;exact⟨x,g3,qRd N (qF3 R hrd g4) heq⟩
  .exact hsl.elim
 .rcases cases_ id o' ho' with⟨z,full,rfl,hb,_⟩|⟨hm,o,g1,g2,_⟩
  .exact⟨_,hb,rfl,λ_=>rfl,rfl,rfl⟩
  .obtain⟨bi,g3,g4⟩:=R.hp _ o g1;exact⟨bi,by rw[bo id hm];exact g3,ob g4 g2⟩
 .rw[qQu]at hn;split at hn
  .cases hn
  .rename_i hv0;simp[β',hv0,hn]
 .rcases cases_ i oi e5 with⟨z,full,rfl,hb,_⟩|⟨hm,o,g1,g2,_⟩
  .rw[hb]at e1;cases e1;cases e3
  .rcases cases_ j oj e6 with⟨z,full,rfl,hb,_⟩|⟨hm',o',g1',g2',_⟩
   .rw[hb]at e2;cases e2;cases e4
   .rw[bo i hm]at e1;rw[bo j hm']at e2;exact inj i j hm hm' (R.inj _ _ bi bj b o o' e1 e2 e3 e4 g1 g1' (notdead g2 e7) (notdead g2' e8))
 .rcases cases_ id _ e1 with⟨z',full',_,hb,_⟩|⟨hm,o,g1,g2,g3,g4⟩
  .rw[hb]at e2;cases e2;cases e3
  .rw[bo id hm]at e2;cases o with
   |dead=>exact g2.elim
   |live z0 es0 wr0 full0=>
    obtain⟨_,rfl,_⟩:=g2;rcases R.old _ z0 es0 full0 bi b g1 e2 e3 with h|⟨h,h'⟩
    .exact .inl h
    .refine .inr ⟨?_,h'⟩;rcases Nat.lt_or_ge id 100 with h7|h7
     .exact h7
     .have:=g4 h7;omega
 .cases hl:jB hv id with
  |some o=>rw[bv id o hl]at e1;cases e1;cases e2
  |none=>
   cases hl2:jB ho id with
   |none=>simp[β',hl,hl2]at e1
   |some o=>
    rw[bo id (qBt hl2)]at e1;exact R.blt _ bi b e1 e2
 .have:=R.gl g cs hg;cases this with
  |ro _ ad news ha hn h1' hF hw h=>exact .ro cs _ news ha hn h1' hF hw h
 .have hβ:=R.ext0 k bi hk;cases hl:jB hs k with
  |none=>rw[R.dom k hl]at hβ;cases hβ
  |some o=>
   have hk100:=cx.d0 k bi hk;have hm:k∈ho.map (·.1):=by
    have:=all_eq_true.1 hkeep k (qBt hl);simpa [hk100]using this
   rw[bo k hm];have hi:=all_eq_true.1 hnum k hm;have hi':(k<100/\ρ k=k)\/(100<=k/\100<=ρ k):=by simpa using hi
   rw[show ρ k=k by rcases hi' with h|h;exact h.2;omega];exact hβ
theorem qL.cv {fs fs':Fs}{hs hv ho:Hs}(fz:List Nat)(ρ:Nat->Nat)
  (h:(qYn fz).wp hs (λfw _=>qMp fs (zAv hs fw) ρ (hv.map (·.1)) (ho.map (·.1)) fs'/\zVq (zAv hs fw) ρ (hv.map (·.1)) (ho.map (·.1)) ho/\zYy ρ ((zAv hs fw).map (·.1)) (hv.map (·.1)) (ho.map (·.1))=true)) (h3:zU9 hv=true):qL fs hs fs' (hv++ho):=by
 obtain⟨fw,l,hf,h1,h2,h4⟩:=h;exact(qL.freeze hf).trans (qL.cv0 ρ h1 h2 h3 h4)
theorem qL.rd {fs fs':Fs}{hs ho:Hs}(ρ:Nat->Nat)(h1:qMp fs hs ρ [] (ho.map (·.1)) fs')(h2:zVq hs ρ [] (ho.map (·.1)) ho)(h4:zYy ρ (hs.map (·.1)) [] (ho.map (·.1))=true):qL fs hs fs' ho:=
 qL.cv0 (hv:=[]) ρ h1 h2 rfl h4
end Go.Eng
end
