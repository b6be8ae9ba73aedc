/- A part of an abstract machine, its walks, their tie. -/
import Derived.Test.YtekghmfbgbhobaaGreatDoorS8
set_option linter.all false
section
namespace Go.Eng
variable {tab:Tab} {gl:Gl} {fs:Fs} {hs:Hs} {Qx:qF0}
theorem jHo:AC.skip.wp tab gl fs hs Qx=Qx .normal fs hs:=Eq.trans (Eq.refl _) rfl
theorem jLl:AC.ret.wp tab gl fs hs Qx=Qx .ret fs hs:=Eq.trans (Eq.refl _) rfl
theorem jHm {id:Nat}:(AC.exit id).wp tab gl fs hs Qx=Qx (.exit id) fs hs:=Eq.trans (Eq.refl _) rfl
def zZ3 (tab:Tab)(gl:Gl)(b:AC)(Qx:qF0):qF0:=fun e fs' hs'=>match e with | .normal=>b.wp tab gl fs' hs' Qx | e=>Qx e fs' hs'
def qSy (id:Nat)(Qx:qF0):qF0:=fun e fs' hs'=>match e with | .exit id'=>(if id'=id then Qx .normal fs' hs' else Qx (.exit id') fs' hs') | e=>Qx e fs' hs'
theorem jLm {a b:AC}:(AC.seq a b).wp tab gl fs hs Qx=a.wp tab gl fs hs (zZ3 tab gl b Qx):=Eq.trans (Eq.refl _) rfl
theorem zEw {b:AC}:zZ3 tab gl b Qx .normal fs hs=b.wp tab gl fs hs Qx:=Eq.trans (Eq.refl _) rfl
theorem zN0 {b:AC}{id:Nat}:zZ3 tab gl b Qx (.exit id) fs hs=Qx (.exit id) fs hs:=Eq.trans (Eq.refl _) rfl
theorem zS5 {b:AC}:zZ3 tab gl b Qx .ret fs hs=Qx .ret fs hs:=Eq.trans (Eq.refl _) rfl
theorem jAv {id:Nat}{a:AC}:(AC.block id a).wp tab gl fs hs Qx=a.wp tab gl fs hs (qSy id Qx):=Eq.trans (Eq.refl _) rfl
theorem qXq {id:Nat}:qSy id Qx .normal fs hs=Qx .normal fs hs:=Eq.trans (Eq.refl _) rfl
theorem zH3 {id:Nat}:qSy id Qx .ret fs hs=Qx .ret fs hs:=Eq.trans (Eq.refl _) rfl
theorem zDz {id id':Nat}:qSy id Qx (.exit id') fs hs=if id'=id then Qx .normal fs hs else Qx (.exit id') fs hs:=Eq.trans (Eq.refl _) rfl
theorem jHl {c:qFi}{a b:AC}:(AC.cond c a b).wp tab gl fs hs Qx=qIy (c.val gl (jU fs)) (a.wp tab gl fs hs Qx) (b.wp tab gl fs hs Qx):=Eq.trans (Eq.refl _) rfl
theorem jAw {c:qFi}{a b:AC}:(AC.condb c a b).wp tab gl fs hs Qx=qRa (c.val gl (jU fs)) (a.wp tab gl fs hs Qx) (b.wp tab gl fs hs Qx):=Eq.trans (Eq.refl _) rfl
def qP7 (tab:Tab)(gl:Gl)(a:AC)(fs:Fs)(hs:Hs)(Qx:qF0):Prop:=zJ9 (fun fs hs K=>a.wp tab gl fs hs K) fs hs Qx
theorem jHn {a:AC}:(AC.loop a).wp tab gl fs hs Qx=qP7 tab gl a fs hs Qx:=Eq.trans (Eq.refl _) rfl
@[congr] theorem zX0 {a:AC} {fs':Fs} {hs':Hs} (h1:fs=fs') (h2:hs=hs'):qP7 tab gl a fs hs Qx=qP7 tab gl a fs' hs' Qx:=by rw[h1,h2]
def jE4 (anc:Option (List Nat))(Qx:qF0):Fs→Hs→List (List Nat×List Nat)→Prop:=fun fs' hs' acc=>(match anc with | none=>True | some l=>chk l acc=true)∧Qx .normal fs' hs'
theorem zM9 {acc:List (List Nat×List Nat)}:jE4 none Qx fs hs acc=Qx .normal fs hs:=by simp[jE4]
theorem zNa {l:List Nat}{acc:List (List Nat×List Nat)}:jE4 (some l) Qx fs hs acc=(chk l acc=true∧Qx .normal fs hs):=Eq.trans (Eq.refl _) rfl
def opK (tab:Tab)(gl:Gl)(r:List zU)(nb:Nat)(fs:Fs)(d:Option Nat)(hs:Hs)(acc:List (List Nat×List Nat))(K:Fs→Hs→List (List Nat×List Nat)→Prop):V×Wr→List Nat→Prop:=
 fun p l=>qZ9 tab gl r nb (zVr fs d p.1) (qZ8 hs p.2) (acc++[(wC p.2,l)]) K
theorem zYe {r:List zU}{nb:Nat}{d:Option Nat}{acc:List (List Nat×List Nat)}{K:Fs→Hs→List (List Nat×List Nat)→Prop}{v:V}{W:Wr}{l:List Nat} :
  opK tab gl r nb fs d hs acc K (v,W) l=qZ9 tab gl r nb (zVr fs d v) (qZ8 hs W) (acc++[(wC W,l)]) K:=Eq.trans (Eq.refl _) rfl
def jJl {α:Type}(id:Nat)(K:α→List Nat→Prop):α→List Nat→Prop:=fun x l=>K x (id::l)
theorem zQ7 {α:Type}{id:Nat}{K:α→List Nat→Prop}{x:α}{l:List Nat}:jJl id K x l=K x (id::l):=Eq.trans (Eq.refl _) rfl
def jIc {α:Type}(l:List Nat)(K:α→List Nat→Prop):α→List Nat→Prop:=fun x l'=>K x (l++l')
theorem zPu {α:Type}{l l':List Nat}{K:α→List Nat→Prop}{x:α}:jIc l K x l'=K x (l++l'):=Eq.trans (Eq.refl _) rfl
def jIi {α γ:Type}(hs:Hs)(f:γ→Q α)(K:α→List Nat→Prop):γ→List Nat→Prop:=fun x l=>(f x).wp hs (jIc l K)
theorem zKl {α γ:Type}{f:γ→Q α}{K:α→List Nat→Prop}{x:γ}{l:List Nat}:jIi hs f K x l=(f x).wp hs (jIc l K):=Eq.trans (Eq.refl _) rfl
theorem zGe {α:Type}{o:Ob}{id:Nat}{k:Ob→Q α}{K:α→List Nat→Prop}:zJ2 hs (some o) id k K=(k o).wp hs (jJl id K):=Eq.trans (Eq.refl _) rfl
theorem zDi {α:Type}{id:Nat}{k:Q α}{K:α→List Nat→Prop}:qW9 hs none id k K=k.wp hs (jJl id K):=Eq.trans (Eq.refl _) rfl
theorem jLk {nb:Nat}{anc:Option (List Nat)}{o:zU}{os:List zU}:(AC.reg nb anc (o::os)).wp tab gl fs hs Qx =
  (o.q tab gl (jU fs) nb).wp hs (opK tab gl os (nb+16) fs o.dst hs [] (jE4 anc Qx)):=Eq.trans (Eq.refl _) rfl
theorem zO5 {nb:Nat}{anc:Option (List Nat)}:(AC.reg nb anc []).wp tab gl fs hs Qx=jE4 anc Qx fs hs []:=Eq.trans (Eq.refl _) rfl
theorem zTv {nb:Nat}{acc:List (List Nat×List Nat)}{K:Fs→Hs→List (List Nat×List Nat)→Prop}:qZ9 tab gl [] nb fs hs acc K=K fs hs acc:=Eq.trans (Eq.refl _) rfl
theorem zO3 {o:zU}{r:List zU}{nb:Nat}{acc:List (List Nat×List Nat)}{K:Fs→Hs→List (List Nat×List Nat)→Prop} :
  qZ9 tab gl (o::r) nb fs hs acc K=(o.q tab gl (jU fs) nb).wp hs (opK tab gl r (nb+16) fs o.dst hs acc K):=Eq.trans (Eq.refl _) rfl
theorem zL8:wC []=[]:=Eq.trans (Eq.refl _) rfl
theorem zIl {p:Nat×Ob}{r:Wr}:wC (p::r)=p.1::wC r:=Eq.trans (Eq.refl _) rfl
theorem zQ8 {α:Type}{t:Nat}:jU ([]:List (Nat×α)) t=none:=Eq.trans (Eq.refl _) rfl
theorem zMg {α:Type}{k t:Nat}{v:α}{r:List (Nat×α)}:jU ((k,v)::r) t=if k=t then some v else jU r t:=Eq.trans (Eq.refl _) rfl
theorem zS6 {α:Type}{k:Nat}{v:α}:jH6 [] k v=[(k,v)]:=Eq.trans (Eq.refl _) rfl
theorem zN2 {α:Type}{k k':Nat}{v v':α}{r:List (Nat×α)}:jH6 ((k',v')::r) k v=if k'=k then (k,v)::r else (k',v')::jH6 r k v:=Eq.trans (Eq.refl _) rfl
theorem zN4 {d:Nat}{v:V}:zVr fs (some d) v=(d,v)::fs:=Eq.trans (Eq.refl _) rfl
theorem zN3 {v:V}:zVr fs none v=fs:=Eq.trans (Eq.refl _) rfl
theorem zTn:qZ8 hs []=hs:=Eq.trans (Eq.refl _) rfl
theorem zOw {i:Nat}{o:Ob}{r:Wr}:qZ8 hs ((i,o)::r)=qZ8 ((i,o)::hs) r:=Eq.trans (Eq.refl _) rfl
theorem zT2 {α:Type}{i:Nat}:qD i ([]:List α)=[]:=Eq.trans (Eq.refl _) rfl
theorem zPc {α:Type}{i:Nat}{x:α}{r:List α}:qD i (x::r)=(i,x)::qD (i+1) r:=Eq.trans (Eq.refl _) rfl
variable {K:V×Wr→List Nat→Prop} {nb:Nat} {fm:Nat→Option V}
theorem zYw {d:Option Nat}{k:AK}{xs:List qFi}:((⟨d,k,xs,none⟩:zU).q tab gl fm nb).wp hs K=zDj hs (qA4 gl fm xs) (fun vs=>k.q tab nb vs) K:=by
 simp only[zU.q,qFd,Q.wp_of_bind,qUv,if_true,zU.go]
def qQz (g:Option Bool)(A B:Prop):Prop:=
 match g with
 | some true=>A
 | some false=>B
 | none=>False
@[congr] theorem zUv {g g':Option Bool} {A B:Prop} (h:g=g'):qQz g A B=qQz g' A B:=by rw[h]
theorem zEi {A B:Prop}:qQz (some true) A B=A:=Eq.trans (Eq.refl _) rfl
theorem zAu {A B:Prop}:qQz (some false) A B=B:=Eq.trans (Eq.refl _) rfl
theorem qB {b:Bool}{A B:Prop}:qQz (some b) A B=((b=true→A)∧(b=false→B)):=by
 cases b<;>simp[qQz]
theorem zYv {d:Option Nat}{k:AK}{xs:List qFi}{t:Nat}{b:Bool}:((⟨d,k,xs,some (t,b)⟩:zU).q tab gl fm nb).wp hs K =
  qQz (qFd fm (some (t,b))) (zDj hs (qA4 gl fm xs) (fun vs=>k.q tab nb vs) K) (K (.tup [],[]) []):=by
 simp only[zU.q,Q.wp_of_bind];cases h:qFd fm (some (t,b)) with
 | none=>rfl
 | some g=>cases g<;>simp[qQz,qUv,zU.go,Q.wp_of_bind,Q.wp_ret]
theorem zAt {t:Nat}{b:Bool}:qFd fm (some (t,b))=match fm t with
  | some (.t (.bool c))=>some (c==b)
  | some (.tup [])=>some false
  | _=>none:=Eq.trans (Eq.refl _) rfl
theorem zTr:qA4 gl fm []=some []:=Eq.trans (Eq.refl _) rfl
theorem zTs {t:Nat}{r:List qFi}:qA4 gl fm (.tmp t::r)=(fm t).bind fun v=>(qA4 gl fm r).map (v :: ·):=Eq.trans (Eq.refl _) rfl
theorem zTq {v:V}{r:List qFi}:qA4 gl fm (.cst v::r)=(qA4 gl fm r).map (v :: ·):=Eq.trans (Eq.refl _) rfl
theorem zO1 {g:Nat}{r:List qFi}:qA4 gl fm (.glob g::r)=((gl g).map V.ro).bind fun v=>(qA4 gl fm r).map (v :: ·):=Eq.trans (Eq.refl _) rfl
theorem jAj {t:Nat}:(qFi.tmp t).val gl fm=fm t:=Eq.trans (Eq.refl _) rfl
theorem jAi {v:V}:(qFi.cst v).val gl fm=some v:=Eq.trans (Eq.refl _) rfl
theorem jJd {ao:AO}{vs:List V}:(AK.op ao).q tab nb vs=sem ao vs nb:=Eq.trans (Eq.refl _) rfl
theorem zXv {f:FuncId}{keep:Bool}{vs:List V}:(AK.call f keep).q tab nb vs=qUz tab f keep vs nb:=Eq.trans (Eq.refl _) rfl
theorem zQ2 {f:FuncId}{keep:Bool}{caps rest:List V}:(AK.callv keep).q tab nb (.fn f caps::rest)=qUz tab f keep (rest++caps) nb:=Eq.trans (Eq.refl _) rfl
theorem zQ1 {g id i f:Nat}{keep:Bool}{rest:List V}:(AK.callv keep).q tab nb (.bd g id i f::rest)=qUz tab g keep (.ref id i f::rest) nb:=Eq.trans (Eq.refl _) rfl
attribute [go_sem] zQ1
theorem qEf {α β γ:Type}{q:Q α}{f:α→Q β}{g:β→Q γ}:(q.bind f).bind g=q.bind fun x=>(f x).bind g:=by
 induction q with
 | ret a=>rfl
 | fail=>rfl
 | get id k ih=>simp only[Q.bind,ih]
 | free id k ih=>simp only[Q.bind,ih]
theorem zGg {α γ:Type}{x:γ}{f:γ→Q α}{K:α→List Nat→Prop}:((Q.ret x).bind f).wp hs K=(f x).wp hs K:=Eq.trans (Eq.refl _) rfl
theorem zDm {α γ:Type}{f:γ→Q α}{K:α→List Nat→Prop}:((Q.fail).bind f).wp hs K=False:=Q.wp_fail
theorem zDk {α β γ:Type}{q:Q α}{f:α→Q β}{g:β→Q γ}{K:γ→List Nat→Prop}:((q.bind f).bind g).wp hs K=(q.bind fun x=>(f x).bind g).wp hs K:=by rw[qEf]
theorem zGf {α γ:Type}{id:Nat}{k:Ob→Q γ}{f:γ→Q α}{K:α→List Nat→Prop}:((Q.get id k).bind f).wp hs K=zJ2 hs (jU hs id) id (fun o=>(k o).bind f) K:=Q.wp_get
theorem zDn {α γ:Type}{id:Nat}{k:Q γ}{f:γ→Q α}{K:α→List Nat→Prop}:((Q.free id k).bind f).wp hs K=qW9 hs (jU hs id) id (k.bind f) K:=Q.wp_free
theorem qWn {α γ:Type}{b:Prop}[Decidable b]{q:Q γ}{f:γ→Q α}{K:α→List Nat→Prop}:((Q.assert b q).bind f).wp hs K=(b∧(q.bind f).wp hs K):=by
 rw[←Q.wp_assert];unfold Q.assert;split<;>rfl
def wpA (b P:Prop):Prop:=b∧P
@[congr] theorem jHr {b b' P:Prop} (h:b=b'):wpA b P=wpA b' P:=by rw[h]
theorem zTw {P:Prop}:wpA True P=P:=by simp[wpA]
theorem jLn {b P:Prop}(h:b):wpA b P=P:=by simp[wpA,h]
theorem jAx {a b P:Prop}:wpA (a∧b) P=wpA a (wpA b P):=by simp[wpA,and_assoc]
theorem zJ5 {α:Type}{b:Prop}[Decidable b]{q:Q α}{K:α→List Nat→Prop}:(Q.assert b q).wp hs K=wpA b (q.wp hs K):=Q.wp_assert
theorem qUw {α γ:Type}{b:Prop}[Decidable b]{q:Q γ}{f:γ→Q α}{K:α→List Nat→Prop}:((Q.assert b q).bind f).wp hs K=wpA b ((q.bind f).wp hs K):=qWn
theorem zO8 {α γ:Type}{b:Prop}[Decidable b]{o:Option γ}{f:γ→Q α}{K:α→List Nat→Prop}:zDj hs (if b then o else none) f K=wpA b (zDj hs o f K):=zTx
theorem zJ4 {α γ:Type}{b:Prop}[Decidable b]{o:Option γ}{f:γ→Q α}{K:α→List Nat→Prop}:zDj hs (if b then none else o) f K=wpA (¬ b) (zDj hs o f K):=zO7
theorem qC {b:Bool}{A B:Prop}:qIy (some (.t (.bool b))) A B=((b=true→A)∧(b=false→B)):=Eq.trans (Eq.refl _) rfl
theorem qR2 {α γ:Type}{x:γ}{f:γ→Q α}:(Q.ret x).bind f=f x:=Eq.trans (Eq.refl _) rfl
theorem zZ0 {vs:List V}:sem .mov vs nb=zHp vs:=Eq.trans (Eq.refl _) rfl
theorem zS4 {vs:List V}:sem .smov vs nb=qYg vs:=Eq.trans (Eq.refl _) rfl
theorem zS2 {vs:List V}:sem .pick vs nb=qT5 vs:=Eq.trans (Eq.refl _) rfl
theorem zZw {vs:List V}:sem .box vs nb=zBp nb vs:=Eq.trans (Eq.refl _) rfl
theorem zIz {vs:List V}:sem .boxArr vs nb=qJ4 nb vs:=Eq.trans (Eq.refl _) rfl
theorem zZ2 {vs:List V}:sem .s2b vs nb=qW4 nb vs:=Eq.trans (Eq.refl _) rfl
theorem zZt {vs:List V}:sem .b2s vs nb=zHl vs:=Eq.trans (Eq.refl _) rfl
theorem zI2 {vs:List V}:sem .sindex vs nb=qFx vs:=Eq.trans (Eq.refl _) rfl
theorem zZx {vs:List V}:sem .len vs nb=zBq vs:=Eq.trans (Eq.refl _) rfl
theorem zS3 {vs:List V}:sem .slen vs nb=qQf vs:=Eq.trans (Eq.refl _) rfl
theorem zIw {vs:List V}:sem .appstr vs nb=qBv nb vs:=Eq.trans (Eq.refl _) rfl
theorem zZz {vs:List V}:sem .min vs nb=zHo vs:=Eq.trans (Eq.refl _) rfl
theorem zZy {vs:List V}:sem .max vs nb=zHn vs:=Eq.trans (Eq.refl _) rfl
theorem zZs {n:Nat}{k:IntKind}{neg:Bool}{vs:List V}:sem (.aeq n k neg) vs nb=qT2 n k neg vs:=Eq.trans (Eq.refl _) rfl
theorem zI1 {vs:List V}:sem .nilchk vs nb=qJ5 vs:=Eq.trans (Eq.refl _) rfl
theorem zZ1 {z:Nat}{es vs:List V}:sem (.new z es) vs nb=zBr z es nb vs:=Eq.trans (Eq.refl _) rfl
theorem zNs {z:List V}{pl:List (Nat×Nat)}{vs:List V}:sem (.build z pl) vs nb=qO9 z pl vs:=Eq.trans (Eq.refl _) rfl
theorem zI0 {z len:Nat}{zero:V}{ix:List Nat}{vs:List V}:sem (.bslice z len zero ix) vs nb=qO8 z len zero ix nb vs:=Eq.trans (Eq.refl _) rfl
theorem zSz {n:Nat}{agg:Bool}{vs:List V}:sem (.load n agg) vs nb=qQe n agg vs:=Eq.trans (Eq.refl _) rfl
theorem zNz {n:Nat}{vs:List V}:sem (.store n) vs nb=qPd n vs:=Eq.trans (Eq.refl _) rfl
theorem zZv {op:BinOp}{vs:List V}:sem (.bin op) vs nb=zHm op vs:=Eq.trans (Eq.refl _) rfl
theorem zZu {neg:Bool}{vs:List V}:sem (.beq neg) vs nb=zBo neg vs:=Eq.trans (Eq.refl _) rfl
theorem jFq {op:UnOp}{vs:List V}:sem (.un op) vs nb=zSu op vs:=Eq.trans (Eq.refl _) rfl
theorem zSv {k:IntKind}{vs:List V}:sem (.conv k) vs nb=qHr k vs:=Eq.trans (Eq.refl _) rfl
theorem zEv {z by_:Nat}{zero:V}{vs:List V}:sem (.mkslice z by_ zero) vs nb=zSt z by_ zero nb vs:=Eq.trans (Eq.refl _) rfl
theorem zI3 {lo hi mx:Bool}{vs:List V}:sem (.sslice lo hi mx) vs nb=qPc lo hi mx vs:=Eq.trans (Eq.refl _) rfl
theorem zNy {z:Nat}{lo hi mx:Bool}{vs:List V}:sem (.slice z lo hi mx) vs nb=qSi z lo hi mx vs:=Eq.trans (Eq.refl _) rfl
theorem zIy {n z:Nat}{lo hi mx:Bool}{vs:List V}:sem (.aslice n z lo hi mx) vs nb=qO7 n z lo hi mx vs:=Eq.trans (Eq.refl _) rfl
theorem zNt {off:Nat}{vs:List V}:sem (.faddr off) vs nb=qSf off vs:=Eq.trans (Eq.refl _) rfl
theorem zNu {off n:Nat}{agg:Bool}{vs:List V}:sem (.field off n agg) vs nb=qSg off n agg vs:=Eq.trans (Eq.refl _) rfl
theorem zNv {z:Nat}{vs:List V}:sem (.iaddr z) vs nb=qPa z vs:=Eq.trans (Eq.refl _) rfl
theorem zNr {n z:Nat}{vs:List V}:sem (.aaddr n z) vs nb=qO6 n z vs:=Eq.trans (Eq.refl _) rfl
theorem zNw {n z:Nat}{agg:Bool}{vs:List V}:sem (.index n z agg) vs nb=qSh n z agg vs:=Eq.trans (Eq.refl _) rfl
theorem zEu {i:Nat}{vs:List V}:sem (.extract i) vs nb=qFw i vs:=Eq.trans (Eq.refl _) rfl
theorem zSy {n:Nat}{vs:List V}:sem (.lenc n) vs nb=qT4 n vs:=Eq.trans (Eq.refl _) rfl
theorem zIv {z by_:Nat}{vs:List V}:sem (.append z by_) vs nb=qFv z by_ nb vs:=Eq.trans (Eq.refl _) rfl
theorem zEt {z by_:Nat}{vs:List V}:sem (.appendt z by_) vs nb=qKl z by_ nb vs:=Eq.trans (Eq.refl _) rfl
theorem zS0 {f:FuncId}{vs:List V}:sem (.mkbd f) vs nb=qYe f vs:=Eq.trans (Eq.refl _) rfl
theorem zSx {vs:List V}:sem .idsl vs nb=qYd vs:=Eq.trans (Eq.refl _) rfl
theorem zNx {neg:Bool}{vs:List V}:sem (.nileq neg) vs nb=qPb neg vs:=Eq.trans (Eq.refl _) rfl
attribute [go_sem] zNx qPb
attribute [go_sem] zEt zS0 zSx
theorem zSw {z:Nat}{vs:List V}:sem (.copy z) vs nb=qT3 z vs:=Eq.trans (Eq.refl _) rfl
theorem zS1 {f:FuncId}{vs:List V}:sem (.mkfn f) vs nb=qYf f vs:=Eq.trans (Eq.refl _) rfl
theorem jGg {k:IntKind}{n:Int}:(T.int k n).cells=[T.int k n]:=Eq.trans (Eq.refl _) rfl
theorem zZ9 {b:Bool}:(T.bool b).cells=[T.bool b]:=Eq.trans (Eq.refl _) rfl
theorem jGh {s:ByteArray}:(T.str s).cells=[T.str s]:=Eq.trans (Eq.refl _) rfl
theorem jAa  : T.fnil.cells=[T.fnil]:=Eq.trans (Eq.refl _) rfl
theorem jAb  : T.pnil.cells=[T.pnil]:=Eq.trans (Eq.refl _) rfl
theorem jGf {cs:List T}:(T.agg cs).cells=cs:=Eq.trans (Eq.refl _) rfl
theorem jK2 {cs:List T}:(T.sl cs).cells=[T.sl cs]:=Eq.trans (Eq.refl _) rfl
theorem jG7 {k:IntKind}{n:Int}:(V.t (T.int k n)).cells=[V.t (T.int k n)]:=Eq.trans (Eq.refl _) rfl
theorem jAk {b:Bool}:(V.t (T.bool b)).cells=[V.t (T.bool b)]:=Eq.trans (Eq.refl _) rfl
theorem jHa {s:ByteArray}:(V.t (T.str s)).cells=[V.t (T.str s)]:=Eq.trans (Eq.refl _) rfl
theorem jAl  : (V.t T.fnil).cells=[V.t T.fnil]:=Eq.trans (Eq.refl _) rfl
theorem jAm  : (V.t T.pnil).cells=[V.t T.pnil]:=Eq.trans (Eq.refl _) rfl
theorem jAo {cs:List T}:(V.t (T.agg cs)).cells=cs.map V.t:=Eq.trans (Eq.refl _) rfl
theorem jHb {cs:List T}:(V.t (T.sl cs)).cells=[V.t (T.sl cs)]:=Eq.trans (Eq.refl _) rfl
theorem jG8  : V.nil.cells=[V.nil]:=Eq.trans (Eq.refl _) rfl
theorem jG9 {id i f:Nat}:(V.ref id i f).cells=[V.ref id i f]:=Eq.trans (Eq.refl _) rfl
theorem jLa {g id i f:Nat}:(V.bd g id i f).cells=[V.bd g id i f]:=Eq.trans (Eq.refl _) rfl
theorem jLb:V.bq.cells=[V.bq]:=Eq.trans (Eq.refl _) rfl
attribute [go_sem] jLb
attribute [go_sem] jLa
theorem jLd {cs:List T}:(V.ro cs).cells=[V.ro cs]:=Eq.trans (Eq.refl _) rfl
theorem jLe {id i f:Nat}:(V.sl id i f).cells=[V.sl id i f]:=Eq.trans (Eq.refl _) rfl
theorem jG6 {cs:List V}:(V.agg cs).cells=cs:=Eq.trans (Eq.refl _) rfl
theorem jLc {f:FuncId}{cs:List V}:(V.fn f cs).cells=[V.fn f cs]:=Eq.trans (Eq.refl _) rfl
theorem jHe {k:IntKind}{n:Int}:(V.t (T.int k n)).plain=true:=Eq.trans (Eq.refl _) rfl
theorem jAp {b:Bool}:(V.t (T.bool b)).plain=true:=Eq.trans (Eq.refl _) rfl
theorem jHh {s:ByteArray}:(V.t (T.str s)).plain=true:=Eq.trans (Eq.refl _) rfl
theorem jAr  : (V.t T.fnil).plain=true:=Eq.trans (Eq.refl _) rfl
theorem jAs  : (V.t T.pnil).plain=true:=Eq.trans (Eq.refl _) rfl
theorem jAu {cs:List T}:(V.t (T.agg cs)).plain=true:=Eq.trans (Eq.refl _) rfl
theorem jHi {cs:List T}:(V.t (T.sl cs)).plain=true:=Eq.trans (Eq.refl _) rfl
theorem jHf  : V.nil.plain=true:=Eq.trans (Eq.refl _) rfl
theorem jHg {id i f:Nat}:(V.ref id i f).plain=true:=Eq.trans (Eq.refl _) rfl
theorem jLf {g id i f:Nat}:(V.bd g id i f).plain=true:=Eq.trans (Eq.refl _) rfl
theorem jLg:V.bq.plain=true:=Eq.trans (Eq.refl _) rfl
attribute [go_sem] jLg
attribute [go_sem] jLf
theorem jLi {cs:List T}:(V.ro cs).plain=true:=Eq.trans (Eq.refl _) rfl
theorem jLj {id i f:Nat}:(V.sl id i f).plain=true:=Eq.trans (Eq.refl _) rfl
theorem jHd {cs:List V}:(V.agg cs).plain=true:=Eq.trans (Eq.refl _) rfl
theorem jLh {f:FuncId}{cs:List V}:(V.fn f cs).plain=true:=Eq.trans (Eq.refl _) rfl
theorem jB3 {op:BinOp}{k k':IntKind}{x y:Int}:qCv op (.int k x) (.int k' y)=qXp op k x k' y:=Eq.trans (Eq.refl _) rfl
theorem zWq {x y:ByteArray}:qCv .add (.str x) (.str y)=if x.size+y.size≤maxLen then some (.str (x++y)) else none:=Eq.trans (Eq.refl _) rfl
theorem jB4 {x y:ByteArray}:qCv .eql (.str x) (.str y)=some (.bool (x.toList==y.toList)):=Eq.trans (Eq.refl _) rfl
theorem jB5 {x y:ByteArray}:qCv .neq (.str x) (.str y)=some (.bool !(x.toList==y.toList)):=Eq.trans (Eq.refl _) rfl
theorem jGt {b:Bool}:unT .not (.bool b)=some (.bool !b):=Eq.trans (Eq.refl _) rfl
theorem jGs {k:IntKind}{n:Int}:unT .neg (.int k n)=some (.int k (k.wrap (0-n))):=Eq.trans (Eq.refl _) rfl
theorem jCz {k:IntKind}{n:Int}:vO (.t (.int k n))=some n:=Eq.trans (Eq.refl _) rfl
theorem jFn {k k':IntKind}{n:Int}:qHr k [.t (.int k' n)] = .ret (.t (.int k (k.wrap n)),[]):=Eq.trans (Eq.refl _) rfl
attribute [go_sem] jGg zZ9 jGh jAa jAb jGf jK2 jG7 jAk jHa jAl jAm jAo jHb jG8 jG9 jLd jLe jG6 jLc jHe jAp jHh jAr jAs jAu jHi jHf jHg jLi jLj jHd jLh jB3 zWq jB4 jB5 jGt jGs jCz jFn
attribute [go_sem ↓] jHo jLl jHm jLm jAv jHn jHl jAw jLk zO5 zEw zN0 zS5 qXq zH3 zDz zM9 zNa zYw zYv jJd zXv zQ2
 zYe zQ7 zPu zKl Q.wp_of_bind Q.wp_ret Q.wp_fail Q.wp_get Q.wp_free zJ5 zGg zDm zDk zGf zDn qUw
attribute [go_sem] zP9 zWu
attribute [go_sem] zTw jAx zTv zO3 zTr zTs zTq zO1 jAj jAi zQ8 zMg zS6 zN2 zN4 zN3 zTn zOw zT2 zPc zL8 zIl
 qUv zO9 zO8 zJ4 zGe zJ3 zGd zDi Q.wp_ite zH7 zD5 zEi zAu zAt
attribute [go_sem] Option.bind_some Option.map_some Option.bind_none Option.map_none true_and and_true List.nil_append List.cons_append List.append_nil
attribute [go_sem] zZs qT2 zZ0 zS4 zS2 zZw zIz zZ2 zZt zI2 zZx zS3 zIw zZz zZy zI1 zZ1 zNs zI0 zSz zNz zZv zZu jFq zSv zEv zI3 zNy zIy zNt zNu zNv zNr zNw zEu zSy zIv zSw zS1
attribute [go_sem] zHp qYg qT5 zBr zBp qJ4 qO9 qO8 qQe qPd zHm zBo zSu qW4 zHl zSt qPc qSi qO7 qSf qSg qPa qO6 qSh qFx qFw qQf zBq qT4 qFv qBv qT3 zHo zHn qYf qYe qYd qKl qJ5
 qXp qRe qDk qQ8 qY rsQ
end Go.Eng
end
section
namespace Go.Eng
mutual
def V.ids:V→List Nat
 | .ref id _ _=>[id]
 | .bd _ id _ _=>[id]
 | .sl id _ _=>[id]
 | .agg cs=>qOt cs
 | .tup cs=>qOt cs
 | .fn _ cs=>qOt cs
 | _=>[]
def qOt:List V→List Nat
 | []=>[]
 | c::r=>c.ids++qOt r
end
theorem kN : ∀ {cs:List V} {c:V} {r:Nat},c∈cs→r∈c.ids→r∈qOt cs
 | x::cs,c,r,hc,hr=>by
  simp only[qOt,List.mem_append];simp only[List.mem_cons] at hc;rcases hc with rfl | hc
  ·exact .inl hr
  ·exact .inr (kN hc hr)
theorem zUw (ts:List T):qOt (ts.map .t)=[]:=by
 induction ts with
 | nil=>rfl
 | cons x r ih=>simp[qOt,V.ids,ih]
theorem qV.sub {β β':Nat→Option BI}{F:Nat→Prop}{w:World}{v:V}{x:Value}(h:qV β F w v x):(∀ i∈v.ids,∀ bi,β i=some bi→β' i=some bi)→qV β' F w v x:=by
 induction h with
 | t h=>intro _;exact .t h
 | nil=>intro _;exact .nil
 | ref id i f b sz room hb=>intro hs;exact .ref id i f b sz room (hs id (by simp[V.ids]) _ hb)
 | bd g id i f b sz room hb=>intro hs;exact .bd g id i f b sz room (hs id (by simp[V.ids]) _ hb)
 | bq b=>intro _;exact .bq b
 | ro cs a news ha hn h1 hF hw h=>intro _;exact .ro cs a news ha hn h1 hF hw h
 | sl id off len cap b sz room a hb hlc hr ha hs=>intro hsub;exact .sl id off len cap b sz room a (hsub id (by simp[V.ids]) _ hb) hlc hr ha hs
 | slv id sz room hb=>intro hsub;exact .slv id sz room (hsub id (by simp[V.ids]) _ hb)
 | agg cs vs hl h1 _ ih=>intro hs;exact .agg cs vs hl h1 (fun i c u hc hu=>ih i c u hc hu (fun k hk=>hs k (by simp only[V.ids];exact kN (List.mem_of_getElem? hc) hk)))
 | tup cs vs hl _ ih=>intro hs;exact .tup cs vs hl (fun i c u hc hu=>ih i c u hc hu (fun k hk=>hs k (by simp only[V.ids];exact kN (List.mem_of_getElem? hc) hk)))
 | fn f cs vs hl _ ih=>intro hs;exact .fn f cs vs hl (fun i c u hc hu=>ih i c u hc hu (fun k hk=>hs k (by simp only[V.ids];exact kN (List.mem_of_getElem? hc) hk)))
def Cv (hs:Hs)(ρ:Nat→Nat)(vt ks:List Nat)(v v':V):Prop:=
 ((v=v'.ren ρ ∨ ∃ l,(zM 4 v).run (jU hs)=some ((v'.ren ρ,[]),l)) ∧ ∀ i∈v'.ids,i∈ks)∨(v = .nil ∧ ∃ id,id∈vt∧v' = .sl id 0 0)
def CvO (hs:Hs)(ρ:Nat→Nat)(ks:List Nat):Ob→Ob→Prop
 | .live z es wr full,.live z' es' wr' full'=>z=z'∧wr=wr'∧(full'=true→full=true)∧(es=qF2 ρ es' ∨ ∃ l,(qDl es).run (jU hs)=some ((qF2 ρ es',[]),l)) ∧ ∀ i∈qOt es',i∈ks
 | _,.dead=>True
 | _,_=>False
def qWp (fs:Fs)(hs:Hs)(ρ:Nat→Nat)(vt ks:List Nat):Fs→Prop
 | []=>True
 | (t,v')::r=>(∃ v,jU fs t=some v∧Cv hs ρ vt ks v v')∧qWp fs hs ρ vt ks r
def jA2 (hs:Hs)(ρ:Nat→Nat)(ks:List Nat):Hs→Prop
 | []=>True
 | (i,o')::r=>((∃ o,jU hs (ρ i)=some o∧CvO hs ρ ks o o')∧(i<100→ρ i=i)∧(100≤i→100≤ρ i))∧jA2 hs ρ ks r
def VtW:Hs→Prop
 | []=>True
 | (i,o')::r=>((∃ z full,o' = .live z [] true full)∧100≤i)∧VtW r
theorem qWp.get {fs:Fs}{hs:Hs}{ρ:Nat→Nat}{vt ks:List Nat} : ∀ {fs':Fs},qWp fs hs ρ vt ks fs' → ∀ t v',jU fs' t=some v' → ∃ v,jU fs t=some v∧Cv hs ρ vt ks v v'
 | [],_,t,v',h=>by cases h
 | (k,u)::r,hw,t,v',h=>by
  simp only[jU] at h;split at h
  ·cases h;subst_vars;exact hw.1
  ·exact qWp.get hw.2 t v' h
theorem jA2.get {hs:Hs}{ρ:Nat→Nat}{ks:List Nat} : ∀ {hs':Hs},jA2 hs ρ ks hs' → ∀ i o',jU hs' i=some o'→(∃ o,jU hs (ρ i)=some o∧CvO hs ρ ks o o')∧(i<100→ρ i=i)∧(100≤i→100≤ρ i)
 | [],_,t,v',h=>by cases h
 | (k,u)::r,hw,t,v',h=>by
  simp only[jU] at h;split at h
  ·cases h;subst_vars;exact hw.1
  ·exact jA2.get hw.2 t v' h
theorem VtW.get : ∀ {hs':Hs},VtW hs' → ∀ i o',jU hs' i=some o'→(∃ z full,o' = .live z [] true full)∧100≤i
 | [],_,t,v',h=>by cases h
 | (k,u)::r,hw,t,v',h=>by
  simp only[jU] at h;split at h
  ·cases h;subst_vars;exact hw.1
  ·exact VtW.get hw.2 t v' h
def Ob.z:Ob→Nat
 | .live z _ _ _=>z
 | .dead=>0
theorem qFs {α:Type} : ∀ {l:List (Nat×α)} {i:Nat},i∈l.map (·.1) → ∃ o,jU l i=some o
 | (k,u)::r,i,h=>by
  simp only[jU];split
  ·exact⟨_,rfl⟩
  ·rename_i hne;simp only[List.map_cons,List.mem_cons] at h;rcases h with h | h
   ·exact absurd h.symm hne
   ·exact qFs h
theorem qAw {α:Type} : ∀ {l:List (Nat×α)} {i:Nat} {o:α},jU l i=some o→i∈l.map (·.1)
 | (k,u)::r,i,o,h=>by
  simp only[jU] at h;split at h
  ·subst_vars;simp
  ·simp[qAw h]
theorem qOv {α:Type} : ∀ {l r:List (Nat×α)} {i:Nat},jU (l++r) i=match jU l i with | some o=>some o | none=>jU r i
 | [],r,i=>rfl
 | (k,u)::l,r,i=>by
  simp only[List.cons_append,jU];split
  ·rfl
  ·exact qOv
theorem qX0 {β:Nat→Option BI}{F:Nat→Prop}:qRy β F []=F:=by
 funext b;apply propext;constructor
 ·intro h;rcases h with h | ⟨i,hi,_⟩
  ·exact h
  ·simp at hi
 ·exact .inl
variable {cx:Cx} {β:Nat→Option BI} {F:Nat→Prop} {a:Act} {w:World}
theorem zIk {fm:Nat→Option V}{hm:Nat→Option Ob}(R:Rel cx β F fm hm a w){es es':List V}{l:List Nat}(h:(qDl es).run hm=some ((es',[]),l)){sz:Nat}{c:Array Value}(hh:yS β F w es sz c):es'.length=es.length∧yS β F w es' sz c:=by
 unfold qDl at h;split at h
 ·obtain⟨e,_⟩:=qE h;cases e;exact⟨rfl,hh⟩
 ·obtain⟨g1,g2⟩:=yY h;refine⟨g1,fun i x hx=>?_⟩;have hi:i<es.length:=by rw[←g1];exact (List.getElem?_eq_some_iff.1 hx).1
  obtain⟨fzi,li,m1,m2⟩:=g2 i es[i] x (by simp[hi]) hx;obtain⟨k1,k2⟩:=hh i es[i] (by simp[hi]);by_cases hz:es[i].cells=[]
  ·
   have:x.cells=[]:=by
    cases hx0:es[i] with
    | t y=>
     rw[hx0] at m1 hz;obtain⟨e,_⟩:=qE (x:=(V.t y,([]:List Nat))) m1;cases e;exact hz
    | agg cs=>
     rw[hx0] at m1 hz;simp only[zM] at m1;obtain⟨p,l1,l2,hp,m1,_⟩:=zB m1;obtain⟨e,_⟩:=qE m1;cases e;have hcs:cs=[]:=hz;subst hcs;have:=(yY hp).1;rw[qR9];exact List.eq_nil_of_length_eq_zero this
    | _=>rw[hx0] at hz;simp[V.cells] at hz
   rw[this];rw[hz] at k1;exact⟨k1,by intro j y hy;simp at hy⟩
  ·obtain⟨q1,q2⟩:=zAj R m1 (fz':=[]) m2 hz (fun j y hy=>let ⟨u,_,b,d⟩:=k2 j y hy;⟨u,b,d⟩);refine⟨q1.trans k1,fun j y' hy'=>?_⟩;have hj:j<es[i].cells.length:=by rw[←q1];exact (List.getElem?_eq_some_iff.1 hy').1
   obtain⟨u,hu,hr,ho⟩:=k2 j (es[i].cells[j]'hj) (by simp[hj]);obtain⟨s1,_,_⟩:=q2 j (es[i].cells[j]'hj) y' u (by simp[hj]) hy' hr ho;rw[qX0] at s1;exact⟨u,hu,s1,ho⟩
theorem qI.of {fs fs':Fs}{hs hv ho:Hs}(ρ:Nat→Nat)(h1:qWp fs hs ρ (hv.map (·.1)) (ho.map (·.1)) fs')(h2:jA2 hs ρ (ho.map (·.1)) ho)(h3:VtW hv)(hdis : ∀ i∈hv.map (·.1),i ∉ ho.map (·.1))
  (hinj:((ho.map (·.1)).map ρ).Nodup) (hkeep : ∀ k∈hs.map (·.1),k<100→k∈ho.map (·.1)):qI fs hs fs' (hv++ho):=by
 intro cx β F a w R
 let β':Nat→Option BI:=fun i=>match jU hv i with
  | some o=>some ⟨none,o.z,0⟩
  | none=>match jU ho i with
   | some _=>β (ρ i)
   | none=>none
 have bv : ∀ i o,jU hv i=some o→β' i=some ⟨none,o.z,0⟩:=fun i o h=>by simp[β',h]
 have hvo : ∀ i,i∈ho.map (·.1)→jU hv i=none:=by
  intro i hi;cases h:jU hv i with
  | none=>rfl
  | some o=>exact absurd hi (hdis i (qAw h))
 have bo : ∀ i,i∈ho.map (·.1)→β' i=β (ρ i):=by
  intro i hi;obtain⟨o,h⟩:=qFs hi;simp[β',hvo i hi,h]
 have inj : ∀ i j,i∈ho.map (·.1)→j∈ho.map (·.1)→ρ i=ρ j→i=j:=by
  intro i j hi hj e;obtain⟨m,hm⟩:=List.getElem?_of_mem hi;obtain⟨n,hn⟩:=List.getElem?_of_mem hj;have hml:m<(ho.map (·.1)).length:=(List.getElem?_eq_some_iff.1 hm).1;have hnl:n<(ho.map (·.1)).length:=(List.getElem?_eq_some_iff.1 hn).1;have:=qD0 hinj (i:=m) (j:=n) (by simpa using hml) (by simpa using hnl) (by
   have a1:(ho.map (·.1))[m]=i:=by rw[List.getElem?_eq_getElem hml] at hm;exact Option.some.inj hm
   have a2:(ho.map (·.1))[n]=j:=by rw[List.getElem?_eq_getElem hnl] at hn;exact Option.some.inj hn
   simp only[List.getElem_map] at a1 a2 ⊢;rw[a1,a2];exact e)
  subst this;rw[hm] at hn;exact Option.some.inj hn
 have val : ∀ {v v':V} {x:Value},qV β F w v x→Cv hs ρ (hv.map (·.1)) (ho.map (·.1)) v v'→qV β' F w v' x:=by
  intro v v' x hx hc;rcases hc with⟨hc,hids⟩ | ⟨rfl,id,hid,rfl⟩
  ·have h0:qV β F w (v'.ren ρ) x:=by
    rcases hc with hc | ⟨l,hc⟩
    ·rw[←hc];exact hx
    ·have:=wN R hc hx (fz':=[]) sM;rw[qX0] at this;exact this
   have h1:=h0.unren (ρ:=ρ) rfl;exact h1.sub (fun i hi bi hb=>by rw[bo i (hids i hi)];exact hb)
  ·obtain⟨o,ho'⟩:=qFs hid;cases hx;exact .slv id _ _ (bv id o ho')
 have ob : ∀ {bi:BI} {o o':Ob},qFj β F w bi o→CvO hs ρ (ho.map (·.1)) o o'→qFj β' F w bi o':=by
  intro bi o o' hok hc;cases o' with
  | dead=>trivial
  | live z' es' wr' full'=>
   cases o with
   | dead=>exact hc.elim
   | live z es wr full=>
    obtain⟨rfl,rfl,hfull,hes,hids⟩:=hc;have hren : ∀ {c:Array Value} {sz:Nat},yS β F w (qF2 ρ es') sz c→yS β' F w es' sz c:=by
     intro c sz hh;have h1:=hh.unren;intro i x hx;obtain⟨k1,k2⟩:=h1 i x hx;refine⟨k1,fun j y hy=>?_⟩;obtain⟨u,g1,g2,g3⟩:=k2 j y hy;refine⟨u,g1,g2.sub (fun r hr bi hb=>?_),g3⟩;have hrx:r∈x.ids:=by
      cases x with
      | agg cs=>simp only[V.ids];exact kN (List.mem_of_getElem? hy) hr
      | t t=>
       obtain⟨c,_,rfl⟩:=xN hy;simp[V.ids] at hr
      | _=>
       simp only[V.cells] at hy;cases j with
       | zero=>simp at hy;subst hy;exact hr
       | succ j=>simp at hy
     rw[bo r (hids r (kN (List.mem_of_getElem? hx) hrx))];exact hb
    unfold qFj at hok ⊢;obtain⟨g1,g2,g3⟩:=hok;have hlen:es'.length=es.length ∧ ∀ {c:Array Value},yS β F w es bi.sz c→yS β' F w es' bi.sz c:=by
     rcases hes with rfl | ⟨l,hes⟩
     ·exact⟨by rw[zN];simp,fun hh=>hren hh⟩
     ·refine⟨?_,fun hh=>hren (zIk R hes hh).2⟩;have:(qF2 ρ es').length=es.length:=by
       unfold qDl at hes;split at hes
       ·obtain⟨e,_⟩:=qE hes;simp only[Prod.mk.injEq] at e;rw[e.1]
       ·exact (yY hes).1
      rw[zN,List.length_map] at this;exact this
    refine⟨g1,fun h=>by rw[hlen.1];exact g2 (hfull h),?_⟩;cases hb:bi.blk with
    | none=>
     simp only[hb] at g3 ⊢;refine⟨?_,g3.2⟩;have:=hlen.1;rw[g3.1] at this;exact List.eq_nil_of_length_eq_zero this
    | some b=>
     simp only[hb] at g3 ⊢;obtain⟨c,e,fz,k1,k2,k3,k4,k5,k6,k7⟩:=g3;exact⟨c,e,fz,k1,k2,k3,by rw[hlen.1];exact k4,k5,hlen.2 k6,k7⟩
 have cases_ : ∀ id o',jU (hv++ho) id=some o'→(∃ z full,o' = .live z [] true full∧β' id=some ⟨none,z,0⟩∧100≤id)∨(id∈ho.map (·.1) ∧ ∃ o,jU hs (ρ id)=some o∧CvO hs ρ (ho.map (·.1)) o o'∧(id<100→ρ id=id)∧(100≤id→100≤ρ id)):=by
  intro id o' h;rw[qOv] at h;split at h
  ·rename_i o hvl;cases h;obtain⟨⟨z,full,rfl⟩,h100⟩:=h3.get id o' hvl;exact .inl ⟨z,full,rfl,bv id _ hvl,h100⟩
  ·obtain⟨⟨o,g1,g2⟩,g3,g4⟩:=h2.get id o' h;exact .inr ⟨qAw h,o,g1,g2,g3,g4⟩
 have notdead : ∀ {o o':Ob},CvO hs ρ (ho.map (·.1)) o o'→o'≠ .dead→o≠ .dead:=by
  intro o o' hc hd hd';subst hd';cases o' with
  | dead=>exact hd rfl
  | live _ _ _ _=>exact hc
 refine⟨β',F,R.tsz,R.dfr,fun t v' hv'=>?_,fun id o' ho'=>?_,fun id hn=>?_,fun i j bi bj b oi oj e1 e2 e3 e4 e5 e6 e7 e8=>?_,R.os,R.tape,R.output,R.size,R.ext,fun id z es full bi b e1 e2 e3=>?_,R.inF,R.inw,R.Fw,R.F0,fun id bi b e1 e2=>?_,fun g cs hg=>?_,fun k bi hk=>?_,R.gs⟩
 ·obtain⟨v,g1,g2⟩:=h1.get t v' hv';obtain⟨x,g3,g4⟩:=R.fr t v g1;exact⟨x,g3,val g4 g2⟩
 ·rcases cases_ id o' ho' with⟨z,full,rfl,hb,_⟩ | ⟨hm,o,g1,g2,_⟩
  ·exact⟨_,hb,rfl,fun _=>rfl,rfl,rfl⟩
  ·obtain⟨bi,g3,g4⟩:=R.hp _ o g1;exact⟨bi,by rw[bo id hm];exact g3,ob g4 g2⟩
 ·rw[qOv] at hn;split at hn
  ·cases hn
  ·rename_i hv0;simp[β',hv0,hn]
 ·rcases cases_ i oi e5 with⟨z,full,rfl,hb,_⟩ | ⟨hm,o,g1,g2,_⟩
  ·rw[hb] at e1;cases e1;cases e3
  ·rcases cases_ j oj e6 with⟨z,full,rfl,hb,_⟩ | ⟨hm',o',g1',g2',_⟩
   ·rw[hb] at e2;cases e2;cases e4
   ·rw[bo i hm] at e1;rw[bo j hm'] at e2;exact inj i j hm hm' (R.inj _ _ bi bj b o o' e1 e2 e3 e4 g1 g1' (notdead g2 e7) (notdead g2' e8))
 ·rcases cases_ id _ e1 with⟨z',full',_,hb,_⟩ | ⟨hm,o,g1,g2,g3,g4⟩
  ·rw[hb] at e2;cases e2;cases e3
  ·rw[bo id hm] at e2;cases o with
   | dead=>exact g2.elim
   | live z0 es0 wr0 full0=>
    obtain⟨_,rfl,_⟩:=g2;rcases R.old _ z0 es0 full0 bi b g1 e2 e3 with h | ⟨h,h'⟩
    ·exact .inl h
    ·refine .inr ⟨?_,h'⟩;rcases Nat.lt_or_ge id 100 with h7 | h7
     ·exact h7
     ·have:=g4 h7;omega
 ·cases hl:jU hv id with
  | some o=>rw[bv id o hl] at e1;cases e1;cases e2
  | none=>
   cases hl2:jU ho id with
   | none=>simp[β',hl,hl2] at e1
   | some o=>
    rw[bo id (qAw hl2)] at e1;exact R.blt _ bi b e1 e2
 ·have:=R.gl g cs hg;cases this with
  | ro _ ad news ha hn h1' hF hw h=>exact .ro cs _ news ha hn h1' hF hw h
 ·have hβ:=R.ext0 k bi hk;cases hl:jU hs k with
  | none=>rw[R.dom k hl] at hβ;cases hβ
  | some o=>
   have hk100:=cx.d0 k bi hk;have hm:=hkeep k (qAw hl) hk100;rw[bo k hm];obtain⟨o',ho'⟩:=qFs hm;rw[(h2.get k o' ho').2.1 hk100];exact hβ
end Go.Eng
end
section
namespace Go.Eng
variable {tab:Tab} {gl:Gl} {fs:Fs} {hs:Hs} {Qx:qF0}
def zRa {ι:Type}(I:ι→Fs×Hs)(μ:ι→Nat)(i:ι)(Qx:qF0):qF0:=fun e fs' hs'=>match e with | .normal => ∃ j,μ j<μ i∧qI fs' hs' (I j).1 (I j).2 | e=>Qx e fs' hs'
theorem qJ2 {a:AC}{ι:Type}(I:ι→Fs×Hs)(μ:ι→Nat)(i0:ι)(h0:qI fs hs (I i0).1 (I i0).2)(h : ∀ i,a.wp tab gl (I i).1 (I i).2 (zRa I μ i Qx)):qP7 tab gl a fs hs Qx:=⟨ι,I,μ,i0,h0,h⟩
def upK (n:Nat)(fI:Nat→Fs)(hI:Nat→Hs)(i:Nat)(Qx:qF0):qF0:=fun e fs' hs'=>match e with | .normal=>i<n∧qI fs' hs' (fI (i+1)) (hI (i+1)) | e=>Qx e fs' hs'
theorem zJm {n:Nat}{fI:Nat→Fs}{hI:Nat→Hs}{i:Nat}:upK n fI hI i Qx .normal fs hs=(i<n∧qI fs hs (fI (i+1)) (hI (i+1))):=Eq.trans (Eq.refl _) rfl
theorem zTl {n:Nat}{fI:Nat→Fs}{hI:Nat→Hs}{i id:Nat}:upK n fI hI i Qx (.exit id) fs hs=Qx (.exit id) fs hs:=Eq.trans (Eq.refl _) rfl
theorem jAg {n:Nat}{fI:Nat→Fs}{hI:Nat→Hs}{i:Nat}:upK n fI hI i Qx .ret fs hs=Qx .ret fs hs:=Eq.trans (Eq.refl _) rfl
theorem qWu {v:Option V}{A B A' B':Prop}(hA:A→A')(hB:B→B'):qIy v A B→qIy v A' B':=by
 unfold qIy;split
 ·exact fun h=>⟨fun e=>hA (h.1 e),fun e=>hB (h.2 e)⟩
 ·exact id
theorem zH6 {v:Option V}{A B A' B':Prop}(hA:A→A')(hB:B→B'):qRa v A B→qRa v A' B':=by
 unfold qRa;split
 ·exact fun h=>⟨hA h.1,hB h.2⟩
 ·exact qWu hA hB
theorem zX {a:AC} : ∀ {fs:Fs} {hs:Hs} {Q Q':qF0},(∀ e f h,Q e f h→Q' e f h)→a.wp tab gl fs hs Q→a.wp tab gl fs hs Q':=by
 induction a with
 | skip=>intro fs hs Q Q' h hw;exact h _ _ _ hw
 | ret=>intro fs hs Q Q' h hw;exact h _ _ _ hw
 | exit id=>intro fs hs Q Q' h hw;exact h _ _ _ hw
 | seq a b iha ihb=>
  intro fs hs Q Q' h hw;refine iha (fun e f g hq=>?_) hw;cases e with
  | normal=>exact ihb h hq
  | exit id=>exact h _ _ _ hq
  | ret=>exact h _ _ _ hq
 | cond c a b iha ihb=>
  intro fs hs Q Q' h hw;exact qWu (iha h) (ihb h) hw
 | condb c a b iha ihb=>
  intro fs hs Q Q' h hw;exact zH6 (iha h) (ihb h) hw
 | block id a ih=>
  intro fs hs Q Q' h hw;refine ih (fun e f g hq=>?_) hw;cases e with
  | normal=>exact h _ _ _ hq
  | exit id'=>
   simp only at hq ⊢;split
   ·rename_i h1;rw[if_pos h1] at hq;exact h _ _ _ hq
   ·rename_i h1;rw[if_neg h1] at hq;exact h _ _ _ hq
  | ret=>exact h _ _ _ hq
 | loop a ih=>
  intro fs hs Q Q' h hw;obtain⟨ι,I,μ,i0,h0,hr⟩:=hw;refine⟨ι,I,μ,i0,h0,fun i=>ih (fun e f g hq=>?_) (hr i)⟩;cases e with
  | normal=>exact hq
  | exit id=>exact h _ _ _ hq
  | ret=>exact h _ _ _ hq
 | reg nb anc ops=>
  intro fs hs Q Q' h hw;have key : ∀ (ops:List zU) (nb:Nat) (fs:Fs) (hs:Hs) (acc:List (List Nat×List Nat)) (K K':Fs→Hs→List (List Nat×List Nat)→Prop),(∀ f g c,K f g c→K' f g c)→qZ9 tab gl ops nb fs hs acc K→qZ9 tab gl ops nb fs hs acc K':=by
   intro ops
   induction ops with
   | nil=>intro nb fs hs acc K K' h hw;exact h _ _ _ hw
   | cons o r ih=>
    intro nb fs hs acc K K' h hw;obtain⟨x,l,h1,h2⟩:=hw;exact⟨x,l,h1,ih _ _ _ _ _ _ h h2⟩
  exact key ops nb fs hs [] _ _ (fun f g c hq=>⟨hq.1,h _ _ _ hq.2⟩) hw
theorem qF {a:AC}(n:Nat)(fI:Nat→Fs)(hI:Nat→Hs)(h0:qI fs hs (fI 0) (hI 0))(h : ∀ i,i≤n→a.wp tab gl (fI i) (hI i) (upK n fI hI i Qx)):qP7 tab gl a fs hs Qx:=by
 refine qJ2 (ι := { i:Nat // i≤n }) (fun i=>(fI i.1,hI i.1)) (fun i=>n-i.1) ⟨0,Nat.zero_le _⟩ h0 (fun i=>?_);refine zX (fun e f g hq=>?_) (h i.1 i.2);cases e with
 | normal=>exact⟨⟨i.1+1,hq.1⟩,by simp only;have:=hq.1;omega,hq.2⟩
 | exit id=>exact hq
 | ret=>exact hq
theorem zT9 {ts:List T}:qFg (ts.map .t)=some ts:=by
 induction ts with
 | nil=>rfl
 | cons x r ih=>simp[qFg,ih]
theorem zPo:qFg []=some []:=Eq.trans (Eq.refl _) rfl
theorem qSp {x:T}{r:List V}:qFg (.t x::r)=(qFg r).map (x :: ·):=Eq.trans (Eq.refl _) rfl
theorem zPp {id i f:Nat}{r:List V}:qFg (.ref id i f::r)=none:=Eq.trans (Eq.refl _) rfl
theorem zWd {g id i f:Nat}{r:List V}:qFg (.bd g id i f::r)=none:=Eq.trans (Eq.refl _) rfl
theorem zWe {r:List V}:qFg (.bq::r)=none:=Eq.trans (Eq.refl _) rfl
attribute [go_sem] zWe
attribute [go_sem] zWd
theorem zWh {id i f:Nat}{r:List V}:qFg (.sl id i f::r)=none:=Eq.trans (Eq.refl _) rfl
theorem zKc {r:List V}:qFg (.nil::r)=none:=Eq.trans (Eq.refl _) rfl
theorem zPm {cs r:List V}:qFg (.agg cs::r)=none:=Eq.trans (Eq.refl _) rfl
theorem zWg {cs:List T}{r:List V}:qFg (.ro cs::r)=none:=Eq.trans (Eq.refl _) rfl
theorem zWf {f:FuncId}{cs r:List V}:qFg (.fn f cs::r)=none:=Eq.trans (Eq.refl _) rfl
theorem zRd {α γ:Type}{f:α→γ}:Option.map f none=none:=Eq.trans (Eq.refl _) rfl
theorem jD4 {cs:List V}:V.mk cs=match qFg cs with | some ts=> .t (.agg ts) | none=> .agg cs:=Eq.trans (Eq.refl _) rfl
theorem zKw {g:V→Q (V×List Nat)}:qDm g [] = .ret ([],[]):=Eq.trans (Eq.refl _) rfl
theorem qKc {g:V→Q (V×List Nat)}{c:V}{r:List V}:qDm g (c::r)=(g c).bind fun p=>(qDm g r).bind fun q=> .ret (p.1::q.1,p.2++q.2):=Eq.trans (Eq.refl _) rfl
theorem zKz {n:Nat}{x:T}:zM n (.t x) = .ret (.t x,[]):=by cases n<;>rfl
theorem zQd {n:Nat}:zM n .nil = .ret (.t (.sl []),[]):=by cases n<;>rfl
theorem zWy {n:Nat}{cs:List T}:zM n (.ro cs) = .ret (.ro cs,[]):=by cases n<;>rfl
theorem zQe {n id i f:Nat}:zM n (.ref id i f) = .ret (.ref id i f,[]):=by cases n<;>rfl
theorem zWw {n g id i f:Nat}:zM n (.bd g id i f) = .ret (.bd g id i f,[]):=by cases n<;>rfl
attribute [go_sem] zWw
theorem zQc {n:Nat}{cs:List V}:zM (n+1) (.agg cs)=(qDm (zM n) cs).bind fun p=> .ret (V.mk p.1,p.2):=Eq.trans (Eq.refl _) rfl
theorem zWx {n:Nat}{f:FuncId}{cs:List V}:zM (n+1) (.fn f cs)=(qDm (zM n) cs).bind fun p=> .ret (.fn f p.1,p.2):=Eq.trans (Eq.refl _) rfl
theorem zWz {n id off len:Nat}:zM (n+1) (.sl id off len) = .get id fun
  | .live _ es wr _=>Q.assert (off+len≤es.length)
   (match qFg es with
   | some ts=> .ret (.t (.sl ((ts.drop off).take len)),if wr then [id] else [])
   | none=>(qDm (zM n) es).bind fun p=>match qFg p.1 with
    | some ts=> .ret (.t (.sl ((ts.drop off).take len)),if wr then id::p.2 else p.2)
    | none=> .fail)
  | .dead=> .fail:=Eq.trans (Eq.refl _) rfl
theorem zIj {n:Nat}{ids:List Nat}{obs:List Ob}{fz:List Nat}:qBs n [] ids obs fz = .ret (ids,obs,fz):=by cases n<;>rfl
theorem zEg {n id:Nat}{todo ids:List Nat}{obs:List Ob}{fz:List Nat}:qBs (n+1) (id::todo) ids obs fz=if ids.contains id then qBs n todo ids obs fz else
  .get id fun
   | .live z es true full=>(qDl es).bind fun p=>qBs n (todo++(match qFg es with | some _=>[] | none=>qA1 p.1)) (ids++[id]) (obs++[.live z p.1 true full]) (fz++p.2)
   | _=> .fail:=Eq.trans (Eq.refl _) rfl
theorem zQr:qXy [] = .ret []:=Eq.trans (Eq.refl _) rfl
theorem zLz {id:Nat}{r:List Nat}:qXy (id::r) = .get id fun
  | .live z es true full=>Q.assert (100≤id) ((qXy r).bind fun q=> .ret ((id,.live z es false full)::q))
  | _=> .fail:=Eq.trans (Eq.refl _) rfl
theorem zIh {α:Type}{nb:Nat}{k:Q α}:zEf nb 0 k=k:=Eq.trans (Eq.refl _) rfl
theorem zIg {α:Type}{nb n:Nat}{k:Q α}:zEf nb (n+1) k = .free nb (zEf (nb+1) n k):=Eq.trans (Eq.refl _) rfl
theorem zXd {ids:List Nat}{nb k:Nat}:gam ids nb k=match ids[k]? with | some id=>id | none=>nb+(k-ids.length):=Eq.trans (Eq.refl _) rfl
theorem zMu {ids:List Nat}{nb k:Nat}:qNz ids nb k []=[]:=Eq.trans (Eq.refl _) rfl
theorem zIp {ids:List Nat}{nb k:Nat}{o:Ob}{r:List Ob}:qNz ids nb k (o::r)=(gam ids nb k,o.ren (gam ids nb))::qNz ids nb (k+1) r:=Eq.trans (Eq.refl _) rfl
theorem zSc {ρ:Nat→Nat}{z:Nat}{es:List V}{wr full:Bool}:(Ob.live z es wr full).ren ρ = .live z (qF2 ρ es) wr full:=Eq.trans (Eq.refl _) rfl
theorem jE5 {ρ:Nat→Nat}{x:T}:(V.t x).ren ρ = .t x:=Eq.trans (Eq.refl _) rfl
theorem zR9 {ρ:Nat→Nat}:V.nil.ren ρ = .nil:=Eq.trans (Eq.refl _) rfl
theorem zSa {ρ:Nat→Nat}{id i f:Nat}:(V.ref id i f).ren ρ = .ref (ρ id) i f:=Eq.trans (Eq.refl _) rfl
theorem zZa {ρ:Nat→Nat}{g id i f:Nat}:(V.bd g id i f).ren ρ = .bd g (ρ id) i f:=Eq.trans (Eq.refl _) rfl
theorem zZb {ρ:Nat→Nat}:V.bq.ren ρ = .bq:=Eq.trans (Eq.refl _) rfl
attribute [go_sem] zZb
attribute [go_sem] zZa
theorem zZd {ρ:Nat→Nat}{cs:List T}:(V.ro cs).ren ρ = .ro cs:=Eq.trans (Eq.refl _) rfl
theorem zZe {ρ:Nat→Nat}{id i f:Nat}:(V.sl id i f).ren ρ = .sl (ρ id) i f:=Eq.trans (Eq.refl _) rfl
theorem zR8 {ρ:Nat→Nat}{cs:List V}:(V.agg cs).ren ρ = .agg (qF2 ρ cs):=Eq.trans (Eq.refl _) rfl
theorem zSb {ρ:Nat→Nat}{cs:List V}:(V.tup cs).ren ρ = .tup (qF2 ρ cs):=Eq.trans (Eq.refl _) rfl
theorem zZc {ρ:Nat→Nat}{f:FuncId}{cs:List V}:(V.fn f cs).ren ρ = .fn f (qF2 ρ cs):=Eq.trans (Eq.refl _) rfl
theorem zR7 {ρ:Nat→Nat}:qF2 ρ []=[]:=Eq.trans (Eq.refl _) rfl
theorem zNc {ρ:Nat→Nat}{c:V}{r:List V}:qF2 ρ (c::r)=c.ren ρ::qF2 ρ r:=Eq.trans (Eq.refl _) rfl
theorem zM7:qA1 []=[]:=Eq.trans (Eq.refl _) rfl
theorem zIt {c:V}{r:List V}:qA1 (c::r)=c.refs++qA1 r:=Eq.trans (Eq.refl _) rfl
theorem jE3 {x:T}:(V.t x).refs=[]:=Eq.trans (Eq.refl _) rfl
theorem zY8 {cs:List T}:(V.ro cs).refs=[]:=Eq.trans (Eq.refl _) rfl
theorem zR3:V.nil.refs=[]:=Eq.trans (Eq.refl _) rfl
theorem zY9 {id i f:Nat}:(V.sl id i f).refs=[]:=Eq.trans (Eq.refl _) rfl
theorem zR4 {id i f:Nat}:(V.ref id i f).refs=[id]:=Eq.trans (Eq.refl _) rfl
theorem zY5 {g id i f:Nat}:(V.bd g id i f).refs=[id]:=Eq.trans (Eq.refl _) rfl
theorem zY6:V.bq.refs=[]:=Eq.trans (Eq.refl _) rfl
attribute [go_sem] zY6
attribute [go_sem] zY5
theorem zR2 {cs:List V}:(V.agg cs).refs=qA1 cs:=Eq.trans (Eq.refl _) rfl
theorem zR5 {cs:List V}:(V.tup cs).refs=qA1 cs:=Eq.trans (Eq.refl _) rfl
theorem zY7 {f:FuncId}{cs:List V}:(V.fn f cs).refs=qA1 cs:=Eq.trans (Eq.refl _) rfl
theorem zQw:qOt []=[]:=Eq.trans (Eq.refl _) rfl
theorem zL2 {c:V}{r:List V}:qOt (c::r)=c.ids++qOt r:=Eq.trans (Eq.refl _) rfl
theorem jI3 {x:T}:(V.t x).ids=[]:=Eq.trans (Eq.refl _) rfl
theorem jC9 {cs:List T}:(V.ro cs).ids=[]:=Eq.trans (Eq.refl _) rfl
theorem zXk:V.nil.ids=[]:=Eq.trans (Eq.refl _) rfl
theorem jDa {id i f:Nat}:(V.sl id i f).ids=[id]:=Eq.trans (Eq.refl _) rfl
theorem zXl {id i f:Nat}:(V.ref id i f).ids=[id]:=Eq.trans (Eq.refl _) rfl
theorem jC6 {g id i f:Nat}:(V.bd g id i f).ids=[id]:=Eq.trans (Eq.refl _) rfl
theorem jC7:V.bq.ids=[]:=Eq.trans (Eq.refl _) rfl
attribute [go_sem] jC7
attribute [go_sem] jC6
theorem zXj {cs:List V}:(V.agg cs).ids=qOt cs:=Eq.trans (Eq.refl _) rfl
theorem zXm {cs:List V}:(V.tup cs).ids=qOt cs:=Eq.trans (Eq.refl _) rfl
theorem jC8 {f:FuncId}{cs:List V}:(V.fn f cs).ids=qOt cs:=Eq.trans (Eq.refl _) rfl
theorem zQb {ts:List T}:qDl (ts.map .t) = .ret (ts.map .t,[]):=by simp[qDl,zT9]
theorem zSf {x:V}:zVo [x]=x:=Eq.trans (Eq.refl _) rfl
theorem zSe:zVo [] = .tup []:=Eq.trans (Eq.refl _) rfl
theorem zSg {x y:V}{r:List V}:zVo (x::y::r) = .tup (x::y::r):=Eq.trans (Eq.refl _) rfl
theorem zQ9 {f g:FuncId}{s:FnS}{r:Tab}:Tab.look ((g,s)::r) f=if g=f then some s else Tab.look r f:=Eq.trans (Eq.refl _) rfl
theorem jCo {x:T}:(V.t x).flat=x.flat:=Eq.trans (Eq.refl _) rfl
theorem zQj {k:IntKind}{n:Int}:(T.int k n).flat=true:=Eq.trans (Eq.refl _) rfl
theorem zLl {b:Bool}:(T.bool b).flat=true:=Eq.trans (Eq.refl _) rfl
theorem zQk {s:ByteArray}:(T.str s).flat=true:=Eq.trans (Eq.refl _) rfl
theorem zLi:zEc []=true:=Eq.trans (Eq.refl _) rfl
theorem zIf {o:Ob}{r:List Ob}:zEc (o::r)=(o.flat&&zEc r):=Eq.trans (Eq.refl _) rfl
theorem zSi {n:Nat}{vs:List V}:jH5 n vs=(qDm (zM 4) vs).bind fun p=>(qBs (12+n) (List.range n++qA1 p.1) [] [] []).bind fun q=>
  Q.assert ((q.1.all fun i => !(p.2++q.2.2).contains i)=true) ((qXy (p.2++q.2.2)).bind fun _=> .ret (zVo (qF2 (fun r=>q.1.idxOf r) p.1),q.2.1.map (Ob.ren fun r=>q.1.idxOf r))):=Eq.trans (Eq.refl _) rfl
theorem zKo {f:FuncId}{keep:Bool}{vs:List V}{nb:Nat}:qUz tab f keep vs nb=(qS0 keep vs).bind fun cp=>
  (Q.of ((tab.look f).bind fun s=>s (qF2 (fun r=>cp.ids.idxOf r) cp.aS) (cp.obs.map (Ob.ren fun r=>cp.ids.idxOf r)))).bind fun p=>
   Q.assert (cp.ids.length≤p.2.length∧(keep=true∨p.1.flat=true∧zEc p.2=true))
    (zEf nb (p.2.length-cp.ids.length) (.ret (p.1.ren (gam cp.ids nb),(if keep then cp.fw else [])++qNz cp.ids nb 0 p.2))):=Eq.trans (Eq.refl _) rfl
theorem zD3 {keep:Bool}{vs:List V}:qS0 keep vs=(qDm (zM 4) vs).bind fun p=>(qBs 12 (qA1 p.1) [] [] []).bind fun q=>
  Q.assert ((keep=true∨q.2.2=[])∧(q.1.all fun i => !(p.2++q.2.2).contains i)=true) ((qXy (p.2++q.2.2)).bind fun fw=> .ret ⟨p.1,q.1,q.2.1,p.2++q.2.2,fw⟩):=Eq.trans (Eq.refl _) rfl
attribute [go_sem] zJm zTl jAg zT9 zPo qSp zPp zWh zKc zPm zWg zWf zRd jD4 zKw qKc zKz zQd zWy zQe zQc zWx zWz zIj zEg
 zQr zLz zIh zIg zXd zMu zIp zSc jE5 zR9 zSa zZd zZe zR8 zSb zZc zR7 zNc zVl zM7 zIt jE3 zY8 zR3 zY9 zR4 zR2 zR5 zY7
 zQb zSf zSe zSg zQ9 jCo zQj zLl zQk zLi zIf zSi zKo zD3 zM8
attribute [go_sem] List.length_cons List.length_nil List.map_cons List.map_nil List.getElem?_cons_zero List.getElem?_cons_succ List.getElem?_nil List.take_succ_cons List.take_zero List.take_nil List.drop_succ_cons List.drop_zero List.drop_nil List.set_cons_zero List.set_cons_succ
 List.range_zero List.all_nil List.all_cons List.length_map Bool.and_true Bool.true_and List.length_replicate
theorem jIh {b:Bool}:(b==true)=b:=by cases b<;>rfl
theorem jIg {b:Bool}:(b==false) = !b:=by cases b<;>rfl
attribute [go_sem] zQw zL2 jI3 jC9 zXk jDa zXl zXj zXm jC8 zUw jIh jIg decide_true decide_false Bool.not_true Bool.not_false
end Go.Eng
end
