/- A part of an abstract machine, its walks, their tie. -/
import Derived.Test.YtpolalhffkhimaaGreatDoorE6
set_option linter.all false
section
namespace Go.Eng
theorem qPw {hm:Nat→Option Ob} : ∀ {n:Nat} {todo ids:List Nat} {obs:List Ob} {fz ids':List Nat} {obs':List Ob} {fz' l:List Nat},(qBq n todo ids obs fz).run hm=some ((ids',obs',fz'),l) → ∃ s,ids'=ids++s
 | n,[],ids,obs,fz,ids',obs',fz',l,h=>by
  have h':(Q.ret (ids,obs,fz):Q _).run hm=some ((ids',obs',fz'),l):=by cases n<;>exact h
  obtain⟨e,_⟩:=qD h';cases e;exact⟨[],sM⟩
 | 0,_::_,ids,obs,fz,ids',obs',fz',l,h=>by cases h
 | n+1,id::todo,ids,obs,fz,ids',obs',fz',l,h=>by
  simp only[qBq] at h;split at h
  ·exact qPw h
  ·obtain⟨o,l',ho,hs2,_⟩:=yZ h;cases o with
   | dead=>cases hs2
   | live z es wr full=>
    cases wr with
    | false=>cases hs2
    | true=>
     obtain⟨p,l1,l2,hp,hs3,_⟩:=qV hs2;obtain⟨s,hs⟩:=qPw hs3;exact⟨id::s,by rw[hs];simp⟩
theorem qQ4 {hm:Nat→Option Ob} : ∀ {m n s:Nat} {rest:List Nat} {obs:List Ob} {fz ids':List Nat} {obs':List Ob} {fz' l:List Nat},(qBq n (List.range' s m++rest) (List.range s) obs fz).run hm=some ((ids',obs',fz'),l) → ∃ t,ids'=List.range (s+m)++t
 | 0,n,s,rest,obs,fz,ids',obs',fz',l,h=>by
  obtain⟨t,ht⟩:=qPw h;exact⟨t,ht⟩
 | m+1,n,s,rest,obs,fz,ids',obs',fz',l,h=>by
  cases n with
  | zero=>rw[List.range'_succ] at h;cases h
  | succ n=>
   rw[List.range'_succ,List.cons_append] at h;simp only[qBq] at h;split at h
   ·rename_i hc;simp at hc
   ·obtain⟨o,l',ho,hs2,_⟩:=yZ h;cases o with
    | dead=>cases hs2
    | live z es wr full=>
     cases wr with
     | false=>cases hs2
     | true=>
      obtain⟨p,l1,l2,hp,hs3,_⟩:=qV hs2;rw[←List.range_succ,List.append_assoc] at hs3;obtain⟨t,ht⟩:=qQ4 hs3;exact⟨t,by rw[ht];congr 2;omega⟩
def zWj:List V→V
 | [x]=>x
 | xs=> .tup xs
def jJj (n:Nat)(vs:List V):Q (V×List Ob):=
 (qDp (zK 4) vs).bind fun p=>(qBq (12+n) (List.range n++qAv p.1) [] [] []).bind fun q=>
  Q.assert ((q.1.all fun i => !(p.2++q.2.2).contains i)=true) ((qW5 (p.2++q.2.2)).bind fun _=> .ret (zWj (qFr (fun r=>q.1.idxOf r) p.1),q.2.1.map (Ob.ren fun r=>q.1.idxOf r)))
def rsQ (fs:Fs):List (Nat×Option (Nat×Bool))→Q (List V)
 | []=> .ret []
 | (t,none)::r=>(Q.of (jE fs t)).bind fun v=>(rsQ fs r).bind fun vs=> .ret (v::vs)
 | (t,some (n,agg))::r=>(Q.of (jE fs t)).bind fun v=>(qP6 n agg [v]).bind fun p=>(rsQ fs r).bind fun vs=> .ret (p.1::vs)
def zA (rs:List (Nat×Option (Nat×Bool)))(n:Nat)(R:V→List Ob→Prop):qFp:=fun e fs hs=>
 match e with
 | .exit _=>False
 | _=>((rsQ fs rs).bind fun vs=>jJj n vs).wp hs (fun p _=>R p.1 p.2)
def qE {α:Type}:Nat→List α→List (Nat×α)
 | _,[]=>[]
 | i,x::r=>(i,x)::qE (i+1) r
theorem kT {α:Type} : ∀ {l:List α} {i t:Nat},jE (qE i l) t=if i≤t then l[t-i]? else none
 | [],i,t=>by simp[qE,jE]
 | x::r,i,t=>by
  simp only[qE,jE];by_cases h:i=t
  ·subst h;simp
  ·rw[if_neg h,kT];by_cases h1:i≤t
   ·have h2:i+1≤t:=oM;rw[if_pos h1,if_pos h2,show t-i=(t-(i+1))+1 by omega];simp
   ·have h2 : ¬ i+1≤t:=oM;rw[if_neg h1,if_neg h2]
def zBs (vs:List Value):Value:=match vs with
 | [x]=>x
 | xs=> .tuple xs.toArray
def qKc (P:Program):List ResultVar→Option (List (Nat×Option (Nat×Bool)))
 | []=>some []
 | .tmp t::r=>(qKc P r).map fun l=>(t,none)::l
 | .cell a t::r=>match P.info? t,P.underlying t with
  | some i,some d=>if vJ d∨i.size=1 then (qKc P r).map fun l=>(a,some (i.size,vJ d))::l else none
  | _,_=>none
def zWi (tmps:Array Value):ResultVar→Sem Value
 | .tmp t=>pure (tmps.getD t undef)
 | .cell a t=>do loadVar t (←asAddr (tmps.getD a undef))
theorem qOe {cx:Cx}{β:Nat→Option BI}{F:Nat→Prop}{fs:Fs}{hs:Hs}{a:Act}{w:World}(R:Rel cx β F (jE fs) (jE hs) a w) : ∀ {rv:List ResultVar} {rs:List (Nat×Option (Nat×Bool))} {vs:List V} {l:List Nat},qKc cx.P rv=some rs→(rsQ fs rs).run (jE hs)=some (vs,l)→
  ∃ xs,(rv.mapM (zWi a.tmps)).run cx.P w = .ok xs w∧xT (qS β F w) vs xs
 | [],rs,vs,l,h,hq=>by
  cases h;obtain⟨rfl,_⟩:=qD hq;exact⟨[],sM,.nil⟩
 | .tmp t::r,rs,vs,l,h,hq=>by
  simp only[qKc,Option.map_eq_some_iff] at h;obtain⟨rs',hrs,rfl⟩:=h;simp only[rsQ] at hq;obtain⟨v,hv,hq⟩:=qH hq;obtain⟨us,l1,l2,hu,hq,_⟩:=qV hq;obtain⟨rfl,_⟩:=qD hq;obtain⟨x,h1,h2⟩:=R.fr t v hv;obtain⟨xs,h3,h4⟩:=qOe R hrs hu;refine⟨x::xs,?_,.cons h2 h4⟩;rw[List.mapM_cons,Sem.run_bind];have e:(zWi a.tmps (.tmp t)).run cx.P w = .ok x w:=by simp[zWi,h1]
  rw[e,Result.andThen];simp only[Sem.run_bind,h3,Result.andThen];simp
 | .cell t ty::r,rs,vs,l,h,hq=>by
  simp only[qKc] at h;split at h
  ·rename_i i d hi hd;split at h
   ·rename_i hcond;simp only[Option.map_eq_some_iff] at h;obtain⟨rs',hrs,rfl⟩:=h;simp only[rsQ] at hq;obtain⟨v,hv,hq⟩:=qH hq;obtain⟨⟨u,W⟩,l0,l3,hl,hq,_⟩:=qV hq;obtain⟨us,l1,l2,hu,hq,_⟩:=qV hq;obtain⟨rfl,_⟩:=qD hq;obtain⟨x,h1,h2⟩:=R.fr t v hv;obtain⟨xs,h3,h4⟩:=qOe R hrs hu;have hx:a.eval (.tmp t)=x:=by simp[Act.eval,h1]
    have han:qPg cx.P ty (.tmp t)=some (.load i.size (vJ d),[.tmp t]):=by simp[qPg,hi,hd,hcond]
    obtain⟨_,y,h5,h6⟩:=zNu (nb:=0) R han (vs:=[v]) (.cons (by rw[hx];exact h2) .nil) (by simpa [sem] using hl);rw[hx] at h5;have hptr : ∃ ad,x = .pointer (some ad):=by
     cases v<;>simp only[qP6] at hl<;>(try (cases hl;done))
     ·cases h2;exact⟨_,rfl⟩
     ·cases h2;exact⟨_,rfl⟩
    obtain⟨ad,rfl⟩:=hptr;refine⟨y::xs,?_,.cons h6 h4⟩;rw[List.mapM_cons,Sem.run_bind];have e:(zWi a.tmps (.cell t ty)).run cx.P w = .ok y w:=by
     have e0:a.tmps.getD t undef = .pointer (some ad):=by simp[h1]
     rw[←h5];simp only[zWi,e0,Instr.loadAt,Instr.sureAddr,asAddr]
    rw[e,Result.andThen];simp only[Sem.run_bind,h3,Result.andThen];simp
   ·cases h
  ·cases h
theorem qM4 {P:Program}{fn:Func}{tmps:Array Value}{w:World}{xs:List Value}(h:(fn.results.toList.mapM (zWi tmps)).run P w = .ok xs w):(results fn tmps).run P w = .ok (zBs xs) w:=by
 have e:results fn tmps=(do
   let vs ←fn.results.mapM (zWi tmps)
   pure (if h:vs.size=1 then vs[0] else .tuple vs)):=by
  unfold results;congr 1
 rw[e,Array.mapM_eq_mapM_toList,Sem.run_bind];have k2:(Functor.map List.toArray (fn.results.toList.mapM (zWi tmps))).run P w = .ok xs.toArray w:=by
  rw[map_eq_pure_bind,Sem.run_bind,h,Result.andThen];simp
 rw[k2,Result.andThen];cases xs with
 | nil=>simp[zBs]
 | cons t r=>cases r with
  | nil=>simp[zBs]
  | cons t2 r=>simp[zBs]
theorem qUd {β:Nat→Option BI}{F:Nat→Prop}{w:World}{vs:List V}{us:List Value}(h:xT (qS β F w) vs us):qS β F w (zWj vs) (zBs us):=by
 have tup:qS β F w (.tup vs) (.tuple us.toArray):=by
  refine .tup vs _ (by simpa using h.length.symm) (fun i c u hc hu=>?_);obtain⟨y,h1,h2⟩:=h.get' i c hc;have:us[i]?=some u:=by simpa using hu
  rw[this] at h1;cases h1;exact h2
 cases h with
 | nil=>exact tup
 | cons h1 t=>cases t with
  | nil=>exact h1
  | cons h2 t=>exact tup
theorem zEr {P:Program}{G:Gl}{tab:Tab}{f:FuncId}{fn:Func}{c:Code}{ac:AC}{hints:List (Nat×List Nat)}{rs:List (Nat×Option (Nat×Bool))}(hf:P.funcs[f]?=some fn)(hb:fn.body=some c)(hann:ann P fn.ntmps hints c=some ac)(hmx:P.follows .mixedOrders=true)
  (ht:qAu P G tab) (hrs:qKc P fn.results.toList=some rs) {aS:List V} {ins:List Ob} {r:V} {outs:List Ob} (hn:aS.length≤fn.ntmps) (hi:ins.length≤100)
  (h:ac.wp tab G (qE 0 aS) (qE 0 ins) (zA rs ins.length (fun r' outs'=>r'=r∧outs'=outs))):zFp P G f aS ins r outs:=by
 intro w β F vals env fits hargs;have hd0 : ∀ k bi,β k=some bi→k<100:=by
  intro k bi h;rcases Nat.lt_or_ge k ins.length with h1 | h1
  ·omega
  ·rw[fits.dom k h1] at h;cases h
 let cx:Cx := { P,w0:=w,F0:=F,inb:=fun b => ∃ k bi,β k=some bi∧bi.blk=some b,nt:=fn.ntmps,gl:=G,β0:=β,d0:=hd0 }
 have hlen:aS.length=vals.size:=by simpa using hargs.length
 have lookAs : ∀ t v,jE (qE 0 aS) t=some v→aS[t]?=some v:=by
  intro t v h;simpa [kT] using h
 have lookIns : ∀ t v,jE (qE 0 ins) t=some v→ins[t]?=some v:=by
  intro t v h;simpa [kT] using h
 have R0:Rel cx β F (jE (qE 0 aS)) (jE (qE 0 ins)) { tmps:=vals++Array.replicate (fn.ntmps-vals.size) undef,defers:=[] } w:=by
  refine⟨by simp[cx];omega,rfl,fun t v hv=>?_,fun id o ho=>?_,fun id hn=>?_,fun i j bi bj b oi oj h1 h2 h3 h4 _ _ _ _=>fits.inj i j bi bj b h1 h2 h3 h4,rfl,rfl,rfl,Nat.le_refl _,fun _ _ _=>rfl,fun id z es full bi b h1 h2 h3=> .inr ⟨?_,id,bi,h2,h3⟩,fun b hb=>?_,fun b hb=>?_,env.Fw,fun _ _=>Iff.rfl,fun id bi b h1 h2=>(fits.blt id bi b h1 h2).1,fun g cs hg=>?_,fun _ _ h=>h,env.gs⟩
  ·obtain⟨x,h1,h2⟩:=hargs.get' t v (lookAs t v hv);refine⟨x,?_,h2⟩;have hlt:t<vals.size:=by
    have:=(List.getElem?_eq_some_iff.1 (lookAs t v hv)).1;omega
   rw[Array.getElem?_append_left hlt];simpa using h1
  ·obtain⟨bi,h1,h2,_⟩:=fits.ok id o (lookIns id o ho);exact⟨bi,h1,h2⟩
  ·refine fits.dom id ?_;rcases Nat.lt_or_ge id ins.length with h1 | h1
   ·rw[kT] at hn;simp[h1] at hn
   ·exact h1
  ·have:=(List.getElem?_eq_some_iff.1 (lookIns id _ h1)).1;omega
  ·obtain⟨k,bi,h1,h2⟩:=hb;exact (fits.blt k bi b h1 h2).2
  ·obtain⟨k,bi,h1,h2⟩:=hb;exact (fits.blt k bi b h1 h2).1
  ·exact (env.gl g cs hg).mono (fun _ _ h=>by cases h) (fun _ h=>h) (fun _ _=>rfl)
 refine calls_of_wp hf hb (AC.sound (cx:=cx) ht hmx hann h R0 (fun e fs hs βR FR a w' hq R=>?_));have fin:((rsQ fs rs).bind fun vs=>jJj ins.length vs).wp hs (fun p _=>p.1=r∧p.2=outs)→a.defers=[] ∧ ∃ v,(results fn a.tmps).run P w' = .ok v w' ∧ ∃ x β' F',Ending.returned v = .returned x∧qNl w β F ins r outs x β' F' w':=by
  intro hq;rw[Q.wp_bind] at hq;obtain⟨vs,l0,hvs,⟨r',outs'⟩,l,hrun,e1,e2⟩:=hq;obtain⟨xs,hxs,hall⟩:=qOe (cx:=cx) R hrs hvs;refine⟨R.dfr,_,qM4 hxs,?_⟩
  ·simp only at e1 e2;subst e1 e2;unfold jJj at hrun;obtain⟨p,l1,l2,hp,hrun,_⟩:=qV hrun;obtain⟨q,l3,l4,hqq,hrun,_⟩:=qV hrun;obtain⟨hdis,hrun⟩:=qL hrun;obtain⟨fw,l5,l6,hfw,hrun,_⟩:=qV hrun;obtain⟨e,_⟩:=qD hrun;simp only[Prod.mk.injEq] at e;obtain⟨rfl,rfl⟩:=e;obtain⟨ids,obs,fzq⟩:=q;obtain⟨t,htt⟩:=qQ4 (s:=0) (m:=ins.length) (n:=12+ins.length) (rest:=qAv p.1) (by simpa [List.range_eq_range'] using hqq);have hidk : ∀ k,k<ins.length→ids[k]?=some k:=by
    intro k hk;rw[htt,List.getElem?_append_left (by simpa using hk)];simp[hk]
   obtain⟨F1,R1,hFF,hnd,hlo,hfwl,hlive,fits',hres⟩:=zG6 R hp hqq (fun r h=>by simp[h]) hdis hfw hall;have hβk : ∀ k bi,β k=some bi→βR k=some bi:=R1.ext0;have hklt : ∀ k bi,β k=some bi→k<ins.length:=by
    intro k bi h;rcases Nat.lt_or_ge k ins.length with h1 | h1
    ·exact h1
    ·rw[fits.dom k h1] at h;cases h
   refine⟨_,qF0 ids βR,F1,rfl,fits',qUd hres,fun k hk=>?_,fun k bi b hk h1 h2=>?_,fun b hb=>R1.F0 b hb,R1.Fw,R1.os,R1.tape,R1.output,R1.size,fun b hb hk=>R1.ext b hb (fun ⟨k,bi,h1,h2⟩=>hk k bi h1 h2)⟩
   ·obtain⟨bi,h1,_⟩:=fits.ok k ins[k] (by simp[hk]);simp[qF0,hidk k hk,hβk k bi h1,h1]
   ·unfold qF0 at h1;rw[Option.bind_eq_some_iff] at h1;obtain⟨id,hid,h1⟩:=h1;obtain⟨z,es,full,_,hl⟩:=hlive k id hid;rcases R1.old id z es full bi b hl h1 h2 with h | ⟨_,k0,bi0,g1,g2⟩
    ·exact h
    ·exfalso;have hk0:=hklt k0 bi0 g1;obtain⟨z0,es0,full0,_,hl0⟩:=hlive k0 k0 (hidk k0 hk0);have e:=R1.inj id k0 bi bi0 b _ _ h1 (hβk k0 bi0 g1) h2 g2 hl hl0 sM sM;subst e;have hi1:k<ids.length:=(List.getElem?_eq_some_iff.1 hid).1;have hi2:id<ids.length:=(List.getElem?_eq_some_iff.1 (hidk id hk0)).1;have:=qAp hnd hi1 hi2 (by
      have a1:=hid;have a2:=hidk id hk0;rw[List.getElem?_eq_getElem hi1] at a1;rw[List.getElem?_eq_getElem hi2] at a2;rw[Option.some.inj a1,Option.some.inj a2])
     omega
 cases e with
 | normal=>exact fin hq
 | ret=>exact fin hq
 | exit id=>exact hq.elim
end Go.Eng
end
section
namespace Go.Eng
variable {tab:Tab} {gl:Gl} {fs:Fs} {hs:Hs} {Qx:qFp}
theorem jIv:AC.skip.wp tab gl fs hs Qx=Qx .normal fs hs:=Eq.trans (Eq.refl _) rfl
theorem jM5:AC.ret.wp tab gl fs hs Qx=Qx .ret fs hs:=Eq.trans (Eq.refl _) rfl
theorem jIt {id:Nat}:(AC.exit id).wp tab gl fs hs Qx=Qx (.exit id) fs hs:=Eq.trans (Eq.refl _) rfl
def jJl (tab:Tab)(gl:Gl)(b:AC)(Qx:qFp):qFp:=fun e fs' hs'=>match e with | .normal=>b.wp tab gl fs' hs' Qx | e=>Qx e fs' hs'
def zFy (id:Nat)(Qx:qFp):qFp:=fun e fs' hs'=>match e with | .exit id'=>(if id'=id then Qx .normal fs' hs' else Qx (.exit id') fs' hs') | e=>Qx e fs' hs'
theorem jM6 {a b:AC}:(AC.seq a b).wp tab gl fs hs Qx=a.wp tab gl fs hs (jJl tab gl b Qx):=Eq.trans (Eq.refl _) rfl
theorem zEk {b:AC}:jJl tab gl b Qx .normal fs hs=b.wp tab gl fs hs Qx:=Eq.trans (Eq.refl _) rfl
theorem zN6 {b:AC}{id:Nat}:jJl tab gl b Qx (.exit id) fs hs=Qx (.exit id) fs hs:=Eq.trans (Eq.refl _) rfl
theorem zTz {b:AC}:jJl tab gl b Qx .ret fs hs=Qx .ret fs hs:=Eq.trans (Eq.refl _) rfl
theorem jBw {id:Nat}{a:AC}:(AC.block id a).wp tab gl fs hs Qx=a.wp tab gl fs hs (zFy id Qx):=Eq.trans (Eq.refl _) rfl
theorem qX0 {id:Nat}:zFy id Qx .normal fs hs=Qx .normal fs hs:=Eq.trans (Eq.refl _) rfl
theorem zHu {id:Nat}:zFy id Qx .ret fs hs=Qx .ret fs hs:=Eq.trans (Eq.refl _) rfl
theorem zDd {id id':Nat}:zFy id Qx (.exit id') fs hs=if id'=id then Qx .normal fs hs else Qx (.exit id') fs hs:=Eq.trans (Eq.refl _) rfl
theorem jIs {c:qFs}{a b:AC}:(AC.cond c a b).wp tab gl fs hs Qx=qId (c.val gl (jE fs)) (a.wp tab gl fs hs Qx) (b.wp tab gl fs hs Qx):=Eq.trans (Eq.refl _) rfl
theorem jBx {c:qFs}{a b:AC}:(AC.condb c a b).wp tab gl fs hs Qx=qRe (c.val gl (jE fs)) (a.wp tab gl fs hs Qx) (b.wp tab gl fs hs Qx):=Eq.trans (Eq.refl _) rfl
def qVs (tab:Tab)(gl:Gl)(a:AC)(fs:Fs)(hs:Hs)(Qx:qFp):Prop:=zJ5 (fun fs hs K=>a.wp tab gl fs hs K) fs hs Qx
theorem jIu {a:AC}:(AC.loop a).wp tab gl fs hs Qx=qVs tab gl a fs hs Qx:=Eq.trans (Eq.refl _) rfl
@[congr] theorem zYy {a:AC} {fs':Fs} {hs':Hs} (h1:fs=fs') (h2:hs=hs'):qVs tab gl a fs hs Qx=qVs tab gl a fs' hs' Qx:=by rw[h1,h2]
def jGg (anc:Option (List Nat))(Qx:qFp):Fs→Hs→List (List Nat×List Nat)→Prop:=fun fs' hs' acc=>(match anc with | none=>True | some l=>chk l acc=true)∧Qx .normal fs' hs'
theorem zM9 {acc:List (List Nat×List Nat)}:jGg none Qx fs hs acc=Qx .normal fs hs:=by simp[jGg]
theorem zNa {l:List Nat}{acc:List (List Nat×List Nat)}:jGg (some l) Qx fs hs acc=(chk l acc=true∧Qx .normal fs hs):=Eq.trans (Eq.refl _) rfl
def opK (tab:Tab)(gl:Gl)(r:List zS)(nb:Nat)(fs:Fs)(d:Option Nat)(hs:Hs)(acc:List (List Nat×List Nat))(K:Fs→Hs→List (List Nat×List Nat)→Prop):V×Wr→List Nat→Prop:=
 fun p l=>zAa tab gl r nb (zWr fs d p.1) (qXg hs p.2) (acc++[(wE p.2,l)]) K
theorem zZe {r:List zS}{nb:Nat}{d:Option Nat}{acc:List (List Nat×List Nat)}{K:Fs→Hs→List (List Nat×List Nat)→Prop}{v:V}{W:Wr}{l:List Nat} :
  opK tab gl r nb fs d hs acc K (v,W) l=zAa tab gl r nb (zWr fs d v) (qXg hs W) (acc++[(wE W,l)]) K:=Eq.trans (Eq.refl _) rfl
def jK8 {α:Type}(id:Nat)(K:α→List Nat→Prop):α→List Nat→Prop:=fun x l=>K x (id::l)
theorem zRy {α:Type}{id:Nat}{K:α→List Nat→Prop}{x:α}{l:List Nat}:jK8 id K x l=K x (id::l):=Eq.trans (Eq.refl _) rfl
def jJu {α:Type}(l:List Nat)(K:α→List Nat→Prop):α→List Nat→Prop:=fun x l'=>K x (l++l')
theorem zPz {α:Type}{l l':List Nat}{K:α→List Nat→Prop}{x:α}:jJu l K x l'=K x (l++l'):=Eq.trans (Eq.refl _) rfl
def jJ2 {α γ:Type}(hs:Hs)(f:γ→Q α)(K:α→List Nat→Prop):γ→List Nat→Prop:=fun x l=>(f x).wp hs (jJu l K)
theorem zKk {α γ:Type}{f:γ→Q α}{K:α→List Nat→Prop}{x:γ}{l:List Nat}:jJ2 hs f K x l=(f x).wp hs (jJu l K):=Eq.trans (Eq.refl _) rfl
theorem zFl {α:Type}{o:Ob}{id:Nat}{k:Ob→Q α}{K:α→List Nat→Prop}:zJx hs (some o) id k K=(k o).wp hs (jK8 id K):=Eq.trans (Eq.refl _) rfl
theorem zCr {α:Type}{id:Nat}{k:Q α}{K:α→List Nat→Prop}:qXj hs none id k K=k.wp hs (jK8 id K):=Eq.trans (Eq.refl _) rfl
theorem jM4 {nb:Nat}{anc:Option (List Nat)}{o:zS}{os:List zS}:(AC.reg nb anc (o::os)).wp tab gl fs hs Qx =
  (o.q tab gl (jE fs) nb).wp hs (opK tab gl os (nb+16) fs o.dst hs [] (jGg anc Qx)):=Eq.trans (Eq.refl _) rfl
theorem zOz {nb:Nat}{anc:Option (List Nat)}:(AC.reg nb anc []).wp tab gl fs hs Qx=jGg anc Qx fs hs []:=Eq.trans (Eq.refl _) rfl
theorem zUn {nb:Nat}{acc:List (List Nat×List Nat)}{K:Fs→Hs→List (List Nat×List Nat)→Prop}:zAa tab gl [] nb fs hs acc K=K fs hs acc:=Eq.trans (Eq.refl _) rfl
theorem zOx {o:zS}{r:List zS}{nb:Nat}{acc:List (List Nat×List Nat)}{K:Fs→Hs→List (List Nat×List Nat)→Prop} :
  zAa tab gl (o::r) nb fs hs acc K=(o.q tab gl (jE fs) nb).wp hs (opK tab gl r (nb+16) fs o.dst hs acc K):=Eq.trans (Eq.refl _) rfl
theorem zMd:wE []=[]:=Eq.trans (Eq.refl _) rfl
theorem zIf {p:Nat×Ob}{r:Wr}:wE (p::r)=p.1::wE r:=Eq.trans (Eq.refl _) rfl
theorem zRz {α:Type}{t:Nat}:jE ([]:List (Nat×α)) t=none:=Eq.trans (Eq.refl _) rfl
theorem zMh {α:Type}{k t:Nat}{v:α}{r:List (Nat×α)}:jE ((k,v)::r) t=if k=t then some v else jE r t:=Eq.trans (Eq.refl _) rfl
theorem zT1 {α:Type}{k:Nat}{v:α}:jJm [] k v=[(k,v)]:=Eq.trans (Eq.refl _) rfl
theorem zN8 {α:Type}{k k':Nat}{v v':α}{r:List (Nat×α)}:jJm ((k',v')::r) k v=if k'=k then (k,v)::r else (k',v')::jJm r k v:=Eq.trans (Eq.refl _) rfl
theorem zOa {d:Nat}{v:V}:zWr fs (some d) v=(d,v)::fs:=Eq.trans (Eq.refl _) rfl
theorem zN9 {v:V}:zWr fs none v=fs:=Eq.trans (Eq.refl _) rfl
theorem zUg:qXg hs []=hs:=Eq.trans (Eq.refl _) rfl
theorem zOq {i:Nat}{o:Ob}{r:Wr}:qXg hs ((i,o)::r)=qXg ((i,o)::hs) r:=Eq.trans (Eq.refl _) rfl
theorem zU0 {α:Type}{i:Nat}:qE i ([]:List α)=[]:=Eq.trans (Eq.refl _) rfl
theorem zO8 {α:Type}{i:Nat}{x:α}{r:List α}:qE i (x::r)=(i,x)::qE (i+1) r:=Eq.trans (Eq.refl _) rfl
variable {K:V×Wr→List Nat→Prop} {nb:Nat} {fm:Nat→Option V}
theorem zZn {d:Option Nat}{k:AK}{xs:List qFs}:((⟨d,k,xs,none⟩:zS).q tab gl fm nb).wp hs K=zCs hs (qAy gl fm xs) (fun vs=>k.q tab nb vs) K:=by
 simp only[zS.q,qFk,Q.wp_of_bind,qVj,if_true,zS.go]
def qQ5 (g:Option Bool)(A B:Prop):Prop:=
 match g with
 | some true=>A
 | some false=>B
 | none=>False
@[congr] theorem zVu {g g':Option Bool} {A B:Prop} (h:g=g'):qQ5 g A B=qQ5 g' A B:=by rw[h]
theorem zD0 {A B:Prop}:qQ5 (some true) A B=A:=Eq.trans (Eq.refl _) rfl
theorem zA3 {A B:Prop}:qQ5 (some false) A B=B:=Eq.trans (Eq.refl _) rfl
theorem qPx {b:Bool}{A B:Prop}:qQ5 (some b) A B=((b=true→A)∧(b=false→B)):=by
 cases b<;>simp[qQ5]
theorem zZm {d:Option Nat}{k:AK}{xs:List qFs}{t:Nat}{b:Bool}:((⟨d,k,xs,some (t,b)⟩:zS).q tab gl fm nb).wp hs K =
  qQ5 (qFk fm (some (t,b))) (zCs hs (qAy gl fm xs) (fun vs=>k.q tab nb vs) K) (K (.tup [],[]) []):=by
 simp only[zS.q,Q.wp_of_bind];cases h:qFk fm (some (t,b)) with
 | none=>rfl
 | some g=>cases g<;>simp[qQ5,qVj,zS.go,Q.wp_of_bind,Q.wp_ret]
theorem zA2 {t:Nat}{b:Bool}:qFk fm (some (t,b))=match fm t with
  | some (.t (.bool c))=>some (c==b)
  | some (.tup [])=>some false
  | _=>none:=Eq.trans (Eq.refl _) rfl
theorem zUl:qAy gl fm []=some []:=Eq.trans (Eq.refl _) rfl
theorem zUm {t:Nat}{r:List qFs}:qAy gl fm (.tmp t::r)=(fm t).bind fun v=>(qAy gl fm r).map (v :: ·):=Eq.trans (Eq.refl _) rfl
theorem zUk {v:V}{r:List qFs}:qAy gl fm (.cst v::r)=(qAy gl fm r).map (v :: ·):=Eq.trans (Eq.refl _) rfl
theorem zOv {g:Nat}{r:List qFs}:qAy gl fm (.glob g::r)=((gl g).map V.ro).bind fun v=>(qAy gl fm r).map (v :: ·):=Eq.trans (Eq.refl _) rfl
theorem jBk {t:Nat}:(qFs.tmp t).val gl fm=fm t:=Eq.trans (Eq.refl _) rfl
theorem jBj {v:V}:(qFs.cst v).val gl fm=some v:=Eq.trans (Eq.refl _) rfl
theorem jK4 {ao:AO}{vs:List V}:(AK.op ao).q tab nb vs=sem ao vs nb:=Eq.trans (Eq.refl _) rfl
theorem zYv {f:FuncId}{keep:Bool}{vs:List V}:(AK.call f keep).q tab nb vs=qVo tab f keep vs nb:=Eq.trans (Eq.refl _) rfl
theorem zRv {f:FuncId}{keep:Bool}{caps rest:List V}:(AK.callv keep).q tab nb (.fn f caps::rest)=qVo tab f keep (rest++caps) nb:=Eq.trans (Eq.refl _) rfl
theorem zRu {g id i f:Nat}{keep:Bool}{rest:List V}:(AK.callv keep).q tab nb (.bd g id i f::rest)=qVo tab g keep (.ref id i f::rest) nb:=Eq.trans (Eq.refl _) rfl
attribute [go_sem] zRu
theorem qEe {α β γ:Type}{q:Q α}{f:α→Q β}{g:β→Q γ}:(q.bind f).bind g=q.bind fun x=>(f x).bind g:=by
 induction q with
 | ret a=>rfl
 | fail=>rfl
 | get id k ih=>simp only[Q.bind,ih]
 | free id k ih=>simp only[Q.bind,ih]
theorem zFn {α γ:Type}{x:γ}{f:γ→Q α}{K:α→List Nat→Prop}:((Q.ret x).bind f).wp hs K=(f x).wp hs K:=Eq.trans (Eq.refl _) rfl
theorem zCv {α γ:Type}{f:γ→Q α}{K:α→List Nat→Prop}:((Q.fail).bind f).wp hs K=False:=Q.wp_fail
theorem zCt {α β γ:Type}{q:Q α}{f:α→Q β}{g:β→Q γ}{K:γ→List Nat→Prop}:((q.bind f).bind g).wp hs K=(q.bind fun x=>(f x).bind g).wp hs K:=by rw[qEe]
theorem zFm {α γ:Type}{id:Nat}{k:Ob→Q γ}{f:γ→Q α}{K:α→List Nat→Prop}:((Q.get id k).bind f).wp hs K=zJx hs (jE hs id) id (fun o=>(k o).bind f) K:=Q.wp_get
theorem zCw {α γ:Type}{id:Nat}{k:Q γ}{f:γ→Q α}{K:α→List Nat→Prop}:((Q.free id k).bind f).wp hs K=qXj hs (jE hs id) id (k.bind f) K:=Q.wp_free
theorem qWu {α γ:Type}{b:Prop}[Decidable b]{q:Q γ}{f:γ→Q α}{K:α→List Nat→Prop}:((Q.assert b q).bind f).wp hs K=(b∧(q.bind f).wp hs K):=by
 rw[←Q.wp_assert];unfold Q.assert;split<;>rfl
def wpA (b P:Prop):Prop:=b∧P
@[congr] theorem jIx {b b' P:Prop} (h:b=b'):wpA b P=wpA b' P:=by rw[h]
theorem zUq {P:Prop}:wpA True P=P:=by simp[wpA]
theorem jM7 {b P:Prop}(h:b):wpA b P=P:=by simp[wpA,h]
theorem jBy {a b P:Prop}:wpA (a∧b) P=wpA a (wpA b P):=by simp[wpA,and_assoc]
theorem zJ0 {α:Type}{b:Prop}[Decidable b]{q:Q α}{K:α→List Nat→Prop}:(Q.assert b q).wp hs K=wpA b (q.wp hs K):=Q.wp_assert
theorem qVk {α γ:Type}{b:Prop}[Decidable b]{q:Q γ}{f:γ→Q α}{K:α→List Nat→Prop}:((Q.assert b q).bind f).wp hs K=wpA b ((q.bind f).wp hs K):=qWu
theorem zO1 {α γ:Type}{b:Prop}[Decidable b]{o:Option γ}{f:γ→Q α}{K:α→List Nat→Prop}:zCs hs (if b then o else none) f K=wpA b (zCs hs o f K):=zUr
theorem zJz {α γ:Type}{b:Prop}[Decidable b]{o:Option γ}{f:γ→Q α}{K:α→List Nat→Prop}:zCs hs (if b then none else o) f K=wpA (¬ b) (zCs hs o f K):=zO0
theorem qTf {b:Bool}{A B:Prop}:qId (some (.t (.bool b))) A B=((b=true→A)∧(b=false→B)):=Eq.trans (Eq.refl _) rfl
theorem qSd {α γ:Type}{x:γ}{f:γ→Q α}:(Q.ret x).bind f=f x:=Eq.trans (Eq.refl _) rfl
theorem jAv {vs:List V}:sem .mov vs nb=zHg vs:=Eq.trans (Eq.refl _) rfl
theorem zTy {vs:List V}:sem .smov vs nb=qYx vs:=Eq.trans (Eq.refl _) rfl
theorem zTw {vs:List V}:sem .pick vs nb=qUl vs:=Eq.trans (Eq.refl _) rfl
theorem jAr {vs:List V}:sem .box vs nb=zB0 nb vs:=Eq.trans (Eq.refl _) rfl
theorem zIw {vs:List V}:sem .boxArr vs nb=qJt nb vs:=Eq.trans (Eq.refl _) rfl
theorem jAx {vs:List V}:sem .s2b vs nb=qXe nb vs:=Eq.trans (Eq.refl _) rfl
theorem jAo {vs:List V}:sem .b2s vs nb=zHc vs:=Eq.trans (Eq.refl _) rfl
theorem zIz {vs:List V}:sem .sindex vs nb=qDx vs:=Eq.trans (Eq.refl _) rfl
theorem jAs {vs:List V}:sem .len vs nb=zB1 vs:=Eq.trans (Eq.refl _) rfl
theorem zTx {vs:List V}:sem .slen vs nb=qP7 vs:=Eq.trans (Eq.refl _) rfl
theorem zIu {vs:List V}:sem .appstr vs nb=qBv nb vs:=Eq.trans (Eq.refl _) rfl
theorem jAu {vs:List V}:sem .min vs nb=zHf vs:=Eq.trans (Eq.refl _) rfl
theorem jAt {vs:List V}:sem .max vs nb=zHe vs:=Eq.trans (Eq.refl _) rfl
theorem jAn {n:Nat}{k:IntKind}{neg:Bool}{vs:List V}:sem (.aeq n k neg) vs nb=qUi n k neg vs:=Eq.trans (Eq.refl _) rfl
theorem zIy {vs:List V}:sem .nilchk vs nb=qJu vs:=Eq.trans (Eq.refl _) rfl
theorem jAw {z:Nat}{es vs:List V}:sem (.new z es) vs nb=zB2 z es nb vs:=Eq.trans (Eq.refl _) rfl
theorem zNx {z:List V}{pl:List (Nat×Nat)}{vs:List V}:sem (.build z pl) vs nb=qOj z pl vs:=Eq.trans (Eq.refl _) rfl
theorem zIx {z len:Nat}{zero:V}{ix:List Nat}{vs:List V}:sem (.bslice z len zero ix) vs nb=qOi z len zero ix nb vs:=Eq.trans (Eq.refl _) rfl
theorem zTt {n:Nat}{agg:Bool}{vs:List V}:sem (.load n agg) vs nb=qP6 n agg vs:=Eq.trans (Eq.refl _) rfl
theorem zN4 {n:Nat}{vs:List V}:sem (.store n) vs nb=qOn n vs:=Eq.trans (Eq.refl _) rfl
theorem jAq {op:BinOp}{vs:List V}:sem (.bin op) vs nb=zHd op vs:=Eq.trans (Eq.refl _) rfl
theorem jAp {neg:Bool}{vs:List V}:sem (.beq neg) vs nb=zBz neg vs:=Eq.trans (Eq.refl _) rfl
theorem jG2 {op:UnOp}{vs:List V}:sem (.un op) vs nb=zTo op vs:=Eq.trans (Eq.refl _) rfl
theorem zTp {k:IntKind}{vs:List V}:sem (.conv k) vs nb=qG9 k vs:=Eq.trans (Eq.refl _) rfl
theorem zEj {z by_:Nat}{zero:V}{vs:List V}:sem (.mkslice z by_ zero) vs nb=zTn z by_ zero nb vs:=Eq.trans (Eq.refl _) rfl
theorem zI0 {lo hi mx:Bool}{vs:List V}:sem (.sslice lo hi mx) vs nb=qOm lo hi mx vs:=Eq.trans (Eq.refl _) rfl
theorem zN3 {z:Nat}{lo hi mx:Bool}{vs:List V}:sem (.slice z lo hi mx) vs nb=qSq z lo hi mx vs:=Eq.trans (Eq.refl _) rfl
theorem zIv {n z:Nat}{lo hi mx:Bool}{vs:List V}:sem (.aslice n z lo hi mx) vs nb=qOh n z lo hi mx vs:=Eq.trans (Eq.refl _) rfl
theorem zNy {off:Nat}{vs:List V}:sem (.faddr off) vs nb=qSn off vs:=Eq.trans (Eq.refl _) rfl
theorem zNz {off n:Nat}{agg:Bool}{vs:List V}:sem (.field off n agg) vs nb=qSo off n agg vs:=Eq.trans (Eq.refl _) rfl
theorem zN0 {z:Nat}{vs:List V}:sem (.iaddr z) vs nb=qOk z vs:=Eq.trans (Eq.refl _) rfl
theorem zNw {n z:Nat}{vs:List V}:sem (.aaddr n z) vs nb=qOg n z vs:=Eq.trans (Eq.refl _) rfl
theorem zN1 {n z:Nat}{agg:Bool}{vs:List V}:sem (.index n z agg) vs nb=qSp n z agg vs:=Eq.trans (Eq.refl _) rfl
theorem zEi {i:Nat}{vs:List V}:sem (.extract i) vs nb=qF3 i vs:=Eq.trans (Eq.refl _) rfl
theorem zTs {n:Nat}{vs:List V}:sem (.lenc n) vs nb=qUk n vs:=Eq.trans (Eq.refl _) rfl
theorem zIt {z by_:Nat}{vs:List V}:sem (.append z by_) vs nb=qF2 z by_ nb vs:=Eq.trans (Eq.refl _) rfl
theorem zEh {z by_:Nat}{vs:List V}:sem (.appendt z by_) vs nb=qJ1 z by_ nb vs:=Eq.trans (Eq.refl _) rfl
theorem zTu {f:FuncId}{vs:List V}:sem (.mkbd f) vs nb=qYv f vs:=Eq.trans (Eq.refl _) rfl
theorem zTr {vs:List V}:sem .idsl vs nb=qYu vs:=Eq.trans (Eq.refl _) rfl
theorem zN2 {neg:Bool}{vs:List V}:sem (.nileq neg) vs nb=qOl neg vs:=Eq.trans (Eq.refl _) rfl
attribute [go_sem] zN2 qOl
attribute [go_sem] zEh zTu zTr
theorem zTq {z:Nat}{vs:List V}:sem (.copy z) vs nb=qUj z vs:=Eq.trans (Eq.refl _) rfl
theorem zTv {f:FuncId}{vs:List V}:sem (.mkfn f) vs nb=qYw f vs:=Eq.trans (Eq.refl _) rfl
theorem jHm {k:IntKind}{n:Int}:(T.int k n).cells=[T.int k n]:=Eq.trans (Eq.refl _) rfl
theorem jBa {b:Bool}:(T.bool b).cells=[T.bool b]:=Eq.trans (Eq.refl _) rfl
theorem jHn {s:ByteArray}:(T.str s).cells=[T.str s]:=Eq.trans (Eq.refl _) rfl
theorem jBb  : T.fnil.cells=[T.fnil]:=Eq.trans (Eq.refl _) rfl
theorem jBc  : T.pnil.cells=[T.pnil]:=Eq.trans (Eq.refl _) rfl
theorem jHl {cs:List T}:(T.agg cs).cells=cs:=Eq.trans (Eq.refl _) rfl
theorem jMh {cs:List T}:(T.sl cs).cells=[T.sl cs]:=Eq.trans (Eq.refl _) rfl
theorem jId {k:IntKind}{n:Int}:(V.t (T.int k n)).cells=[V.t (T.int k n)]:=Eq.trans (Eq.refl _) rfl
theorem jBl {b:Bool}:(V.t (T.bool b)).cells=[V.t (T.bool b)]:=Eq.trans (Eq.refl _) rfl
theorem jIg {s:ByteArray}:(V.t (T.str s)).cells=[V.t (T.str s)]:=Eq.trans (Eq.refl _) rfl
theorem jBm  : (V.t T.fnil).cells=[V.t T.fnil]:=Eq.trans (Eq.refl _) rfl
theorem jBn  : (V.t T.pnil).cells=[V.t T.pnil]:=Eq.trans (Eq.refl _) rfl
theorem jBp {cs:List T}:(V.t (T.agg cs)).cells=cs.map V.t:=Eq.trans (Eq.refl _) rfl
theorem jIh {cs:List T}:(V.t (T.sl cs)).cells=[V.t (T.sl cs)]:=Eq.trans (Eq.refl _) rfl
theorem jIe  : V.nil.cells=[V.nil]:=Eq.trans (Eq.refl _) rfl
theorem jIf {id i f:Nat}:(V.ref id i f).cells=[V.ref id i f]:=Eq.trans (Eq.refl _) rfl
theorem jMs {g id i f:Nat}:(V.bd g id i f).cells=[V.bd g id i f]:=Eq.trans (Eq.refl _) rfl
theorem jMt:V.bq.cells=[V.bq]:=Eq.trans (Eq.refl _) rfl
attribute [go_sem] jMt
attribute [go_sem] jMs
theorem jMv {cs:List T}:(V.ro cs).cells=[V.ro cs]:=Eq.trans (Eq.refl _) rfl
theorem jMw {id i f:Nat}:(V.sl id i f).cells=[V.sl id i f]:=Eq.trans (Eq.refl _) rfl
theorem jIc {cs:List V}:(V.agg cs).cells=cs:=Eq.trans (Eq.refl _) rfl
theorem jMu {f:FuncId}{cs:List V}:(V.fn f cs).cells=[V.fn f cs]:=Eq.trans (Eq.refl _) rfl
theorem jIj {k:IntKind}{n:Int}:(V.t (T.int k n)).plain=true:=Eq.trans (Eq.refl _) rfl
theorem jBq {b:Bool}:(V.t (T.bool b)).plain=true:=Eq.trans (Eq.refl _) rfl
theorem jIm {s:ByteArray}:(V.t (T.str s)).plain=true:=Eq.trans (Eq.refl _) rfl
theorem jBs  : (V.t T.fnil).plain=true:=Eq.trans (Eq.refl _) rfl
theorem jBt  : (V.t T.pnil).plain=true:=Eq.trans (Eq.refl _) rfl
theorem jBv {cs:List T}:(V.t (T.agg cs)).plain=true:=Eq.trans (Eq.refl _) rfl
theorem jIn {cs:List T}:(V.t (T.sl cs)).plain=true:=Eq.trans (Eq.refl _) rfl
theorem jIk  : V.nil.plain=true:=Eq.trans (Eq.refl _) rfl
theorem jIl {id i f:Nat}:(V.ref id i f).plain=true:=Eq.trans (Eq.refl _) rfl
theorem jMx {g id i f:Nat}:(V.bd g id i f).plain=true:=Eq.trans (Eq.refl _) rfl
theorem jMy:V.bq.plain=true:=Eq.trans (Eq.refl _) rfl
attribute [go_sem] jMy
attribute [go_sem] jMx
theorem jM0 {cs:List T}:(V.ro cs).plain=true:=Eq.trans (Eq.refl _) rfl
theorem jM1 {id i f:Nat}:(V.sl id i f).plain=true:=Eq.trans (Eq.refl _) rfl
theorem jIi {cs:List V}:(V.agg cs).plain=true:=Eq.trans (Eq.refl _) rfl
theorem jMz {f:FuncId}{cs:List V}:(V.fn f cs).plain=true:=Eq.trans (Eq.refl _) rfl
theorem jCt {op:BinOp}{k k':IntKind}{x y:Int}:qHp op (.int k x) (.int k' y)=qNk op k x k' y:=Eq.trans (Eq.refl _) rfl
theorem zXr {x y:ByteArray}:qHp .add (.str x) (.str y)=if x.size+y.size≤maxLen then some (.str (x++y)) else none:=Eq.trans (Eq.refl _) rfl
theorem jCu {x y:ByteArray}:qHp .eql (.str x) (.str y)=some (.bool (x.toList==y.toList)):=Eq.trans (Eq.refl _) rfl
theorem jCv {x y:ByteArray}:qHp .neq (.str x) (.str y)=some (.bool !(x.toList==y.toList)):=Eq.trans (Eq.refl _) rfl
theorem jHs {b:Bool}:unT .not (.bool b)=some (.bool !b):=Eq.trans (Eq.refl _) rfl
theorem jHr {k:IntKind}{n:Int}:unT .neg (.int k n)=some (.int k (k.wrap (0-n))):=Eq.trans (Eq.refl _) rfl
theorem jD8 {k:IntKind}{n:Int}:vO (.t (.int k n))=some n:=Eq.trans (Eq.refl _) rfl
theorem jG1 {k k':IntKind}{n:Int}:qG9 k [.t (.int k' n)] = .ret (.t (.int k (k.wrap n)),[]):=Eq.trans (Eq.refl _) rfl
attribute [go_sem] jHm jBa jHn jBb jBc jHl jMh jId jBl jIg jBm jBn jBp jIh jIe jIf jMv jMw jIc jMu jIj jBq jIm jBs jBt jBv jIn jIk jIl jM0 jM1 jIi jMz jCt zXr jCu jCv jHs jHr jD8 jG1
attribute [go_sem ↓] jIv jM5 jIt jM6 jBw jIu jIs jBx jM4 zOz zEk zN6 zTz qX0 zHu zDd zM9 zNa zZn zZm jK4 zYv zRv
 zZe zRy zPz zKk Q.wp_of_bind Q.wp_ret Q.wp_fail Q.wp_get Q.wp_free zJ0 zFn zCv zCt zFm zCw qVk
attribute [go_sem] zQh zXt
attribute [go_sem] zUq jBy zUn zOx zUl zUm zUk zOv jBk jBj zRz zMh zT1 zN8 zOa zN9 zUg zOq zU0 zO8 zMd zIf
 qVj zO2 zO1 zJz zFl zJy zFk zCr Q.wp_ite zHy zDh zD0 zA3 zA2
attribute [go_sem] Option.bind_some Option.map_some Option.bind_none Option.map_none true_and and_true List.nil_append List.cons_append List.append_nil
attribute [go_sem] jAn qUi jAv zTy zTw jAr zIw jAx jAo zIz jAs zTx zIu jAu jAt zIy jAw zNx zIx zTt zN4 jAq jAp jG2 zTp zEj zI0 zN3 zIv zNy zNz zN0 zNw zN1 zEi zTs zIt zTq zTv
attribute [go_sem] zHg qYx qUl zB2 zB0 qJt qOj qOi qP6 qOn zHd zBz zTo qXe zHc zTn qOm qSq qOh qSn qSo qOk qOg qSp qDx qF3 qP7 zB1 qUk qF2 qBv qUj zHf zHe qYw qYv qYu qJ1 qJu
 qNk qRo qCm qO9 zA rsQ
end Go.Eng
end
section
namespace Go.Eng
mutual
def V.ids:V→List Nat
 | .ref id _ _=>[id]
 | .bd _ id _ _=>[id]
 | .sl id _ _=>[id]
 | .agg cs=>qMx cs
 | .tup cs=>qMx cs
 | .fn _ cs=>qMx cs
 | _=>[]
def qMx:List V→List Nat
 | []=>[]
 | c::r=>c.ids++qMx r
end
theorem wV : ∀ {cs:List V} {c:V} {r:Nat},c∈cs→r∈c.ids→r∈qMx cs
 | x::cs,c,r,hc,hr=>by
  simp only[qMx,List.mem_append];simp only[List.mem_cons] at hc;rcases hc with rfl | hc
  ·exact .inl hr
  ·exact .inr (wV hc hr)
theorem zVv (ts:List T):qMx (ts.map .t)=[]:=by
 induction ts with
 | nil=>rfl
 | cons x r ih=>simp[qMx,V.ids,ih]
theorem qS.sub {β β':Nat→Option BI}{F:Nat→Prop}{w:World}{v:V}{x:Value}(h:qS β F w v x):(∀ i∈v.ids,∀ bi,β i=some bi→β' i=some bi)→qS β' F w v x:=by
 induction h with
 | t h=>intro _;exact .t h
 | nil=>intro _;exact .nil
 | ref id i f b sz room hb=>intro hs;exact .ref id i f b sz room (hs id (by simp[V.ids]) _ hb)
 | bd g id i f b sz room hb=>intro hs;exact .bd g id i f b sz room (hs id (by simp[V.ids]) _ hb)
 | bq b=>intro _;exact .bq b
 | ro cs a news ha hn h1 hF hw h=>intro _;exact .ro cs a news ha hn h1 hF hw h
 | sl id off len cap b sz room a hb hlc hr ha hs=>intro hsub;exact .sl id off len cap b sz room a (hsub id (by simp[V.ids]) _ hb) hlc hr ha hs
 | slv id sz room hb=>intro hsub;exact .slv id sz room (hsub id (by simp[V.ids]) _ hb)
 | agg cs vs hl h1 _ ih=>intro hs;exact .agg cs vs hl h1 (fun i c u hc hu=>ih i c u hc hu (fun k hk=>hs k (by simp only[V.ids];exact wV (List.mem_of_getElem? hc) hk)))
 | tup cs vs hl _ ih=>intro hs;exact .tup cs vs hl (fun i c u hc hu=>ih i c u hc hu (fun k hk=>hs k (by simp only[V.ids];exact wV (List.mem_of_getElem? hc) hk)))
 | fn f cs vs hl _ ih=>intro hs;exact .fn f cs vs hl (fun i c u hc hu=>ih i c u hc hu (fun k hk=>hs k (by simp only[V.ids];exact wV (List.mem_of_getElem? hc) hk)))
def Cv (hs:Hs)(ρ:Nat→Nat)(vt ks:List Nat)(v v':V):Prop:=
 ((v=v'.ren ρ ∨ ∃ l,(zK 4 v).run (jE hs)=some ((v'.ren ρ,[]),l)) ∧ ∀ i∈v'.ids,i∈ks)∨(v = .nil ∧ ∃ id,id∈vt∧v' = .sl id 0 0)
def CvO (hs:Hs)(ρ:Nat→Nat)(ks:List Nat):Ob→Ob→Prop
 | .live z es wr full,.live z' es' wr' full'=>z=z'∧wr=wr'∧(full'=true→full=true)∧(es=qFr ρ es' ∨ ∃ l,(qDo es).run (jE hs)=some ((qFr ρ es',[]),l)) ∧ ∀ i∈qMx es',i∈ks
 | _,.dead=>True
 | _,_=>False
def qWx (fs:Fs)(hs:Hs)(ρ:Nat→Nat)(vt ks:List Nat):Fs→Prop
 | []=>True
 | (t,v')::r=>(∃ v,jE fs t=some v∧Cv hs ρ vt ks v v')∧qWx fs hs ρ vt ks r
def jB3 (hs:Hs)(ρ:Nat→Nat)(ks:List Nat):Hs→Prop
 | []=>True
 | (i,o')::r=>((∃ o,jE hs (ρ i)=some o∧CvO hs ρ ks o o')∧(i<100→ρ i=i)∧(100≤i→100≤ρ i))∧jB3 hs ρ ks r
def VtW:Hs→Prop
 | []=>True
 | (i,o')::r=>((∃ z full,o' = .live z [] true full)∧100≤i)∧VtW r
theorem qWx.get {fs:Fs}{hs:Hs}{ρ:Nat→Nat}{vt ks:List Nat} : ∀ {fs':Fs},qWx fs hs ρ vt ks fs' → ∀ t v',jE fs' t=some v' → ∃ v,jE fs t=some v∧Cv hs ρ vt ks v v'
 | [],_,t,v',h=>by cases h
 | (k,u)::r,hw,t,v',h=>by
  simp only[jE] at h;split at h
  ·cases h;subst_vars;exact hw.1
  ·exact qWx.get hw.2 t v' h
theorem jB3.get {hs:Hs}{ρ:Nat→Nat}{ks:List Nat} : ∀ {hs':Hs},jB3 hs ρ ks hs' → ∀ i o',jE hs' i=some o'→(∃ o,jE hs (ρ i)=some o∧CvO hs ρ ks o o')∧(i<100→ρ i=i)∧(100≤i→100≤ρ i)
 | [],_,t,v',h=>by cases h
 | (k,u)::r,hw,t,v',h=>by
  simp only[jE] at h;split at h
  ·cases h;subst_vars;exact hw.1
  ·exact jB3.get hw.2 t v' h
theorem VtW.get : ∀ {hs':Hs},VtW hs' → ∀ i o',jE hs' i=some o'→(∃ z full,o' = .live z [] true full)∧100≤i
 | [],_,t,v',h=>by cases h
 | (k,u)::r,hw,t,v',h=>by
  simp only[jE] at h;split at h
  ·cases h;subst_vars;exact hw.1
  ·exact VtW.get hw.2 t v' h
def Ob.z:Ob→Nat
 | .live z _ _ _=>z
 | .dead=>0
theorem qFw {α:Type} : ∀ {l:List (Nat×α)} {i:Nat},i∈l.map (·.1) → ∃ o,jE l i=some o
 | (k,u)::r,i,h=>by
  simp only[jE];split
  ·exact⟨_,rfl⟩
  ·rename_i hne;simp only[List.map_cons,List.mem_cons] at h;rcases h with h | h
   ·exact absurd h.symm hne
   ·exact qFw h
theorem qAn {α:Type} : ∀ {l:List (Nat×α)} {i:Nat} {o:α},jE l i=some o→i∈l.map (·.1)
 | (k,u)::r,i,o,h=>by
  simp only[jE] at h;split at h
  ·subst_vars;simp
  ·simp[qAn h]
theorem qN5 {α:Type} : ∀ {l r:List (Nat×α)} {i:Nat},jE (l++r) i=match jE l i with | some o=>some o | none=>jE r i
 | [],r,i=>rfl
 | (k,u)::l,r,i=>by
  simp only[List.cons_append,jE];split
  ·rfl
  ·exact qN5
theorem qYe {β:Nat→Option BI}{F:Nat→Prop}:qSb β F []=F:=by
 funext b;apply propext;constructor
 ·intro h;rcases h with h | ⟨i,hi,_⟩
  ·exact h
  ·simp at hi
 ·exact .inl
variable {cx:Cx} {β:Nat→Option BI} {F:Nat→Prop} {a:Act} {w:World}
theorem zIe {fm:Nat→Option V}{hm:Nat→Option Ob}(R:Rel cx β F fm hm a w){es es':List V}{l:List Nat}(h:(qDo es).run hm=some ((es',[]),l)){sz:Nat}{c:Array Value}(hh:yT β F w es sz c):es'.length=es.length∧yT β F w es' sz c:=by
 unfold qDo at h;split at h
 ·obtain⟨e,_⟩:=qD h;cases e;exact⟨rfl,hh⟩
 ·obtain⟨g1,g2⟩:=yX h;refine⟨g1,fun i x hx=>?_⟩;have hi:i<es.length:=by rw[←g1];exact (List.getElem?_eq_some_iff.1 hx).1
  obtain⟨fzi,li,m1,m2⟩:=g2 i es[i] x (by simp[hi]) hx;obtain⟨k1,k2⟩:=hh i es[i] (by simp[hi]);by_cases hz:es[i].cells=[]
  ·
   have:x.cells=[]:=by
    cases hx0:es[i] with
    | t y=>
     rw[hx0] at m1 hz;obtain⟨e,_⟩:=qD (x:=(V.t y,([]:List Nat))) m1;cases e;exact hz
    | agg cs=>
     rw[hx0] at m1 hz;simp only[zK] at m1;obtain⟨p,l1,l2,hp,m1,_⟩:=qV m1;obtain⟨e,_⟩:=qD m1;cases e;have hcs:cs=[]:=hz;subst hcs;have:=(yX hp).1;rw[qSi];exact List.eq_nil_of_length_eq_zero this
    | _=>rw[hx0] at hz;simp[V.cells] at hz
   rw[this];rw[hz] at k1;exact⟨k1,by intro j y hy;simp at hy⟩
  ·obtain⟨q1,q2⟩:=zAl R m1 (fz':=[]) m2 hz (fun j y hy=>let ⟨u,_,b,d⟩:=k2 j y hy;⟨u,b,d⟩);refine⟨q1.trans k1,fun j y' hy'=>?_⟩;have hj:j<es[i].cells.length:=by rw[←q1];exact (List.getElem?_eq_some_iff.1 hy').1
   obtain⟨u,hu,hr,ho⟩:=k2 j (es[i].cells[j]'hj) (by simp[hj]);obtain⟨s1,_,_⟩:=q2 j (es[i].cells[j]'hj) y' u (by simp[hj]) hy' hr ho;rw[qYe] at s1;exact⟨u,hu,s1,ho⟩
theorem qK.of {fs fs':Fs}{hs hv ho:Hs}(ρ:Nat→Nat)(h1:qWx fs hs ρ (hv.map (·.1)) (ho.map (·.1)) fs')(h2:jB3 hs ρ (ho.map (·.1)) ho)(h3:VtW hv)(hdis : ∀ i∈hv.map (·.1),i ∉ ho.map (·.1))
  (hinj:((ho.map (·.1)).map ρ).Nodup) (hkeep : ∀ k∈hs.map (·.1),k<100→k∈ho.map (·.1)):qK fs hs fs' (hv++ho):=by
 intro cx β F a w R
 let β':Nat→Option BI:=fun i=>match jE hv i with
  | some o=>some ⟨none,o.z,0⟩
  | none=>match jE ho i with
   | some _=>β (ρ i)
   | none=>none
 have bv : ∀ i o,jE hv i=some o→β' i=some ⟨none,o.z,0⟩:=fun i o h=>by simp[β',h]
 have hvo : ∀ i,i∈ho.map (·.1)→jE hv i=none:=by
  intro i hi;cases h:jE hv i with
  | none=>rfl
  | some o=>exact absurd hi (hdis i (qAn h))
 have bo : ∀ i,i∈ho.map (·.1)→β' i=β (ρ i):=by
  intro i hi;obtain⟨o,h⟩:=qFw hi;simp[β',hvo i hi,h]
 have inj : ∀ i j,i∈ho.map (·.1)→j∈ho.map (·.1)→ρ i=ρ j→i=j:=by
  intro i j hi hj e;obtain⟨m,hm⟩:=List.getElem?_of_mem hi;obtain⟨n,hn⟩:=List.getElem?_of_mem hj;have hml:m<(ho.map (·.1)).length:=(List.getElem?_eq_some_iff.1 hm).1;have hnl:n<(ho.map (·.1)).length:=(List.getElem?_eq_some_iff.1 hn).1;have:=qAp hinj (i:=m) (j:=n) (by simpa using hml) (by simpa using hnl) (by
   have a1:(ho.map (·.1))[m]=i:=by rw[List.getElem?_eq_getElem hml] at hm;exact Option.some.inj hm
   have a2:(ho.map (·.1))[n]=j:=by rw[List.getElem?_eq_getElem hnl] at hn;exact Option.some.inj hn
   simp only[List.getElem_map] at a1 a2 ⊢;rw[a1,a2];exact e)
  subst this;rw[hm] at hn;exact Option.some.inj hn
 have val : ∀ {v v':V} {x:Value},qS β F w v x→Cv hs ρ (hv.map (·.1)) (ho.map (·.1)) v v'→qS β' F w v' x:=by
  intro v v' x hx hc;rcases hc with⟨hc,hids⟩ | ⟨rfl,id,hid,rfl⟩
  ·have h0:qS β F w (v'.ren ρ) x:=by
    rcases hc with hc | ⟨l,hc⟩
    ·rw[←hc];exact hx
    ·have:=wO R hc hx (fz':=[]) sM;rw[qYe] at this;exact this
   have h1:=h0.unren (ρ:=ρ) rfl;exact h1.sub (fun i hi bi hb=>by rw[bo i (hids i hi)];exact hb)
  ·obtain⟨o,ho'⟩:=qFw hid;cases hx;exact .slv id _ _ (bv id o ho')
 have ob : ∀ {bi:BI} {o o':Ob},qFo β F w bi o→CvO hs ρ (ho.map (·.1)) o o'→qFo β' F w bi o':=by
  intro bi o o' hok hc;cases o' with
  | dead=>trivial
  | live z' es' wr' full'=>
   cases o with
   | dead=>exact hc.elim
   | live z es wr full=>
    obtain⟨rfl,rfl,hfull,hes,hids⟩:=hc;have hren : ∀ {c:Array Value} {sz:Nat},yT β F w (qFr ρ es') sz c→yT β' F w es' sz c:=by
     intro c sz hh;have h1:=hh.unren;intro i x hx;obtain⟨k1,k2⟩:=h1 i x hx;refine⟨k1,fun j y hy=>?_⟩;obtain⟨u,g1,g2,g3⟩:=k2 j y hy;refine⟨u,g1,g2.sub (fun r hr bi hb=>?_),g3⟩;have hrx:r∈x.ids:=by
      cases x with
      | agg cs=>simp only[V.ids];exact wV (List.mem_of_getElem? hy) hr
      | t t=>
       obtain⟨c,_,rfl⟩:=xK hy;simp[V.ids] at hr
      | _=>
       simp only[V.cells] at hy;cases j with
       | zero=>simp at hy;subst hy;exact hr
       | succ j=>simp at hy
     rw[bo r (hids r (wV (List.mem_of_getElem? hx) hrx))];exact hb
    unfold qFo at hok ⊢;obtain⟨g1,g2,g3⟩:=hok;have hlen:es'.length=es.length ∧ ∀ {c:Array Value},yT β F w es bi.sz c→yT β' F w es' bi.sz c:=by
     rcases hes with rfl | ⟨l,hes⟩
     ·exact⟨by rw[zG];simp,fun hh=>hren hh⟩
     ·refine⟨?_,fun hh=>hren (zIe R hes hh).2⟩;have:(qFr ρ es').length=es.length:=by
       unfold qDo at hes;split at hes
       ·obtain⟨e,_⟩:=qD hes;simp only[Prod.mk.injEq] at e;rw[e.1]
       ·exact (yX hes).1
      rw[zG,List.length_map] at this;exact this
    refine⟨g1,fun h=>by rw[hlen.1];exact g2 (hfull h),?_⟩;cases hb:bi.blk with
    | none=>
     simp only[hb] at g3 ⊢;refine⟨?_,g3.2⟩;have:=hlen.1;rw[g3.1] at this;exact List.eq_nil_of_length_eq_zero this
    | some b=>
     simp only[hb] at g3 ⊢;obtain⟨c,e,fz,k1,k2,k3,k4,k5,k6,k7⟩:=g3;exact⟨c,e,fz,k1,k2,k3,by rw[hlen.1];exact k4,k5,hlen.2 k6,k7⟩
 have cases_ : ∀ id o',jE (hv++ho) id=some o'→(∃ z full,o' = .live z [] true full∧β' id=some ⟨none,z,0⟩∧100≤id)∨(id∈ho.map (·.1) ∧ ∃ o,jE hs (ρ id)=some o∧CvO hs ρ (ho.map (·.1)) o o'∧(id<100→ρ id=id)∧(100≤id→100≤ρ id)):=by
  intro id o' h;rw[qN5] at h;split at h
  ·rename_i o hvl;cases h;obtain⟨⟨z,full,rfl⟩,h100⟩:=h3.get id o' hvl;exact .inl ⟨z,full,rfl,bv id _ hvl,h100⟩
  ·obtain⟨⟨o,g1,g2⟩,g3,g4⟩:=h2.get id o' h;exact .inr ⟨qAn h,o,g1,g2,g3,g4⟩
 have notdead : ∀ {o o':Ob},CvO hs ρ (ho.map (·.1)) o o'→o'≠ .dead→o≠ .dead:=by
  intro o o' hc hd hd';subst hd';cases o' with
  | dead=>exact hd rfl
  | live _ _ _ _=>exact hc
 refine⟨β',F,R.tsz,R.dfr,fun t v' hv'=>?_,fun id o' ho'=>?_,fun id hn=>?_,fun i j bi bj b oi oj e1 e2 e3 e4 e5 e6 e7 e8=>?_,R.os,R.tape,R.output,R.size,R.ext,fun id z es full bi b e1 e2 e3=>?_,R.inF,R.inw,R.Fw,R.F0,fun id bi b e1 e2=>?_,fun g cs hg=>?_,fun k bi hk=>?_,R.gs⟩
 ·obtain⟨v,g1,g2⟩:=h1.get t v' hv';obtain⟨x,g3,g4⟩:=R.fr t v g1;exact⟨x,g3,val g4 g2⟩
 ·rcases cases_ id o' ho' with⟨z,full,rfl,hb,_⟩ | ⟨hm,o,g1,g2,_⟩
  ·exact⟨_,hb,rfl,fun _=>rfl,rfl,rfl⟩
  ·obtain⟨bi,g3,g4⟩:=R.hp _ o g1;exact⟨bi,by rw[bo id hm];exact g3,ob g4 g2⟩
 ·rw[qN5] at hn;split at hn
  ·cases hn
  ·rename_i hv0;simp[β',hv0,hn]
 ·rcases cases_ i oi e5 with⟨z,full,rfl,hb,_⟩ | ⟨hm,o,g1,g2,_⟩
  ·rw[hb] at e1;cases e1;cases e3
  ·rcases cases_ j oj e6 with⟨z,full,rfl,hb,_⟩ | ⟨hm',o',g1',g2',_⟩
   ·rw[hb] at e2;cases e2;cases e4
   ·rw[bo i hm] at e1;rw[bo j hm'] at e2;exact inj i j hm hm' (R.inj _ _ bi bj b o o' e1 e2 e3 e4 g1 g1' (notdead g2 e7) (notdead g2' e8))
 ·rcases cases_ id _ e1 with⟨z',full',_,hb,_⟩ | ⟨hm,o,g1,g2,g3,g4⟩
  ·rw[hb] at e2;cases e2;cases e3
  ·rw[bo id hm] at e2;cases o with
   | dead=>exact g2.elim
   | live z0 es0 wr0 full0=>
    obtain⟨_,rfl,_⟩:=g2;rcases R.old _ z0 es0 full0 bi b g1 e2 e3 with h | ⟨h,h'⟩
    ·exact .inl h
    ·refine .inr ⟨?_,h'⟩;rcases Nat.lt_or_ge id 100 with h7 | h7
     ·exact h7
     ·have:=g4 h7;omega
 ·cases hl:jE hv id with
  | some o=>rw[bv id o hl] at e1;cases e1;cases e2
  | none=>
   cases hl2:jE ho id with
   | none=>simp[β',hl,hl2] at e1
   | some o=>
    rw[bo id (qAn hl2)] at e1;exact R.blt _ bi b e1 e2
 ·have:=R.gl g cs hg;cases this with
  | ro _ ad news ha hn h1' hF hw h=>exact .ro cs _ news ha hn h1' hF hw h
 ·have hβ:=R.ext0 k bi hk;cases hl:jE hs k with
  | none=>rw[R.dom k hl] at hβ;cases hβ
  | some o=>
   have hk100:=cx.d0 k bi hk;have hm:=hkeep k (qAn hl) hk100;rw[bo k hm];obtain⟨o',ho'⟩:=qFw hm;rw[(h2.get k o' ho').2.1 hk100];exact hβ
end Go.Eng
end
section
namespace Go.Eng
variable {tab:Tab} {gl:Gl} {fs:Fs} {hs:Hs} {Qx:qFp}
def zR1 {ι:Type}(I:ι→Fs×Hs)(μ:ι→Nat)(i:ι)(Qx:qFp):qFp:=fun e fs' hs'=>match e with | .normal => ∃ j,μ j<μ i∧qK fs' hs' (I j).1 (I j).2 | e=>Qx e fs' hs'
theorem qJo {a:AC}{ι:Type}(I:ι→Fs×Hs)(μ:ι→Nat)(i0:ι)(h0:qK fs hs (I i0).1 (I i0).2)(h : ∀ i,a.wp tab gl (I i).1 (I i).2 (zR1 I μ i Qx)):qVs tab gl a fs hs Qx:=⟨ι,I,μ,i0,h0,h⟩
def upK (n:Nat)(fI:Nat→Fs)(hI:Nat→Hs)(i:Nat)(Qx:qFp):qFp:=fun e fs' hs'=>match e with | .normal=>i<n∧qK fs' hs' (fI (i+1)) (hI (i+1)) | e=>Qx e fs' hs'
theorem zJi {n:Nat}{fI:Nat→Fs}{hI:Nat→Hs}{i:Nat}:upK n fI hI i Qx .normal fs hs=(i<n∧qK fs hs (fI (i+1)) (hI (i+1))):=Eq.trans (Eq.refl _) rfl
theorem zUe {n:Nat}{fI:Nat→Fs}{hI:Nat→Hs}{i id:Nat}:upK n fI hI i Qx (.exit id) fs hs=Qx (.exit id) fs hs:=Eq.trans (Eq.refl _) rfl
theorem jBf {n:Nat}{fI:Nat→Fs}{hI:Nat→Hs}{i:Nat}:upK n fI hI i Qx .ret fs hs=Qx .ret fs hs:=Eq.trans (Eq.refl _) rfl
theorem qW2 {v:Option V}{A B A' B':Prop}(hA:A→A')(hB:B→B'):qId v A B→qId v A' B':=by
 unfold qId;split
 ·exact fun h=>⟨fun e=>hA (h.1 e),fun e=>hB (h.2 e)⟩
 ·exact id
theorem zHx {v:Option V}{A B A' B':Prop}(hA:A→A')(hB:B→B'):qRe v A B→qRe v A' B':=by
 unfold qRe;split
 ·exact fun h=>⟨hA h.1,hB h.2⟩
 ·exact qW2 hA hB
theorem zV {a:AC} : ∀ {fs:Fs} {hs:Hs} {Q Q':qFp},(∀ e f h,Q e f h→Q' e f h)→a.wp tab gl fs hs Q→a.wp tab gl fs hs Q':=by
 induction a with
 | skip=>intro fs hs Q Q' h hw;exact h _ _ _ hw
 | ret=>intro fs hs Q Q' h hw;exact h _ _ _ hw
 | exit id=>intro fs hs Q Q' h hw;exact h _ _ _ hw
 | seq a b iha ihb=>
  intro fs hs Q Q' h hw;refine iha (fun e f g hq=>?_) hw;cases e with
  | normal=>exact ihb h hq
  | exit id=>exact h _ _ _ hq
  | ret=>exact h _ _ _ hq
 | cond c a b iha ihb=>
  intro fs hs Q Q' h hw;exact qW2 (iha h) (ihb h) hw
 | condb c a b iha ihb=>
  intro fs hs Q Q' h hw;exact zHx (iha h) (ihb h) hw
 | block id a ih=>
  intro fs hs Q Q' h hw;refine ih (fun e f g hq=>?_) hw;cases e with
  | normal=>exact h _ _ _ hq
  | exit id'=>
   simp only at hq ⊢;split
   ·rename_i h1;rw[if_pos h1] at hq;exact h _ _ _ hq
   ·rename_i h1;rw[if_neg h1] at hq;exact h _ _ _ hq
  | ret=>exact h _ _ _ hq
 | loop a ih=>
  intro fs hs Q Q' h hw;obtain⟨ι,I,μ,i0,h0,hr⟩:=hw;refine⟨ι,I,μ,i0,h0,fun i=>ih (fun e f g hq=>?_) (hr i)⟩;cases e with
  | normal=>exact hq
  | exit id=>exact h _ _ _ hq
  | ret=>exact h _ _ _ hq
 | reg nb anc ops=>
  intro fs hs Q Q' h hw;have key : ∀ (ops:List zS) (nb:Nat) (fs:Fs) (hs:Hs) (acc:List (List Nat×List Nat)) (K K':Fs→Hs→List (List Nat×List Nat)→Prop),(∀ f g c,K f g c→K' f g c)→zAa tab gl ops nb fs hs acc K→zAa tab gl ops nb fs hs acc K':=by
   intro ops
   induction ops with
   | nil=>intro nb fs hs acc K K' h hw;exact h _ _ _ hw
   | cons o r ih=>
    intro nb fs hs acc K K' h hw;obtain⟨x,l,h1,h2⟩:=hw;exact⟨x,l,h1,ih _ _ _ _ _ _ h h2⟩
  exact key ops nb fs hs [] _ _ (fun f g c hq=>⟨hq.1,h _ _ _ hq.2⟩) hw
theorem qB {a:AC}(n:Nat)(fI:Nat→Fs)(hI:Nat→Hs)(h0:qK fs hs (fI 0) (hI 0))(h : ∀ i,i≤n→a.wp tab gl (fI i) (hI i) (upK n fI hI i Qx)):qVs tab gl a fs hs Qx:=by
 refine qJo (ι := { i:Nat // i≤n }) (fun i=>(fI i.1,hI i.1)) (fun i=>n-i.1) ⟨0,Nat.zero_le _⟩ h0 (fun i=>?_);refine zV (fun e f g hq=>?_) (h i.1 i.2);cases e with
 | normal=>exact⟨⟨i.1+1,hq.1⟩,by simp only;have:=hq.1;omega,hq.2⟩
 | exit id=>exact hq
 | ret=>exact hq
theorem zU6 {ts:List T}:qD1 (ts.map .t)=some ts:=by
 induction ts with
 | nil=>rfl
 | cons x r ih=>simp[qD1,ih]
theorem zPv:qD1 []=some []:=Eq.trans (Eq.refl _) rfl
theorem qS2 {x:T}{r:List V}:qD1 (.t x::r)=(qD1 r).map (x :: ·):=Eq.trans (Eq.refl _) rfl
theorem zPw {id i f:Nat}{r:List V}:qD1 (.ref id i f::r)=none:=Eq.trans (Eq.refl _) rfl
theorem zXe {g id i f:Nat}{r:List V}:qD1 (.bd g id i f::r)=none:=Eq.trans (Eq.refl _) rfl
theorem zXf {r:List V}:qD1 (.bq::r)=none:=Eq.trans (Eq.refl _) rfl
attribute [go_sem] zXf
attribute [go_sem] zXe
theorem zXi {id i f:Nat}{r:List V}:qD1 (.sl id i f::r)=none:=Eq.trans (Eq.refl _) rfl
theorem zKa {r:List V}:qD1 (.nil::r)=none:=Eq.trans (Eq.refl _) rfl
theorem zPt {cs r:List V}:qD1 (.agg cs::r)=none:=Eq.trans (Eq.refl _) rfl
theorem zXh {cs:List T}{r:List V}:qD1 (.ro cs::r)=none:=Eq.trans (Eq.refl _) rfl
theorem zXg {f:FuncId}{cs r:List V}:qD1 (.fn f cs::r)=none:=Eq.trans (Eq.refl _) rfl
theorem zR8 {α γ:Type}{f:α→γ}:Option.map f none=none:=Eq.trans (Eq.refl _) rfl
theorem jFa {cs:List V}:V.mk cs=match qD1 cs with | some ts=> .t (.agg ts) | none=> .agg cs:=Eq.trans (Eq.refl _) rfl
theorem zKt {g:V→Q (V×List Nat)}:qDp g [] = .ret ([],[]):=Eq.trans (Eq.refl _) rfl
theorem qJw {g:V→Q (V×List Nat)}{c:V}{r:List V}:qDp g (c::r)=(g c).bind fun p=>(qDp g r).bind fun q=> .ret (p.1::q.1,p.2++q.2):=Eq.trans (Eq.refl _) rfl
theorem zKw {n:Nat}{x:T}:zK n (.t x) = .ret (.t x,[]):=by cases n<;>rfl
theorem zQl {n:Nat}:zK n .nil = .ret (.t (.sl []),[]):=by cases n<;>rfl
theorem zXy {n:Nat}{cs:List T}:zK n (.ro cs) = .ret (.ro cs,[]):=by cases n<;>rfl
theorem zQm {n id i f:Nat}:zK n (.ref id i f) = .ret (.ref id i f,[]):=by cases n<;>rfl
theorem zXw {n g id i f:Nat}:zK n (.bd g id i f) = .ret (.bd g id i f,[]):=by cases n<;>rfl
attribute [go_sem] zXw
theorem zQk {n:Nat}{cs:List V}:zK (n+1) (.agg cs)=(qDp (zK n) cs).bind fun p=> .ret (V.mk p.1,p.2):=Eq.trans (Eq.refl _) rfl
theorem zXx {n:Nat}{f:FuncId}{cs:List V}:zK (n+1) (.fn f cs)=(qDp (zK n) cs).bind fun p=> .ret (.fn f p.1,p.2):=Eq.trans (Eq.refl _) rfl
theorem zXz {n id off len:Nat}:zK (n+1) (.sl id off len) = .get id fun
  | .live _ es wr _=>Q.assert (off+len≤es.length)
   (match qD1 es with
   | some ts=> .ret (.t (.sl ((ts.drop off).take len)),if wr then [id] else [])
   | none=>(qDp (zK n) es).bind fun p=>match qD1 p.1 with
    | some ts=> .ret (.t (.sl ((ts.drop off).take len)),if wr then id::p.2 else p.2)
    | none=> .fail)
  | .dead=> .fail:=Eq.trans (Eq.refl _) rfl
theorem zIb {n:Nat}{ids:List Nat}{obs:List Ob}{fz:List Nat}:qBq n [] ids obs fz = .ret (ids,obs,fz):=by cases n<;>rfl
theorem zDx {n id:Nat}{todo ids:List Nat}{obs:List Ob}{fz:List Nat}:qBq (n+1) (id::todo) ids obs fz=if ids.contains id then qBq n todo ids obs fz else
  .get id fun
   | .live z es true full=>(qDo es).bind fun p=>qBq n (todo++(match qD1 es with | some _=>[] | none=>qAv p.1)) (ids++[id]) (obs++[.live z p.1 true full]) (fz++p.2)
   | _=> .fail:=Eq.trans (Eq.refl _) rfl
theorem zRc:qW5 [] = .ret []:=Eq.trans (Eq.refl _) rfl
theorem zLz {id:Nat}{r:List Nat}:qW5 (id::r) = .get id fun
  | .live z es true full=>Q.assert (100≤id) ((qW5 r).bind fun q=> .ret ((id,.live z es false full)::q))
  | _=> .fail:=Eq.trans (Eq.refl _) rfl
theorem zH9 {α:Type}{nb:Nat}{k:Q α}:zDw nb 0 k=k:=Eq.trans (Eq.refl _) rfl
theorem zH8 {α:Type}{nb n:Nat}{k:Q α}:zDw nb (n+1) k = .free nb (zDw (nb+1) n k):=Eq.trans (Eq.refl _) rfl
theorem zYm {ids:List Nat}{nb k:Nat}:gam ids nb k=match ids[k]? with | some id=>id | none=>nb+(k-ids.length):=Eq.trans (Eq.refl _) rfl
theorem zMz {ids:List Nat}{nb k:Nat}:qMz ids nb k []=[]:=Eq.trans (Eq.refl _) rfl
theorem zIl {ids:List Nat}{nb k:Nat}{o:Ob}{r:List Ob}:qMz ids nb k (o::r)=(gam ids nb k,o.ren (gam ids nb))::qMz ids nb (k+1) r:=Eq.trans (Eq.refl _) rfl
theorem zS7 {ρ:Nat→Nat}{z:Nat}{es:List V}{wr full:Bool}:(Ob.live z es wr full).ren ρ = .live z (qFr ρ es) wr full:=Eq.trans (Eq.refl _) rfl
theorem jGh {ρ:Nat→Nat}{x:T}:(V.t x).ren ρ = .t x:=Eq.trans (Eq.refl _) rfl
theorem zS4 {ρ:Nat→Nat}:V.nil.ren ρ = .nil:=Eq.trans (Eq.refl _) rfl
theorem zS5 {ρ:Nat→Nat}{id i f:Nat}:(V.ref id i f).ren ρ = .ref (ρ id) i f:=Eq.trans (Eq.refl _) rfl
theorem zZ4 {ρ:Nat→Nat}{g id i f:Nat}:(V.bd g id i f).ren ρ = .bd g (ρ id) i f:=Eq.trans (Eq.refl _) rfl
theorem zZ5 {ρ:Nat→Nat}:V.bq.ren ρ = .bq:=Eq.trans (Eq.refl _) rfl
attribute [go_sem] zZ5
attribute [go_sem] zZ4
theorem zZ7 {ρ:Nat→Nat}{cs:List T}:(V.ro cs).ren ρ = .ro cs:=Eq.trans (Eq.refl _) rfl
theorem zZ8 {ρ:Nat→Nat}{id i f:Nat}:(V.sl id i f).ren ρ = .sl (ρ id) i f:=Eq.trans (Eq.refl _) rfl
theorem zS3 {ρ:Nat→Nat}{cs:List V}:(V.agg cs).ren ρ = .agg (qFr ρ cs):=Eq.trans (Eq.refl _) rfl
theorem zS6 {ρ:Nat→Nat}{cs:List V}:(V.tup cs).ren ρ = .tup (qFr ρ cs):=Eq.trans (Eq.refl _) rfl
theorem zZ6 {ρ:Nat→Nat}{f:FuncId}{cs:List V}:(V.fn f cs).ren ρ = .fn f (qFr ρ cs):=Eq.trans (Eq.refl _) rfl
theorem zS2 {ρ:Nat→Nat}:qFr ρ []=[]:=Eq.trans (Eq.refl _) rfl
theorem zNb {ρ:Nat→Nat}{c:V}{r:List V}:qFr ρ (c::r)=c.ren ρ::qFr ρ r:=Eq.trans (Eq.refl _) rfl
theorem zM7:qAv []=[]:=Eq.trans (Eq.refl _) rfl
theorem zIn {c:V}{r:List V}:qAv (c::r)=c.refs++qAv r:=Eq.trans (Eq.refl _) rfl
theorem jGf {x:T}:(V.t x).refs=[]:=Eq.trans (Eq.refl _) rfl
theorem zZ2 {cs:List T}:(V.ro cs).refs=[]:=Eq.trans (Eq.refl _) rfl
theorem zSy:V.nil.refs=[]:=Eq.trans (Eq.refl _) rfl
theorem zZ3 {id i f:Nat}:(V.sl id i f).refs=[]:=Eq.trans (Eq.refl _) rfl
theorem zSz {id i f:Nat}:(V.ref id i f).refs=[id]:=Eq.trans (Eq.refl _) rfl
theorem zZz {g id i f:Nat}:(V.bd g id i f).refs=[id]:=Eq.trans (Eq.refl _) rfl
theorem zZ0:V.bq.refs=[]:=Eq.trans (Eq.refl _) rfl
attribute [go_sem] zZ0
attribute [go_sem] zZz
theorem zSx {cs:List V}:(V.agg cs).refs=qAv cs:=Eq.trans (Eq.refl _) rfl
theorem zS0 {cs:List V}:(V.tup cs).refs=qAv cs:=Eq.trans (Eq.refl _) rfl
theorem zZ1 {f:FuncId}{cs:List V}:(V.fn f cs).refs=qAv cs:=Eq.trans (Eq.refl _) rfl
theorem zRi:qMx []=[]:=Eq.trans (Eq.refl _) rfl
theorem zL7 {c:V}{r:List V}:qMx (c::r)=c.ids++qMx r:=Eq.trans (Eq.refl _) rfl
theorem jKw {x:T}:(V.t x).ids=[]:=Eq.trans (Eq.refl _) rfl
theorem jEi {cs:List T}:(V.ro cs).ids=[]:=Eq.trans (Eq.refl _) rfl
theorem zYq:V.nil.ids=[]:=Eq.trans (Eq.refl _) rfl
theorem jEj {id i f:Nat}:(V.sl id i f).ids=[id]:=Eq.trans (Eq.refl _) rfl
theorem zYr {id i f:Nat}:(V.ref id i f).ids=[id]:=Eq.trans (Eq.refl _) rfl
theorem jEf {g id i f:Nat}:(V.bd g id i f).ids=[id]:=Eq.trans (Eq.refl _) rfl
theorem jEg:V.bq.ids=[]:=Eq.trans (Eq.refl _) rfl
attribute [go_sem] jEg
attribute [go_sem] jEf
theorem zYp {cs:List V}:(V.agg cs).ids=qMx cs:=Eq.trans (Eq.refl _) rfl
theorem zYs {cs:List V}:(V.tup cs).ids=qMx cs:=Eq.trans (Eq.refl _) rfl
theorem jEh {f:FuncId}{cs:List V}:(V.fn f cs).ids=qMx cs:=Eq.trans (Eq.refl _) rfl
theorem zQj {ts:List T}:qDo (ts.map .t) = .ret (ts.map .t,[]):=by simp[qDo,zU6]
theorem zTa {x:V}:zWj [x]=x:=Eq.trans (Eq.refl _) rfl
theorem zS9:zWj [] = .tup []:=Eq.trans (Eq.refl _) rfl
theorem zTb {x y:V}{r:List V}:zWj (x::y::r) = .tup (x::y::r):=Eq.trans (Eq.refl _) rfl
theorem zR0 {f g:FuncId}{s:FnS}{r:Tab}:Tab.look ((g,s)::r) f=if g=f then some s else Tab.look r f:=Eq.trans (Eq.refl _) rfl
theorem jDy {x:T}:(V.t x).flat=x.flat:=Eq.trans (Eq.refl _) rfl
theorem zQ1 {k:IntKind}{n:Int}:(T.int k n).flat=true:=Eq.trans (Eq.refl _) rfl
theorem zLl {b:Bool}:(T.bool b).flat=true:=Eq.trans (Eq.refl _) rfl
theorem zQ2 {s:ByteArray}:(T.str s).flat=true:=Eq.trans (Eq.refl _) rfl
theorem zLi:zDu []=true:=Eq.trans (Eq.refl _) rfl
theorem zH5 {o:Ob}{r:List Ob}:zDu (o::r)=(o.flat&&zDu r):=Eq.trans (Eq.refl _) rfl
theorem zTd {n:Nat}{vs:List V}:jJj n vs=(qDp (zK 4) vs).bind fun p=>(qBq (12+n) (List.range n++qAv p.1) [] [] []).bind fun q=>
  Q.assert ((q.1.all fun i => !(p.2++q.2.2).contains i)=true) ((qW5 (p.2++q.2.2)).bind fun _=> .ret (zWj (qFr (fun r=>q.1.idxOf r) p.1),q.2.1.map (Ob.ren fun r=>q.1.idxOf r))):=Eq.trans (Eq.refl _) rfl
theorem zKm {f:FuncId}{keep:Bool}{vs:List V}{nb:Nat}:qVo tab f keep vs nb=(qTc keep vs).bind fun cp=>
  (Q.of ((tab.look f).bind fun s=>s (qFr (fun r=>cp.ids.idxOf r) cp.aS) (cp.obs.map (Ob.ren fun r=>cp.ids.idxOf r)))).bind fun p=>
   Q.assert (cp.ids.length≤p.2.length∧(keep=true∨p.1.flat=true∧zDu p.2=true))
    (zDw nb (p.2.length-cp.ids.length) (.ret (p.1.ren (gam cp.ids nb),(if keep then cp.fw else [])++qMz cp.ids nb 0 p.2))):=Eq.trans (Eq.refl _) rfl
theorem zDg {keep:Bool}{vs:List V}:qTc keep vs=(qDp (zK 4) vs).bind fun p=>(qBq 12 (qAv p.1) [] [] []).bind fun q=>
  Q.assert ((keep=true∨q.2.2=[])∧(q.1.all fun i => !(p.2++q.2.2).contains i)=true) ((qW5 (p.2++q.2.2)).bind fun fw=> .ret ⟨p.1,q.1,q.2.1,p.2++q.2.2,fw⟩):=Eq.trans (Eq.refl _) rfl
attribute [go_sem] zJi zUe jBf zU6 zPv qS2 zPw zXi zKa zPt zXh zXg zR8 jFa zKt qJw zKw zQl zXy zQm zQk zXx zXz zIb zDx
 zRc zLz zH9 zH8 zYm zMz zIl zS7 jGh zS4 zS5 zZ7 zZ8 zS3 zS6 zZ6 zS2 zNb zWg zM7 zIn jGf zZ2 zSy zZ3 zSz zSx zS0 zZ1
 zQj zTa zS9 zTb zR0 jDy zQ1 zLl zQ2 zLi zH5 zTd zKm zDg zM8
attribute [go_sem] List.length_cons List.length_nil List.map_cons List.map_nil List.getElem?_cons_zero List.getElem?_cons_succ List.getElem?_nil List.take_succ_cons List.take_zero List.take_nil List.drop_succ_cons List.drop_zero List.drop_nil List.set_cons_zero List.set_cons_succ
 List.range_zero List.all_nil List.all_cons List.length_map Bool.and_true Bool.true_and List.length_replicate
theorem jJ1 {b:Bool}:(b==true)=b:=by cases b<;>rfl
theorem jJ0 {b:Bool}:(b==false) = !b:=by cases b<;>rfl
attribute [go_sem] zRi zL7 jKw jEi zYq jEj zYr zYp zYs jEh zVv jJ1 jJ0 decide_true decide_false Bool.not_true Bool.not_false
end Go.Eng
end
