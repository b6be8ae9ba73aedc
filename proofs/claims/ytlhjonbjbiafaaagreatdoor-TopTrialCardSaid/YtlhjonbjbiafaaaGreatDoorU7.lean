/- A part of an abstract machine, its walks, their tie. -/
import Derived.Test.YtlhjonbjbiafaaaGreatDoorU6
set_option linter.all false
section
namespace Go.Eng
theorem qPg {hm:Nat→Option Ob} : ∀ {n:Nat} {todo ids:List Nat} {obs:List Ob} {fz ids':List Nat} {obs':List Ob} {fz' l:List Nat},(qBz n todo ids obs fz).run hm=some ((ids',obs',fz'),l) → ∃ s,ids'=ids++s
 | n,[],ids,obs,fz,ids',obs',fz',l,h=>by
  have h':(Q.ret (ids,obs,fz):Q _).run hm=some ((ids',obs',fz'),l):=by cases n<;>exact h
  obtain⟨e,_⟩:=qE h';cases e;exact⟨[],sM⟩
 | 0,_::_,ids,obs,fz,ids',obs',fz',l,h=>by cases h
 | n+1,id::todo,ids,obs,fz,ids',obs',fz',l,h=>by
  simp only[qBz] at h;split at h
  ·exact qPg h
  ·obtain⟨o,l',ho,hs2,_⟩:=vF h;cases o with
   | dead=>cases hs2
   | live z es wr full=>
    cases wr with
    | false=>cases hs2
    | true=>
     obtain⟨p,l1,l2,hp,hs3,_⟩:=zA hs2;obtain⟨s,hs⟩:=qPg hs3;exact⟨id::s,by rw[hs];simp⟩
theorem qQl {hm:Nat→Option Ob} : ∀ {m n s:Nat} {rest:List Nat} {obs:List Ob} {fz ids':List Nat} {obs':List Ob} {fz' l:List Nat},(qBz n (List.range' s m++rest) (List.range s) obs fz).run hm=some ((ids',obs',fz'),l) → ∃ t,ids'=List.range (s+m)++t
 | 0,n,s,rest,obs,fz,ids',obs',fz',l,h=>by
  obtain⟨t,ht⟩:=qPg h;exact⟨t,ht⟩
 | m+1,n,s,rest,obs,fz,ids',obs',fz',l,h=>by
  cases n with
  | zero=>rw[List.range'_succ] at h;cases h
  | succ n=>
   rw[List.range'_succ,List.cons_append] at h;simp only[qBz] at h;split at h
   ·rename_i hc;simp at hc
   ·obtain⟨o,l',ho,hs2,_⟩:=vF h;cases o with
    | dead=>cases hs2
    | live z es wr full=>
     cases wr with
     | false=>cases hs2
     | true=>
      obtain⟨p,l1,l2,hp,hs3,_⟩:=zA hs2;rw[←List.range_succ,List.append_assoc] at hs3;obtain⟨t,ht⟩:=qQl hs3;exact⟨t,by rw[ht];congr 2;omega⟩
def zWd:List V→V
 | [x]=>x
 | xs=> .tup xs
def jIs (n:Nat)(vs:List V):Q (V×List Ob):=
 (qDp (zJ 4) vs).bind fun p=>(qBz (12+n) (List.range n++qA6 p.1) [] [] []).bind fun q=>
  Q.assert ((q.1.all fun i => !(p.2++q.2.2).contains i)=true) ((qYc (p.2++q.2.2)).bind fun _=> .ret (zWd (qF0 (fun r=>q.1.idxOf r) p.1),q.2.1.map (Ob.ren fun r=>q.1.idxOf r)))
def rsQ (fs:Fs):List (Nat×Option (Nat×Bool))→Q (List V)
 | []=> .ret []
 | (t,none)::r=>(Q.of (jQ fs t)).bind fun v=>(rsQ fs r).bind fun vs=> .ret (v::vs)
 | (t,some (n,agg))::r=>(Q.of (jQ fs t)).bind fun v=>(qPq n agg [v]).bind fun p=>(rsQ fs r).bind fun vs=> .ret (p.1::vs)
def zD (rs:List (Nat×Option (Nat×Bool)))(n:Nat)(R:V→List Ob→Prop):qFz:=fun e fs hs=>
 match e with
 | .exit _=>False
 | _=>((rsQ fs rs).bind fun vs=>jIs n vs).wp hs (fun p _=>R p.1 p.2)
def qF {α:Type}:Nat→List α→List (Nat×α)
 | _,[]=>[]
 | i,x::r=>(i,x)::qF (i+1) r
theorem qDs {α:Type} : ∀ {l:List α} {i t:Nat},jQ (qF i l) t=if i≤t then l[t-i]? else none
 | [],i,t=>by simp[qF,jQ]
 | x::r,i,t=>by
  simp only[qF,jQ];by_cases h:i=t
  ·subst h;simp
  ·rw[if_neg h,qDs];by_cases h1:i≤t
   ·have h2:i+1≤t:=oM;rw[if_pos h1,if_pos h2,show t-i=(t-(i+1))+1 by omega];simp
   ·have h2 : ¬ i+1≤t:=oM;rw[if_neg h1,if_neg h2]
def zBy (vs:List Value):Value:=match vs with
 | [x]=>x
 | xs=> .tuple xs.toArray
def qNt (P:Program):List ResultVar→Option (List (Nat×Option (Nat×Bool)))
 | []=>some []
 | .tmp t::r=>(qNt P r).map fun l=>(t,none)::l
 | .cell a t::r=>match P.info? t,P.underlying t with
  | some i,some d=>if vS d∨i.size=1 then (qNt P r).map fun l=>(a,some (i.size,vS d))::l else none
  | _,_=>none
def zWc (tmps:Array Value):ResultVar→Sem Value
 | .tmp t=>pure (tmps.getD t undef)
 | .cell a t=>do loadVar t (←asAddr (tmps.getD a undef))
theorem qR5 {cx:Cx}{β:Nat→Option BI}{F:Nat→Prop}{fs:Fs}{hs:Hs}{a:Act}{w:World}(R:Rel cx β F (jQ fs) (jQ hs) a w) : ∀ {rv:List ResultVar} {rs:List (Nat×Option (Nat×Bool))} {vs:List V} {l:List Nat},qNt cx.P rv=some rs→(rsQ fs rs).run (jQ hs)=some (vs,l)→
  ∃ xs,(rv.mapM (zWc a.tmps)).run cx.P w = .ok xs w∧qAg (qV β F w) vs xs
 | [],rs,vs,l,h,hq=>by
  cases h;obtain⟨rfl,_⟩:=qE hq;exact⟨[],sM,.nil⟩
 | .tmp t::r,rs,vs,l,h,hq=>by
  simp only[qNt,Option.map_eq_some_iff] at h;obtain⟨rs',hrs,rfl⟩:=h;simp only[rsQ] at hq;obtain⟨v,hv,hq⟩:=qI hq;obtain⟨us,l1,l2,hu,hq,_⟩:=zA hq;obtain⟨rfl,_⟩:=qE hq;obtain⟨x,h1,h2⟩:=R.fr t v hv;obtain⟨xs,h3,h4⟩:=qR5 R hrs hu;refine⟨x::xs,?_,.cons h2 h4⟩;rw[List.mapM_cons,Sem.run_bind];have e:(zWc a.tmps (.tmp t)).run cx.P w = .ok x w:=by simp[zWc,h1]
  rw[e,Result.andThen];simp only[Sem.run_bind,h3,Result.andThen];simp
 | .cell t ty::r,rs,vs,l,h,hq=>by
  simp only[qNt] at h;split at h
  ·rename_i i d hi hd;split at h
   ·rename_i hcond;simp only[Option.map_eq_some_iff] at h;obtain⟨rs',hrs,rfl⟩:=h;simp only[rsQ] at hq;obtain⟨v,hv,hq⟩:=qI hq;obtain⟨⟨u,W⟩,l0,l3,hl,hq,_⟩:=zA hq;obtain⟨us,l1,l2,hu,hq,_⟩:=zA hq;obtain⟨rfl,_⟩:=qE hq;obtain⟨x,h1,h2⟩:=R.fr t v hv;obtain⟨xs,h3,h4⟩:=qR5 R hrs hu;have hx:a.eval (.tmp t)=x:=by simp[Act.eval,h1]
    have han:qO2 cx.P ty (.tmp t)=some (.load i.size (vS d),[.tmp t]):=by simp[qO2,hi,hd,hcond]
    obtain⟨_,y,h5,h6⟩:=zNz (nb:=0) R han (vs:=[v]) (.cons (by rw[hx];exact h2) .nil) (by simpa [sem] using hl);rw[hx] at h5;have hptr : ∃ ad,x = .pointer (some ad):=by
     cases v<;>simp only[qPq] at hl<;>(try (cases hl;done))
     ·cases h2;exact⟨_,rfl⟩
     ·cases h2;exact⟨_,rfl⟩
    obtain⟨ad,rfl⟩:=hptr;refine⟨y::xs,?_,.cons h6 h4⟩;rw[List.mapM_cons,Sem.run_bind];have e:(zWc a.tmps (.cell t ty)).run cx.P w = .ok y w:=by
     have e0:a.tmps.getD t undef = .pointer (some ad):=by simp[h1]
     rw[←h5];simp only[zWc,e0,Instr.loadAt,Instr.sureAddr,asAddr]
    rw[e,Result.andThen];simp only[Sem.run_bind,h3,Result.andThen];simp
   ·cases h
  ·cases h
theorem qT5 {P:Program}{fn:Func}{tmps:Array Value}{w:World}{xs:List Value}(h:(fn.results.toList.mapM (zWc tmps)).run P w = .ok xs w):(results fn tmps).run P w = .ok (zBy xs) w:=by
 have e:results fn tmps=(do
   let vs ←fn.results.mapM (zWc tmps)
   pure (if h:vs.size=1 then vs[0] else .tuple vs)):=by
  unfold results;congr 1
 rw[e,Array.mapM_eq_mapM_toList,Sem.run_bind];have k2:(Functor.map List.toArray (fn.results.toList.mapM (zWc tmps))).run P w = .ok xs.toArray w:=by
  rw[map_eq_pure_bind,Sem.run_bind,h,Result.andThen];simp
 rw[k2,Result.andThen];cases xs with
 | nil=>simp[zBy]
 | cons t r=>cases r with
  | nil=>simp[zBy]
  | cons t2 r=>simp[zBy]
theorem zBz {β:Nat→Option BI}{F:Nat→Prop}{w:World}{vs:List V}{us:List Value}(h:qAg (qV β F w) vs us):qV β F w (zWd vs) (zBy us):=by
 have tup:qV β F w (.tup vs) (.tuple us.toArray):=by
  refine .tup vs _ (by simpa using h.length.symm) (fun i c u hc hu=>?_);obtain⟨y,h1,h2⟩:=h.get' i c hc;have:us[i]?=some u:=by simpa using hu
  rw[this] at h1;cases h1;exact h2
 cases h with
 | nil=>exact tup
 | cons h1 t=>cases t with
  | nil=>exact h1
  | cons h2 t=>exact tup
theorem zE6 {P:Program}{G:Gl}{tab:Tab}{f:FuncId}{fn:Func}{c:Code}{ac:AC}{hints:List (Nat×List Nat)}{rs:List (Nat×Option (Nat×Bool))}(hf:P.funcs[f]?=some fn)(hb:fn.body=some c)(hann:ann P fn.ntmps hints c=some ac)(hmx:P.follows .mixedOrders=true)
  (ht:qFl P G tab) (hrs:qNt P fn.results.toList=some rs) {aS:List V} {ins:List Ob} {r:V} {outs:List Ob} (hn:aS.length≤fn.ntmps) (hi:ins.length≤100)
  (h:ac.wp tab G (qF 0 aS) (qF 0 ins) (zD rs ins.length (fun r' outs'=>r'=r∧outs'=outs))):zDf P G f aS ins r outs:=by
 intro w β F vals env fits hargs;have hd0 : ∀ k bi,β k=some bi→k<100:=by
  intro k bi h;rcases Nat.lt_or_ge k ins.length with h1 | h1
  ·omega
  ·rw[fits.dom k h1] at h;cases h
 let cx:Cx := { P,w0:=w,F0:=F,inb:=fun b => ∃ k bi,β k=some bi∧bi.blk=some b,nt:=fn.ntmps,gl:=G,β0:=β,d0:=hd0 }
 have hlen:aS.length=vals.size:=by simpa using hargs.length
 have lookAs : ∀ t v,jQ (qF 0 aS) t=some v→aS[t]?=some v:=by
  intro t v h;simpa [qDs] using h
 have lookIns : ∀ t v,jQ (qF 0 ins) t=some v→ins[t]?=some v:=by
  intro t v h;simpa [qDs] using h
 have R0:Rel cx β F (jQ (qF 0 aS)) (jQ (qF 0 ins)) { tmps:=vals++Array.replicate (fn.ntmps-vals.size) undef,defers:=[] } w:=by
  refine⟨by simp[cx];omega,rfl,fun t v hv=>?_,fun id o ho=>?_,fun id hn=>?_,fun i j bi bj b oi oj h1 h2 h3 h4 _ _ _ _=>fits.inj i j bi bj b h1 h2 h3 h4,rfl,rfl,rfl,Nat.le_refl _,fun _ _ _=>rfl,fun id z es full bi b h1 h2 h3=> .inr ⟨?_,id,bi,h2,h3⟩,fun b hb=>?_,fun b hb=>?_,env.Fw,fun _ _=>Iff.rfl,fun id bi b h1 h2=>(fits.blt id bi b h1 h2).1,fun g cs hg=>?_,fun _ _ h=>h,env.gs⟩
  ·obtain⟨x,h1,h2⟩:=hargs.get' t v (lookAs t v hv);refine⟨x,?_,h2⟩;have hlt:t<vals.size:=by
    have:=(List.getElem?_eq_some_iff.1 (lookAs t v hv)).1;omega
   rw[Array.getElem?_append_left hlt];simpa using h1
  ·obtain⟨bi,h1,h2,_⟩:=fits.ok id o (lookIns id o ho);exact⟨bi,h1,h2⟩
  ·refine fits.dom id ?_;rcases Nat.lt_or_ge id ins.length with h1 | h1
   ·rw[qDs] at hn;simp[h1] at hn
   ·exact h1
  ·have:=(List.getElem?_eq_some_iff.1 (lookIns id _ h1)).1;omega
  ·obtain⟨k,bi,h1,h2⟩:=hb;exact (fits.blt k bi b h1 h2).2
  ·obtain⟨k,bi,h1,h2⟩:=hb;exact (fits.blt k bi b h1 h2).1
  ·exact (env.gl g cs hg).mono (fun _ _ h=>by cases h) (fun _ h=>h) (fun _ _=>rfl)
 refine calls_of_wp hf hb (AC.sound (cx:=cx) ht hmx hann h R0 (fun e fs hs βR FR a w' hq R=>?_));have fin:((rsQ fs rs).bind fun vs=>jIs ins.length vs).wp hs (fun p _=>p.1=r∧p.2=outs)→a.defers=[] ∧ ∃ v,(results fn a.tmps).run P w' = .ok v w' ∧ ∃ x β' F',Ending.returned v = .returned x∧qRo w β F ins r outs x β' F' w':=by
  intro hq;rw[Q.wp_bind] at hq;obtain⟨vs,l0,hvs,⟨r',outs'⟩,l,hrun,e1,e2⟩:=hq;obtain⟨xs,hxs,hall⟩:=qR5 (cx:=cx) R hrs hvs;refine⟨R.dfr,_,qT5 hxs,?_⟩
  ·simp only at e1 e2;subst e1 e2;unfold jIs at hrun;obtain⟨p,l1,l2,hp,hrun,_⟩:=zA hrun;obtain⟨q,l3,l4,hqq,hrun,_⟩:=zA hrun;obtain⟨hdis,hrun⟩:=qR hrun;obtain⟨fw,l5,l6,hfw,hrun,_⟩:=zA hrun;obtain⟨e,_⟩:=qE hrun;simp only[Prod.mk.injEq] at e;obtain⟨rfl,rfl⟩:=e;obtain⟨ids,obs,fzq⟩:=q;obtain⟨t,htt⟩:=qQl (s:=0) (m:=ins.length) (n:=12+ins.length) (rest:=qA6 p.1) (by simpa [List.range_eq_range'] using hqq);have hidk : ∀ k,k<ins.length→ids[k]?=some k:=by
    intro k hk;rw[htt,List.getElem?_append_left (by simpa using hk)];simp[hk]
   obtain⟨F1,R1,hFF,hnd,hlo,hfwl,hlive,fits',hres⟩:=zHd R hp hqq (fun r h=>by simp[h]) hdis hfw hall;have hβk : ∀ k bi,β k=some bi→βR k=some bi:=R1.ext0;have hklt : ∀ k bi,β k=some bi→k<ins.length:=by
    intro k bi h;rcases Nat.lt_or_ge k ins.length with h1 | h1
    ·exact h1
    ·rw[fits.dom k h1] at h;cases h
   refine⟨_,qKe ids βR,F1,rfl,fits',zBz hres,fun k hk=>?_,fun k bi b hk h1 h2=>?_,fun b hb=>R1.F0 b hb,R1.Fw,R1.os,R1.tape,R1.output,R1.size,fun b hb hk=>R1.ext b hb (fun ⟨k,bi,h1,h2⟩=>hk k bi h1 h2)⟩
   ·obtain⟨bi,h1,_⟩:=fits.ok k ins[k] (by simp[hk]);simp[qKe,hidk k hk,hβk k bi h1,h1]
   ·unfold qKe at h1;rw[Option.bind_eq_some_iff] at h1;obtain⟨id,hid,h1⟩:=h1;obtain⟨z,es,full,_,hl⟩:=hlive k id hid;rcases R1.old id z es full bi b hl h1 h2 with h | ⟨_,k0,bi0,g1,g2⟩
    ·exact h
    ·exfalso;have hk0:=hklt k0 bi0 g1;obtain⟨z0,es0,full0,_,hl0⟩:=hlive k0 k0 (hidk k0 hk0);have e:=R1.inj id k0 bi bi0 b _ _ h1 (hβk k0 bi0 g1) h2 g2 hl hl0 sM sM;subst e;have hi1:k<ids.length:=(List.getElem?_eq_some_iff.1 hid).1;have hi2:id<ids.length:=(List.getElem?_eq_some_iff.1 (hidk id hk0)).1;have:=qDt hnd hi1 hi2 (by
      have a1:=hid;have a2:=hidk id hk0;rw[List.getElem?_eq_getElem hi1] at a1;rw[List.getElem?_eq_getElem hi2] at a2;rw[Option.some.inj a1,Option.some.inj a2])
     omega
 cases e with
 | normal=>exact fin hq
 | ret=>exact fin hq
 | exit id=>exact hq.elim
end Go.Eng
end
section
namespace Go.Eng
variable {tab:Tab} {gl:Gl} {fs:Fs} {hs:Hs} {Qx:qFz}
theorem jH4:AC.skip.wp tab gl fs hs Qx=Qx .normal fs hs:=Eq.trans (Eq.refl _) rfl
theorem jL2:AC.ret.wp tab gl fs hs Qx=Qx .ret fs hs:=Eq.trans (Eq.refl _) rfl
theorem jH2 {id:Nat}:(AC.exit id).wp tab gl fs hs Qx=Qx (.exit id) fs hs:=Eq.trans (Eq.refl _) rfl
def jIu (tab:Tab)(gl:Gl)(b:AC)(Qx:qFz):qFz:=fun e fs' hs'=>match e with | .normal=>b.wp tab gl fs' hs' Qx | e=>Qx e fs' hs'
def zGf (id:Nat)(Qx:qFz):qFz:=fun e fs' hs'=>match e with | .exit id'=>(if id'=id then Qx .normal fs' hs' else Qx (.exit id') fs' hs') | e=>Qx e fs' hs'
theorem jL3 {a b:AC}:(AC.seq a b).wp tab gl fs hs Qx=a.wp tab gl fs hs (jIu tab gl b Qx):=Eq.trans (Eq.refl _) rfl
theorem zEx {b:AC}:jIu tab gl b Qx .normal fs hs=b.wp tab gl fs hs Qx:=Eq.trans (Eq.refl _) rfl
theorem zOa {b:AC}{id:Nat}:jIu tab gl b Qx (.exit id) fs hs=Qx (.exit id) fs hs:=Eq.trans (Eq.refl _) rfl
theorem zTv {b:AC}:jIu tab gl b Qx .ret fs hs=Qx .ret fs hs:=Eq.trans (Eq.refl _) rfl
theorem jBk {id:Nat}{a:AC}:(AC.block id a).wp tab gl fs hs Qx=a.wp tab gl fs hs (zGf id Qx):=Eq.trans (Eq.refl _) rfl
theorem qXn {id:Nat}:zGf id Qx .normal fs hs=Qx .normal fs hs:=Eq.trans (Eq.refl _) rfl
theorem zH4 {id:Nat}:zGf id Qx .ret fs hs=Qx .ret fs hs:=Eq.trans (Eq.refl _) rfl
theorem zDq {id id':Nat}:zGf id Qx (.exit id') fs hs=if id'=id then Qx .normal fs hs else Qx (.exit id') fs hs:=Eq.trans (Eq.refl _) rfl
theorem jH1 {c:qFj}{a b:AC}:(AC.cond c a b).wp tab gl fs hs Qx=qIb (c.val gl (jQ fs)) (a.wp tab gl fs hs Qx) (b.wp tab gl fs hs Qx):=Eq.trans (Eq.refl _) rfl
theorem jBl {c:qFj}{a b:AC}:(AC.condb c a b).wp tab gl fs hs Qx=qQw (c.val gl (jQ fs)) (a.wp tab gl fs hs Qx) (b.wp tab gl fs hs Qx):=Eq.trans (Eq.refl _) rfl
def qVd (tab:Tab)(gl:Gl)(a:AC)(fs:Fs)(hs:Hs)(Qx:qFz):Prop:=zKe (fun fs hs K=>a.wp tab gl fs hs K) fs hs Qx
theorem jH3 {a:AC}:(AC.loop a).wp tab gl fs hs Qx=qVd tab gl a fs hs Qx:=Eq.trans (Eq.refl _) rfl
@[congr] theorem zYh {a:AC} {fs':Fs} {hs':Hs} (h1:fs=fs') (h2:hs=hs'):qVd tab gl a fs hs Qx=qVd tab gl a fs' hs' Qx:=by rw[h1,h2]
def jFl (anc:Option (List Nat))(Qx:qFz):Fs→Hs→List (List Nat×List Nat)→Prop:=fun fs' hs' acc=>(match anc with | none=>True | some l=>chk l acc=true)∧Qx .normal fs' hs'
theorem zNh {acc:List (List Nat×List Nat)}:jFl none Qx fs hs acc=Qx .normal fs hs:=by simp[jFl]
theorem zNi {l:List Nat}{acc:List (List Nat×List Nat)}:jFl (some l) Qx fs hs acc=(chk l acc=true∧Qx .normal fs hs):=Eq.trans (Eq.refl _) rfl
def opK (tab:Tab)(gl:Gl)(r:List zR)(nb:Nat)(fs:Fs)(d:Option Nat)(hs:Hs)(acc:List (List Nat×List Nat))(K:Fs→Hs→List (List Nat×List Nat)→Prop):V×Wr→List Nat→Prop:=
 fun p l=>zAg tab gl r nb (zWk fs d p.1) (zAf hs p.2) (acc++[(wS p.2,l)]) K
theorem zYz {r:List zR}{nb:Nat}{d:Option Nat}{acc:List (List Nat×List Nat)}{K:Fs→Hs→List (List Nat×List Nat)→Prop}{v:V}{W:Wr}{l:List Nat} :
  opK tab gl r nb fs d hs acc K (v,W) l=zAg tab gl r nb (zWk fs d v) (zAf hs W) (acc++[(wS W,l)]) K:=Eq.trans (Eq.refl _) rfl
def jJ9 {α:Type}(id:Nat)(K:α→List Nat→Prop):α→List Nat→Prop:=fun x l=>K x (id::l)
theorem zRr {α:Type}{id:Nat}{K:α→List Nat→Prop}{x:α}{l:List Nat}:jJ9 id K x l=K x (id::l):=Eq.trans (Eq.refl _) rfl
def jI1 {α:Type}(l:List Nat)(K:α→List Nat→Prop):α→List Nat→Prop:=fun x l'=>K x (l++l')
theorem zPx {α:Type}{l l':List Nat}{K:α→List Nat→Prop}{x:α}:jI1 l K x l'=K x (l++l'):=Eq.trans (Eq.refl _) rfl
def jJa {α γ:Type}(hs:Hs)(f:γ→Q α)(K:α→List Nat→Prop):γ→List Nat→Prop:=fun x l=>(f x).wp hs (jI1 l K)
theorem zKu {α γ:Type}{f:γ→Q α}{K:α→List Nat→Prop}{x:γ}{l:List Nat}:jJa hs f K x l=(f x).wp hs (jI1 l K):=Eq.trans (Eq.refl _) rfl
theorem zF1 {α:Type}{o:Ob}{id:Nat}{k:Ob→Q α}{K:α→List Nat→Prop}:zJ6 hs (some o) id k K=(k o).wp hs (jJ9 id K):=Eq.trans (Eq.refl _) rfl
theorem zC3 {α:Type}{id:Nat}{k:Q α}{K:α→List Nat→Prop}:qW6 hs none id k K=k.wp hs (jJ9 id K):=Eq.trans (Eq.refl _) rfl
theorem jL1 {nb:Nat}{anc:Option (List Nat)}{o:zR}{os:List zR}:(AC.reg nb anc (o::os)).wp tab gl fs hs Qx =
  (o.q tab gl (jQ fs) nb).wp hs (opK tab gl os (nb+16) fs o.dst hs [] (jFl anc Qx)):=Eq.trans (Eq.refl _) rfl
theorem zO3 {nb:Nat}{anc:Option (List Nat)}:(AC.reg nb anc []).wp tab gl fs hs Qx=jFl anc Qx fs hs []:=Eq.trans (Eq.refl _) rfl
theorem zUl {nb:Nat}{acc:List (List Nat×List Nat)}{K:Fs→Hs→List (List Nat×List Nat)→Prop}:zAg tab gl [] nb fs hs acc K=K fs hs acc:=Eq.trans (Eq.refl _) rfl
theorem zO1 {o:zR}{r:List zR}{nb:Nat}{acc:List (List Nat×List Nat)}{K:Fs→Hs→List (List Nat×List Nat)→Prop} :
  zAg tab gl (o::r) nb fs hs acc K=(o.q tab gl (jQ fs) nb).wp hs (opK tab gl r (nb+16) fs o.dst hs acc K):=Eq.trans (Eq.refl _) rfl
theorem zMl:wS []=[]:=Eq.trans (Eq.refl _) rfl
theorem zIo {p:Nat×Ob}{r:Wr}:wS (p::r)=p.1::wS r:=Eq.trans (Eq.refl _) rfl
theorem zRs {α:Type}{t:Nat}:jQ ([]:List (Nat×α)) t=none:=Eq.trans (Eq.refl _) rfl
theorem zMp {α:Type}{k t:Nat}{v:α}{r:List (Nat×α)}:jQ ((k,v)::r) t=if k=t then some v else jQ r t:=Eq.trans (Eq.refl _) rfl
theorem zTx {α:Type}{k:Nat}{v:α}:jIv [] k v=[(k,v)]:=Eq.trans (Eq.refl _) rfl
theorem zOb {α:Type}{k k':Nat}{v v':α}{r:List (Nat×α)}:jIv ((k',v')::r) k v=if k'=k then (k,v)::r else (k',v')::jIv r k v:=Eq.trans (Eq.refl _) rfl
theorem zOd {d:Nat}{v:V}:zWk fs (some d) v=(d,v)::fs:=Eq.trans (Eq.refl _) rfl
theorem zOc {v:V}:zWk fs none v=fs:=Eq.trans (Eq.refl _) rfl
theorem zUe:zAf hs []=hs:=Eq.trans (Eq.refl _) rfl
theorem zOu {i:Nat}{o:Ob}{r:Wr}:zAf hs ((i,o)::r)=zAf ((i,o)::hs) r:=Eq.trans (Eq.refl _) rfl
theorem zUu {α:Type}{i:Nat}:qF i ([]:List α)=[]:=Eq.trans (Eq.refl _) rfl
theorem zPe {α:Type}{i:Nat}{x:α}{r:List α}:qF i (x::r)=(i,x)::qF (i+1) r:=Eq.trans (Eq.refl _) rfl
variable {K:V×Wr→List Nat→Prop} {nb:Nat} {fm:Nat→Option V}
theorem zZd {d:Option Nat}{k:AK}{xs:List qFj}:((⟨d,k,xs,none⟩:zR).q tab gl fm nb).wp hs K=zC4 hs (qBa gl fm xs) (fun vs=>k.q tab nb vs) K:=by
 simp only[zR.q,qFe,Q.wp_of_bind,qU1,if_true,zR.go]
def qQm (g:Option Bool)(A B:Prop):Prop:=
 match g with
 | some true=>A
 | some false=>B
 | none=>False
@[congr] theorem zVo {g g':Option Bool} {A B:Prop} (h:g=g'):qQm g A B=qQm g' A B:=by rw[h]
theorem zEb {A B:Prop}:qQm (some true) A B=A:=Eq.trans (Eq.refl _) rfl
theorem zA6 {A B:Prop}:qQm (some false) A B=B:=Eq.trans (Eq.refl _) rfl
theorem kB {b:Bool}{A B:Prop}:qQm (some b) A B=((b=true→A)∧(b=false→B)):=by
 cases b<;>simp[qQm]
theorem zZc {d:Option Nat}{k:AK}{xs:List qFj}{t:Nat}{b:Bool}:((⟨d,k,xs,some (t,b)⟩:zR).q tab gl fm nb).wp hs K =
  qQm (qFe fm (some (t,b))) (zC4 hs (qBa gl fm xs) (fun vs=>k.q tab nb vs) K) (K (.tup [],[]) []):=by
 simp only[zR.q,Q.wp_of_bind];cases h:qFe fm (some (t,b)) with
 | none=>rfl
 | some g=>cases g<;>simp[qQm,qU1,zR.go,Q.wp_of_bind,Q.wp_ret]
theorem zA5 {t:Nat}{b:Bool}:qFe fm (some (t,b))=match fm t with
  | some (.t (.bool c))=>some (c==b)
  | some (.tup [])=>some false
  | _=>none:=Eq.trans (Eq.refl _) rfl
theorem zUj:qBa gl fm []=some []:=Eq.trans (Eq.refl _) rfl
theorem zUk {t:Nat}{r:List qFj}:qBa gl fm (.tmp t::r)=(fm t).bind fun v=>(qBa gl fm r).map (v :: ·):=Eq.trans (Eq.refl _) rfl
theorem zUi {v:V}{r:List qFj}:qBa gl fm (.cst v::r)=(qBa gl fm r).map (v :: ·):=Eq.trans (Eq.refl _) rfl
theorem zOz {g:Nat}{r:List qFj}:qBa gl fm (.glob g::r)=((gl g).map V.ro).bind fun v=>(qBa gl fm r).map (v :: ·):=Eq.trans (Eq.refl _) rfl
theorem jA8 {t:Nat}:(qFj.tmp t).val gl fm=fm t:=Eq.trans (Eq.refl _) rfl
theorem jA7 {v:V}:(qFj.cst v).val gl fm=some v:=Eq.trans (Eq.refl _) rfl
theorem jJ6 {ao:AO}{vs:List V}:(AK.op ao).q tab nb vs=sem ao vs nb:=Eq.trans (Eq.refl _) rfl
theorem zYd {f:FuncId}{keep:Bool}{vs:List V}:(AK.call f keep).q tab nb vs=qU7 tab f keep vs nb:=Eq.trans (Eq.refl _) rfl
theorem zRo {f:FuncId}{keep:Bool}{caps rest:List V}:(AK.callv keep).q tab nb (.fn f caps::rest)=qU7 tab f keep (rest++caps) nb:=Eq.trans (Eq.refl _) rfl
theorem zRn {g id i f:Nat}{keep:Bool}{rest:List V}:(AK.callv keep).q tab nb (.bd g id i f::rest)=qU7 tab g keep (.ref id i f::rest) nb:=Eq.trans (Eq.refl _) rfl
attribute [go_sem] zRn
theorem qEf {α β γ:Type}{q:Q α}{f:α→Q β}{g:β→Q γ}:(q.bind f).bind g=q.bind fun x=>(f x).bind g:=by
 induction q with
 | ret a=>rfl
 | fail=>rfl
 | get id k ih=>simp only[Q.bind,ih]
 | free id k ih=>simp only[Q.bind,ih]
theorem zF3 {α γ:Type}{x:γ}{f:γ→Q α}{K:α→List Nat→Prop}:((Q.ret x).bind f).wp hs K=(f x).wp hs K:=Eq.trans (Eq.refl _) rfl
theorem zC7 {α γ:Type}{f:γ→Q α}{K:α→List Nat→Prop}:((Q.fail).bind f).wp hs K=False:=Q.wp_fail
theorem zC5 {α β γ:Type}{q:Q α}{f:α→Q β}{g:β→Q γ}{K:γ→List Nat→Prop}:((q.bind f).bind g).wp hs K=(q.bind fun x=>(f x).bind g).wp hs K:=by rw[qEf]
theorem zF2 {α γ:Type}{id:Nat}{k:Ob→Q γ}{f:γ→Q α}{K:α→List Nat→Prop}:((Q.get id k).bind f).wp hs K=zJ6 hs (jQ hs id) id (fun o=>(k o).bind f) K:=Q.wp_get
theorem zC8 {α γ:Type}{id:Nat}{k:Q γ}{f:γ→Q α}{K:α→List Nat→Prop}:((Q.free id k).bind f).wp hs K=qW6 hs (jQ hs id) id (k.bind f) K:=Q.wp_free
theorem qWf {α γ:Type}{b:Prop}[Decidable b]{q:Q γ}{f:γ→Q α}{K:α→List Nat→Prop}:((Q.assert b q).bind f).wp hs K=(b∧(q.bind f).wp hs K):=by
 rw[←Q.wp_assert];unfold Q.assert;split<;>rfl
def wpA (b P:Prop):Prop:=b∧P
@[congr] theorem jH6 {b b' P:Prop} (h:b=b'):wpA b P=wpA b' P:=by rw[h]
theorem zUo {P:Prop}:wpA True P=P:=by simp[wpA]
theorem jL4 {b P:Prop}(h:b):wpA b P=P:=by simp[wpA,h]
theorem jBm {a b P:Prop}:wpA (a∧b) P=wpA a (wpA b P):=by simp[wpA,and_assoc]
theorem zJ9 {α:Type}{b:Prop}[Decidable b]{q:Q α}{K:α→List Nat→Prop}:(Q.assert b q).wp hs K=wpA b (q.wp hs K):=Q.wp_assert
theorem qU2 {α γ:Type}{b:Prop}[Decidable b]{q:Q γ}{f:γ→Q α}{K:α→List Nat→Prop}:((Q.assert b q).bind f).wp hs K=wpA b ((q.bind f).wp hs K):=qWf
theorem zO5 {α γ:Type}{b:Prop}[Decidable b]{o:Option γ}{f:γ→Q α}{K:α→List Nat→Prop}:zC4 hs (if b then o else none) f K=wpA b (zC4 hs o f K):=zUp
theorem zJ8 {α γ:Type}{b:Prop}[Decidable b]{o:Option γ}{f:γ→Q α}{K:α→List Nat→Prop}:zC4 hs (if b then none else o) f K=wpA (¬ b) (zC4 hs o f K):=zO4
theorem xA {b:Bool}{A B:Prop}:qIb (some (.t (.bool b))) A B=((b=true→A)∧(b=false→B)):=Eq.trans (Eq.refl _) rfl
theorem qRq {α γ:Type}{x:γ}{f:γ→Q α}:(Q.ret x).bind f=f x:=Eq.trans (Eq.refl _) rfl
theorem jAl {vs:List V}:sem .mov vs nb=zHo vs:=Eq.trans (Eq.refl _) rfl
theorem zTu {vs:List V}:sem .smov vs nb=qY1 vs:=Eq.trans (Eq.refl _) rfl
theorem zTs {vs:List V}:sem .pick vs nb=qUa vs:=Eq.trans (Eq.refl _) rfl
theorem jAh {vs:List V}:sem .box vs nb=zB7 nb vs:=Eq.trans (Eq.refl _) rfl
theorem zI3 {vs:List V}:sem .boxArr vs nb=qJj nb vs:=Eq.trans (Eq.refl _) rfl
theorem jAn {vs:List V}:sem .s2b vs nb=qW3 nb vs:=Eq.trans (Eq.refl _) rfl
theorem jAe {vs:List V}:sem .b2s vs nb=zHk vs:=Eq.trans (Eq.refl _) rfl
theorem zI6 {vs:List V}:sem .sindex vs nb=qFu vs:=Eq.trans (Eq.refl _) rfl
theorem jAi {vs:List V}:sem .len vs nb=zB8 vs:=Eq.trans (Eq.refl _) rfl
theorem zTt {vs:List V}:sem .slen vs nb=qPr vs:=Eq.trans (Eq.refl _) rfl
theorem zI1 {vs:List V}:sem .appstr vs nb=qB4 nb vs:=Eq.trans (Eq.refl _) rfl
theorem jAk {vs:List V}:sem .min vs nb=zHn vs:=Eq.trans (Eq.refl _) rfl
theorem jAj {vs:List V}:sem .max vs nb=zHm vs:=Eq.trans (Eq.refl _) rfl
theorem jAd {n:Nat}{k:IntKind}{neg:Bool}{vs:List V}:sem (.aeq n k neg) vs nb=qT7 n k neg vs:=Eq.trans (Eq.refl _) rfl
theorem zI5 {vs:List V}:sem .nilchk vs nb=qJk vs:=Eq.trans (Eq.refl _) rfl
theorem jAm {z:Nat}{es vs:List V}:sem (.new z es) vs nb=zB9 z es nb vs:=Eq.trans (Eq.refl _) rfl
theorem zN1 {z:List V}{pl:List (Nat×Nat)}{vs:List V}:sem (.build z pl) vs nb=qN1 z pl vs:=Eq.trans (Eq.refl _) rfl
theorem zI4 {z len:Nat}{zero:V}{ix:List Nat}{vs:List V}:sem (.bslice z len zero ix) vs nb=qN0 z len zero ix nb vs:=Eq.trans (Eq.refl _) rfl
theorem zTp {n:Nat}{agg:Bool}{vs:List V}:sem (.load n agg) vs nb=qPq n agg vs:=Eq.trans (Eq.refl _) rfl
theorem zN8 {n:Nat}{vs:List V}:sem (.store n) vs nb=qN5 n vs:=Eq.trans (Eq.refl _) rfl
theorem jAg {op:BinOp}{vs:List V}:sem (.bin op) vs nb=zHl op vs:=Eq.trans (Eq.refl _) rfl
theorem jAf {neg:Bool}{vs:List V}:sem (.beq neg) vs nb=zB6 neg vs:=Eq.trans (Eq.refl _) rfl
theorem jF9 {op:UnOp}{vs:List V}:sem (.un op) vs nb=zTk op vs:=Eq.trans (Eq.refl _) rfl
theorem zTl {k:IntKind}{vs:List V}:sem (.conv k) vs nb=qG2 k vs:=Eq.trans (Eq.refl _) rfl
theorem zEw {z by_:Nat}{zero:V}{vs:List V}:sem (.mkslice z by_ zero) vs nb=zTj z by_ zero nb vs:=Eq.trans (Eq.refl _) rfl
theorem zI7 {lo hi mx:Bool}{vs:List V}:sem (.sslice lo hi mx) vs nb=qN4 lo hi mx vs:=Eq.trans (Eq.refl _) rfl
theorem zN7 {z:Nat}{lo hi mx:Bool}{vs:List V}:sem (.slice z lo hi mx) vs nb=qSa z lo hi mx vs:=Eq.trans (Eq.refl _) rfl
theorem zI2 {n z:Nat}{lo hi mx:Bool}{vs:List V}:sem (.aslice n z lo hi mx) vs nb=qNz n z lo hi mx vs:=Eq.trans (Eq.refl _) rfl
theorem zN2 {off:Nat}{vs:List V}:sem (.faddr off) vs nb=qR7 off vs:=Eq.trans (Eq.refl _) rfl
theorem zN3 {off n:Nat}{agg:Bool}{vs:List V}:sem (.field off n agg) vs nb=qR8 off n agg vs:=Eq.trans (Eq.refl _) rfl
theorem zN4 {z:Nat}{vs:List V}:sem (.iaddr z) vs nb=qN2 z vs:=Eq.trans (Eq.refl _) rfl
theorem zN0 {n z:Nat}{vs:List V}:sem (.aaddr n z) vs nb=qNy n z vs:=Eq.trans (Eq.refl _) rfl
theorem zN5 {n z:Nat}{agg:Bool}{vs:List V}:sem (.index n z agg) vs nb=qR9 n z agg vs:=Eq.trans (Eq.refl _) rfl
theorem zEv {i:Nat}{vs:List V}:sem (.extract i) vs nb=qFt i vs:=Eq.trans (Eq.refl _) rfl
theorem zTo {n:Nat}{vs:List V}:sem (.lenc n) vs nb=qT9 n vs:=Eq.trans (Eq.refl _) rfl
theorem zI0 {z by_:Nat}{vs:List V}:sem (.append z by_) vs nb=qFs z by_ nb vs:=Eq.trans (Eq.refl _) rfl
theorem zEu {z by_:Nat}{vs:List V}:sem (.appendt z by_) vs nb=qJy z by_ nb vs:=Eq.trans (Eq.refl _) rfl
theorem zTq {f:FuncId}{vs:List V}:sem (.mkbd f) vs nb=qYz f vs:=Eq.trans (Eq.refl _) rfl
theorem zTn {vs:List V}:sem .idsl vs nb=qYy vs:=Eq.trans (Eq.refl _) rfl
theorem zN6 {neg:Bool}{vs:List V}:sem (.nileq neg) vs nb=qN3 neg vs:=Eq.trans (Eq.refl _) rfl
attribute [go_sem] zN6 qN3
attribute [go_sem] zEu zTq zTn
theorem zTm {z:Nat}{vs:List V}:sem (.copy z) vs nb=qT8 z vs:=Eq.trans (Eq.refl _) rfl
theorem zTr {f:FuncId}{vs:List V}:sem (.mkfn f) vs nb=qY0 f vs:=Eq.trans (Eq.refl _) rfl
theorem jGt {k:IntKind}{n:Int}:(T.int k n).cells=[T.int k n]:=Eq.trans (Eq.refl _) rfl
theorem jAy {b:Bool}:(T.bool b).cells=[T.bool b]:=Eq.trans (Eq.refl _) rfl
theorem jGu {s:ByteArray}:(T.str s).cells=[T.str s]:=Eq.trans (Eq.refl _) rfl
theorem jAz  : T.fnil.cells=[T.fnil]:=Eq.trans (Eq.refl _) rfl
theorem jA0  : T.pnil.cells=[T.pnil]:=Eq.trans (Eq.refl _) rfl
theorem jGs {cs:List T}:(T.agg cs).cells=cs:=Eq.trans (Eq.refl _) rfl
theorem jLe {cs:List T}:(T.sl cs).cells=[T.sl cs]:=Eq.trans (Eq.refl _) rfl
theorem jHn {k:IntKind}{n:Int}:(V.t (T.int k n)).cells=[V.t (T.int k n)]:=Eq.trans (Eq.refl _) rfl
theorem jA9 {b:Bool}:(V.t (T.bool b)).cells=[V.t (T.bool b)]:=Eq.trans (Eq.refl _) rfl
theorem jHq {s:ByteArray}:(V.t (T.str s)).cells=[V.t (T.str s)]:=Eq.trans (Eq.refl _) rfl
theorem jBa  : (V.t T.fnil).cells=[V.t T.fnil]:=Eq.trans (Eq.refl _) rfl
theorem jBb  : (V.t T.pnil).cells=[V.t T.pnil]:=Eq.trans (Eq.refl _) rfl
theorem jBd {cs:List T}:(V.t (T.agg cs)).cells=cs.map V.t:=Eq.trans (Eq.refl _) rfl
theorem jHr {cs:List T}:(V.t (T.sl cs)).cells=[V.t (T.sl cs)]:=Eq.trans (Eq.refl _) rfl
theorem jHo  : V.nil.cells=[V.nil]:=Eq.trans (Eq.refl _) rfl
theorem jHp {id i f:Nat}:(V.ref id i f).cells=[V.ref id i f]:=Eq.trans (Eq.refl _) rfl
theorem jLp {g id i f:Nat}:(V.bd g id i f).cells=[V.bd g id i f]:=Eq.trans (Eq.refl _) rfl
theorem jLq:V.bq.cells=[V.bq]:=Eq.trans (Eq.refl _) rfl
attribute [go_sem] jLq
attribute [go_sem] jLp
theorem jLs {cs:List T}:(V.ro cs).cells=[V.ro cs]:=Eq.trans (Eq.refl _) rfl
theorem jLt {id i f:Nat}:(V.sl id i f).cells=[V.sl id i f]:=Eq.trans (Eq.refl _) rfl
theorem jHm {cs:List V}:(V.agg cs).cells=cs:=Eq.trans (Eq.refl _) rfl
theorem jLr {f:FuncId}{cs:List V}:(V.fn f cs).cells=[V.fn f cs]:=Eq.trans (Eq.refl _) rfl
theorem jHt {k:IntKind}{n:Int}:(V.t (T.int k n)).plain=true:=Eq.trans (Eq.refl _) rfl
theorem jBe {b:Bool}:(V.t (T.bool b)).plain=true:=Eq.trans (Eq.refl _) rfl
theorem jHw {s:ByteArray}:(V.t (T.str s)).plain=true:=Eq.trans (Eq.refl _) rfl
theorem jBg  : (V.t T.fnil).plain=true:=Eq.trans (Eq.refl _) rfl
theorem jBh  : (V.t T.pnil).plain=true:=Eq.trans (Eq.refl _) rfl
theorem jBj {cs:List T}:(V.t (T.agg cs)).plain=true:=Eq.trans (Eq.refl _) rfl
theorem jHx {cs:List T}:(V.t (T.sl cs)).plain=true:=Eq.trans (Eq.refl _) rfl
theorem jHu  : V.nil.plain=true:=Eq.trans (Eq.refl _) rfl
theorem jHv {id i f:Nat}:(V.ref id i f).plain=true:=Eq.trans (Eq.refl _) rfl
theorem jLu {g id i f:Nat}:(V.bd g id i f).plain=true:=Eq.trans (Eq.refl _) rfl
theorem jLv:V.bq.plain=true:=Eq.trans (Eq.refl _) rfl
attribute [go_sem] jLv
attribute [go_sem] jLu
theorem jLx {cs:List T}:(V.ro cs).plain=true:=Eq.trans (Eq.refl _) rfl
theorem jLy {id i f:Nat}:(V.sl id i f).plain=true:=Eq.trans (Eq.refl _) rfl
theorem jHs {cs:List V}:(V.agg cs).plain=true:=Eq.trans (Eq.refl _) rfl
theorem jLw {f:FuncId}{cs:List V}:(V.fn f cs).plain=true:=Eq.trans (Eq.refl _) rfl
theorem jCl {op:BinOp}{k k':IntKind}{x y:Int}:qH8 op (.int k x) (.int k' y)=qOw op k x k' y:=Eq.trans (Eq.refl _) rfl
theorem zXb {x y:ByteArray}:qH8 .add (.str x) (.str y)=if x.size+y.size≤maxLen then some (.str (x++y)) else none:=Eq.trans (Eq.refl _) rfl
theorem jCm {x y:ByteArray}:qH8 .eql (.str x) (.str y)=some (.bool (x.toList==y.toList)):=Eq.trans (Eq.refl _) rfl
theorem jCn {x y:ByteArray}:qH8 .neq (.str x) (.str y)=some (.bool !(x.toList==y.toList)):=Eq.trans (Eq.refl _) rfl
theorem jG2 {b:Bool}:unT .not (.bool b)=some (.bool !b):=Eq.trans (Eq.refl _) rfl
theorem jG1 {k:IntKind}{n:Int}:unT .neg (.int k n)=some (.int k (k.wrap (0-n))):=Eq.trans (Eq.refl _) rfl
theorem jDp {k:IntKind}{n:Int}:vW (.t (.int k n))=some n:=Eq.trans (Eq.refl _) rfl
theorem jF7 {k k':IntKind}{n:Int}:qG2 k [.t (.int k' n)] = .ret (.t (.int k (k.wrap n)),[]):=Eq.trans (Eq.refl _) rfl
attribute [go_sem] jGt jAy jGu jAz jA0 jGs jLe jHn jA9 jHq jBa jBb jBd jHr jHo jHp jLs jLt jHm jLr jHt jBe jHw jBg jBh jBj jHx jHu jHv jLx jLy jHs jLw jCl zXb jCm jCn jG2 jG1 jDp jF7
attribute [go_sem ↓] jH4 jL2 jH2 jL3 jBk jH3 jH1 jBl jL1 zO3 zEx zOa zTv qXn zH4 zDq zNh zNi zZd zZc jJ6 zYd zRo
 zYz zRr zPx zKu Q.wp_of_bind Q.wp_ret Q.wp_fail Q.wp_get Q.wp_free zJ9 zF3 zC7 zC5 zF2 zC8 qU2
attribute [go_sem] zQd zXd
attribute [go_sem] zUo jBm zUl zO1 zUj zUk zUi zOz jA8 jA7 zRs zMp zTx zOb zOd zOc zUe zOu zUu zPe zMl zIo
 qU1 zO6 zO5 zJ8 zF1 zJ7 zF0 zC3 Q.wp_ite zH8 zDu zEb zA6 zA5
attribute [go_sem] Option.bind_some Option.map_some Option.bind_none Option.map_none true_and and_true List.nil_append List.cons_append List.append_nil
attribute [go_sem] jAd qT7 jAl zTu zTs jAh zI3 jAn jAe zI6 jAi zTt zI1 jAk jAj zI5 jAm zN1 zI4 zTp zN8 jAg jAf jF9 zTl zEw zI7 zN7 zI2 zN2 zN3 zN4 zN0 zN5 zEv zTo zI0 zTm zTr
attribute [go_sem] zHo qY1 qUa zB9 zB7 qJj qN1 qN0 qPq qN5 zHl zB6 zTk qW3 zHk zTj qN4 qSa qNz qR7 qR8 qN2 qNy qR9 qFu qFt qPr zB8 qT9 qFs qB4 qT8 zHn zHm qY0 qYz qYy qJy qJk
 qOw qQ3 qCn qOu zD rsQ
end Go.Eng
end
section
namespace Go.Eng
mutual
def V.ids:V→List Nat
 | .ref id _ _=>[id]
 | .bd _ id _ _=>[id]
 | .sl id _ _=>[id]
 | .agg cs=>qNg cs
 | .tup cs=>qNg cs
 | .fn _ cs=>qNg cs
 | _=>[]
def qNg:List V→List Nat
 | []=>[]
 | c::r=>c.ids++qNg r
end
theorem kT : ∀ {cs:List V} {c:V} {r:Nat},c∈cs→r∈c.ids→r∈qNg cs
 | x::cs,c,r,hc,hr=>by
  simp only[qNg,List.mem_append];simp only[List.mem_cons] at hc;rcases hc with rfl | hc
  ·exact .inl hr
  ·exact .inr (kT hc hr)
theorem zVp (ts:List T):qNg (ts.map .t)=[]:=by
 induction ts with
 | nil=>rfl
 | cons x r ih=>simp[qNg,V.ids,ih]
theorem qV.sub {β β':Nat→Option BI}{F:Nat→Prop}{w:World}{v:V}{x:Value}(h:qV β F w v x):(∀ i∈v.ids,∀ bi,β i=some bi→β' i=some bi)→qV β' F w v x:=by
 induction h with
 | t h=>intro _;exact .t h
 | nil=>intro _;exact .nil
 | ref id i f b sz room hb=>intro hs;exact .ref id i f b sz room (hs id (by simp[V.ids]) _ hb)
 | bd g id i f b sz room hb=>intro hs;exact .bd g id i f b sz room (hs id (by simp[V.ids]) _ hb)
 | bq b=>intro _;exact .bq b
 | ro cs a news ha hn h1 hF hw h=>intro _;exact .ro cs a news ha hn h1 hF hw h
 | sl id off len cap b sz room a hb hlc hr ha hs=>intro hsub;exact .sl id off len cap b sz room a (hsub id (by simp[V.ids]) _ hb) hlc hr ha hs
 | slv id sz room hb=>intro hsub;exact .slv id sz room (hsub id (by simp[V.ids]) _ hb)
 | agg cs vs hl h1 _ ih=>intro hs;exact .agg cs vs hl h1 (fun i c u hc hu=>ih i c u hc hu (fun k hk=>hs k (by simp only[V.ids];exact kT (List.mem_of_getElem? hc) hk)))
 | tup cs vs hl _ ih=>intro hs;exact .tup cs vs hl (fun i c u hc hu=>ih i c u hc hu (fun k hk=>hs k (by simp only[V.ids];exact kT (List.mem_of_getElem? hc) hk)))
 | fn f cs vs hl _ ih=>intro hs;exact .fn f cs vs hl (fun i c u hc hu=>ih i c u hc hu (fun k hk=>hs k (by simp only[V.ids];exact kT (List.mem_of_getElem? hc) hk)))
def Cv (hs:Hs)(ρ:Nat→Nat)(vt ks:List Nat)(v v':V):Prop:=
 ((v=v'.ren ρ ∨ ∃ l,(zJ 4 v).run (jQ hs)=some ((v'.ren ρ,[]),l)) ∧ ∀ i∈v'.ids,i∈ks)∨(v = .nil ∧ ∃ id,id∈vt∧v' = .sl id 0 0)
def CvO (hs:Hs)(ρ:Nat→Nat)(ks:List Nat):Ob→Ob→Prop
 | .live z es wr full,.live z' es' wr' full'=>z=z'∧wr=wr'∧(full'=true→full=true)∧(es=qF0 ρ es' ∨ ∃ l,(qDo es).run (jQ hs)=some ((qF0 ρ es',[]),l)) ∧ ∀ i∈qNg es',i∈ks
 | _,.dead=>True
 | _,_=>False
def qWh (fs:Fs)(hs:Hs)(ρ:Nat→Nat)(vt ks:List Nat):Fs→Prop
 | []=>True
 | (t,v')::r=>(∃ v,jQ fs t=some v∧Cv hs ρ vt ks v v')∧qWh fs hs ρ vt ks r
def jBr (hs:Hs)(ρ:Nat→Nat)(ks:List Nat):Hs→Prop
 | []=>True
 | (i,o')::r=>((∃ o,jQ hs (ρ i)=some o∧CvO hs ρ ks o o')∧(i<100→ρ i=i)∧(100≤i→100≤ρ i))∧jBr hs ρ ks r
def VtW:Hs→Prop
 | []=>True
 | (i,o')::r=>((∃ z full,o' = .live z [] true full)∧100≤i)∧VtW r
theorem qWh.get {fs:Fs}{hs:Hs}{ρ:Nat→Nat}{vt ks:List Nat} : ∀ {fs':Fs},qWh fs hs ρ vt ks fs' → ∀ t v',jQ fs' t=some v' → ∃ v,jQ fs t=some v∧Cv hs ρ vt ks v v'
 | [],_,t,v',h=>by cases h
 | (k,u)::r,hw,t,v',h=>by
  simp only[jQ] at h;split at h
  ·cases h;subst_vars;exact hw.1
  ·exact qWh.get hw.2 t v' h
theorem jBr.get {hs:Hs}{ρ:Nat→Nat}{ks:List Nat} : ∀ {hs':Hs},jBr hs ρ ks hs' → ∀ i o',jQ hs' i=some o'→(∃ o,jQ hs (ρ i)=some o∧CvO hs ρ ks o o')∧(i<100→ρ i=i)∧(100≤i→100≤ρ i)
 | [],_,t,v',h=>by cases h
 | (k,u)::r,hw,t,v',h=>by
  simp only[jQ] at h;split at h
  ·cases h;subst_vars;exact hw.1
  ·exact jBr.get hw.2 t v' h
theorem VtW.get : ∀ {hs':Hs},VtW hs' → ∀ i o',jQ hs' i=some o'→(∃ z full,o' = .live z [] true full)∧100≤i
 | [],_,t,v',h=>by cases h
 | (k,u)::r,hw,t,v',h=>by
  simp only[jQ] at h;split at h
  ·cases h;subst_vars;exact hw.1
  ·exact VtW.get hw.2 t v' h
def Ob.z:Ob→Nat
 | .live z _ _ _=>z
 | .dead=>0
theorem qFo {α:Type} : ∀ {l:List (Nat×α)} {i:Nat},i∈l.map (·.1) → ∃ o,jQ l i=some o
 | (k,u)::r,i,h=>by
  simp only[jQ];split
  ·exact⟨_,rfl⟩
  ·rename_i hne;simp only[List.map_cons,List.mem_cons] at h;rcases h with h | h
   ·exact absurd h.symm hne
   ·exact qFo h
theorem qAz {α:Type} : ∀ {l:List (Nat×α)} {i:Nat} {o:α},jQ l i=some o→i∈l.map (·.1)
 | (k,u)::r,i,o,h=>by
  simp only[jQ] at h;split at h
  ·subst_vars;simp
  ·simp[qAz h]
theorem qNi {α:Type} : ∀ {l r:List (Nat×α)} {i:Nat},jQ (l++r) i=match jQ l i with | some o=>some o | none=>jQ r i
 | [],r,i=>rfl
 | (k,u)::l,r,i=>by
  simp only[List.cons_append,jQ];split
  ·rfl
  ·exact qNi
theorem qYd {β:Nat→Option BI}{F:Nat→Prop}:qRn β F []=F:=by
 funext b;apply propext;constructor
 ·intro h;rcases h with h | ⟨i,hi,_⟩
  ·exact h
  ·simp at hi
 ·exact .inl
variable {cx:Cx} {β:Nat→Option BI} {F:Nat→Prop} {a:Act} {w:World}
theorem zIm {fm:Nat→Option V}{hm:Nat→Option Ob}(R:Rel cx β F fm hm a w){es es':List V}{l:List Nat}(h:(qDo es).run hm=some ((es',[]),l)){sz:Nat}{c:Array Value}(hh:yX β F w es sz c):es'.length=es.length∧yX β F w es' sz c:=by
 unfold qDo at h;split at h
 ·obtain⟨e,_⟩:=qE h;cases e;exact⟨rfl,hh⟩
 ·obtain⟨g1,g2⟩:=vD h;refine⟨g1,fun i x hx=>?_⟩;have hi:i<es.length:=by rw[←g1];exact (List.getElem?_eq_some_iff.1 hx).1
  obtain⟨fzi,li,m1,m2⟩:=g2 i es[i] x (by simp[hi]) hx;obtain⟨k1,k2⟩:=hh i es[i] (by simp[hi]);by_cases hz:es[i].cells=[]
  ·
   have:x.cells=[]:=by
    cases hx0:es[i] with
    | t y=>
     rw[hx0] at m1 hz;obtain⟨e,_⟩:=qE (x:=(V.t y,([]:List Nat))) m1;cases e;exact hz
    | agg cs=>
     rw[hx0] at m1 hz;simp only[zJ] at m1;obtain⟨p,l1,l2,hp,m1,_⟩:=zA m1;obtain⟨e,_⟩:=qE m1;cases e;have hcs:cs=[]:=hz;subst hcs;have:=(vD hp).1;rw[qRy];exact List.eq_nil_of_length_eq_zero this
    | _=>rw[hx0] at hz;simp[V.cells] at hz
   rw[this];rw[hz] at k1;exact⟨k1,by intro j y hy;simp at hy⟩
  ·obtain⟨q1,q2⟩:=zAs R m1 (fz':=[]) m2 hz (fun j y hy=>let ⟨u,_,b,d⟩:=k2 j y hy;⟨u,b,d⟩);refine⟨q1.trans k1,fun j y' hy'=>?_⟩;have hj:j<es[i].cells.length:=by rw[←q1];exact (List.getElem?_eq_some_iff.1 hy').1
   obtain⟨u,hu,hr,ho⟩:=k2 j (es[i].cells[j]'hj) (by simp[hj]);obtain⟨s1,_,_⟩:=q2 j (es[i].cells[j]'hj) y' u (by simp[hj]) hy' hr ho;rw[qYd] at s1;exact⟨u,hu,s1,ho⟩
theorem qJ.of {fs fs':Fs}{hs hv ho:Hs}(ρ:Nat→Nat)(h1:qWh fs hs ρ (hv.map (·.1)) (ho.map (·.1)) fs')(h2:jBr hs ρ (ho.map (·.1)) ho)(h3:VtW hv)(hdis : ∀ i∈hv.map (·.1),i ∉ ho.map (·.1))
  (hinj:((ho.map (·.1)).map ρ).Nodup) (hkeep : ∀ k∈hs.map (·.1),k<100→k∈ho.map (·.1)):qJ fs hs fs' (hv++ho):=by
 intro cx β F a w R
 let β':Nat→Option BI:=fun i=>match jQ hv i with
  | some o=>some ⟨none,o.z,0⟩
  | none=>match jQ ho i with
   | some _=>β (ρ i)
   | none=>none
 have bv : ∀ i o,jQ hv i=some o→β' i=some ⟨none,o.z,0⟩:=fun i o h=>by simp[β',h]
 have hvo : ∀ i,i∈ho.map (·.1)→jQ hv i=none:=by
  intro i hi;cases h:jQ hv i with
  | none=>rfl
  | some o=>exact absurd hi (hdis i (qAz h))
 have bo : ∀ i,i∈ho.map (·.1)→β' i=β (ρ i):=by
  intro i hi;obtain⟨o,h⟩:=qFo hi;simp[β',hvo i hi,h]
 have inj : ∀ i j,i∈ho.map (·.1)→j∈ho.map (·.1)→ρ i=ρ j→i=j:=by
  intro i j hi hj e;obtain⟨m,hm⟩:=List.getElem?_of_mem hi;obtain⟨n,hn⟩:=List.getElem?_of_mem hj;have hml:m<(ho.map (·.1)).length:=(List.getElem?_eq_some_iff.1 hm).1;have hnl:n<(ho.map (·.1)).length:=(List.getElem?_eq_some_iff.1 hn).1;have:=qDt hinj (i:=m) (j:=n) (by simpa using hml) (by simpa using hnl) (by
   have a1:(ho.map (·.1))[m]=i:=by rw[List.getElem?_eq_getElem hml] at hm;exact Option.some.inj hm
   have a2:(ho.map (·.1))[n]=j:=by rw[List.getElem?_eq_getElem hnl] at hn;exact Option.some.inj hn
   simp only[List.getElem_map] at a1 a2 ⊢;rw[a1,a2];exact e)
  subst this;rw[hm] at hn;exact Option.some.inj hn
 have val : ∀ {v v':V} {x:Value},qV β F w v x→Cv hs ρ (hv.map (·.1)) (ho.map (·.1)) v v'→qV β' F w v' x:=by
  intro v v' x hx hc;rcases hc with⟨hc,hids⟩ | ⟨rfl,id,hid,rfl⟩
  ·have h0:qV β F w (v'.ren ρ) x:=by
    rcases hc with hc | ⟨l,hc⟩
    ·rw[←hc];exact hx
    ·have:=wZ R hc hx (fz':=[]) sM;rw[qYd] at this;exact this
   have h1:=h0.unren (ρ:=ρ) rfl;exact h1.sub (fun i hi bi hb=>by rw[bo i (hids i hi)];exact hb)
  ·obtain⟨o,ho'⟩:=qFo hid;cases hx;exact .slv id _ _ (bv id o ho')
 have ob : ∀ {bi:BI} {o o':Ob},qFk β F w bi o→CvO hs ρ (ho.map (·.1)) o o'→qFk β' F w bi o':=by
  intro bi o o' hok hc;cases o' with
  | dead=>trivial
  | live z' es' wr' full'=>
   cases o with
   | dead=>exact hc.elim
   | live z es wr full=>
    obtain⟨rfl,rfl,hfull,hes,hids⟩:=hc;have hren : ∀ {c:Array Value} {sz:Nat},yX β F w (qF0 ρ es') sz c→yX β' F w es' sz c:=by
     intro c sz hh;have h1:=hh.unren;intro i x hx;obtain⟨k1,k2⟩:=h1 i x hx;refine⟨k1,fun j y hy=>?_⟩;obtain⟨u,g1,g2,g3⟩:=k2 j y hy;refine⟨u,g1,g2.sub (fun r hr bi hb=>?_),g3⟩;have hrx:r∈x.ids:=by
      cases x with
      | agg cs=>simp only[V.ids];exact kT (List.mem_of_getElem? hy) hr
      | t t=>
       obtain⟨c,_,rfl⟩:=xT hy;simp[V.ids] at hr
      | _=>
       simp only[V.cells] at hy;cases j with
       | zero=>simp at hy;subst hy;exact hr
       | succ j=>simp at hy
     rw[bo r (hids r (kT (List.mem_of_getElem? hx) hrx))];exact hb
    unfold qFk at hok ⊢;obtain⟨g1,g2,g3⟩:=hok;have hlen:es'.length=es.length ∧ ∀ {c:Array Value},yX β F w es bi.sz c→yX β' F w es' bi.sz c:=by
     rcases hes with rfl | ⟨l,hes⟩
     ·exact⟨by rw[zL];simp,fun hh=>hren hh⟩
     ·refine⟨?_,fun hh=>hren (zIm R hes hh).2⟩;have:(qF0 ρ es').length=es.length:=by
       unfold qDo at hes;split at hes
       ·obtain⟨e,_⟩:=qE hes;simp only[Prod.mk.injEq] at e;rw[e.1]
       ·exact (vD hes).1
      rw[zL,List.length_map] at this;exact this
    refine⟨g1,fun h=>by rw[hlen.1];exact g2 (hfull h),?_⟩;cases hb:bi.blk with
    | none=>
     simp only[hb] at g3 ⊢;refine⟨?_,g3.2⟩;have:=hlen.1;rw[g3.1] at this;exact List.eq_nil_of_length_eq_zero this
    | some b=>
     simp only[hb] at g3 ⊢;obtain⟨c,e,fz,k1,k2,k3,k4,k5,k6,k7⟩:=g3;exact⟨c,e,fz,k1,k2,k3,by rw[hlen.1];exact k4,k5,hlen.2 k6,k7⟩
 have cases_ : ∀ id o',jQ (hv++ho) id=some o'→(∃ z full,o' = .live z [] true full∧β' id=some ⟨none,z,0⟩∧100≤id)∨(id∈ho.map (·.1) ∧ ∃ o,jQ hs (ρ id)=some o∧CvO hs ρ (ho.map (·.1)) o o'∧(id<100→ρ id=id)∧(100≤id→100≤ρ id)):=by
  intro id o' h;rw[qNi] at h;split at h
  ·rename_i o hvl;cases h;obtain⟨⟨z,full,rfl⟩,h100⟩:=h3.get id o' hvl;exact .inl ⟨z,full,rfl,bv id _ hvl,h100⟩
  ·obtain⟨⟨o,g1,g2⟩,g3,g4⟩:=h2.get id o' h;exact .inr ⟨qAz h,o,g1,g2,g3,g4⟩
 have notdead : ∀ {o o':Ob},CvO hs ρ (ho.map (·.1)) o o'→o'≠ .dead→o≠ .dead:=by
  intro o o' hc hd hd';subst hd';cases o' with
  | dead=>exact hd rfl
  | live _ _ _ _=>exact hc
 refine⟨β',F,R.tsz,R.dfr,fun t v' hv'=>?_,fun id o' ho'=>?_,fun id hn=>?_,fun i j bi bj b oi oj e1 e2 e3 e4 e5 e6 e7 e8=>?_,R.os,R.tape,R.output,R.size,R.ext,fun id z es full bi b e1 e2 e3=>?_,R.inF,R.inw,R.Fw,R.F0,fun id bi b e1 e2=>?_,fun g cs hg=>?_,fun k bi hk=>?_,R.gs⟩
 ·obtain⟨v,g1,g2⟩:=h1.get t v' hv';obtain⟨x,g3,g4⟩:=R.fr t v g1;exact⟨x,g3,val g4 g2⟩
 ·rcases cases_ id o' ho' with⟨z,full,rfl,hb,_⟩ | ⟨hm,o,g1,g2,_⟩
  ·exact⟨_,hb,rfl,fun _=>rfl,rfl,rfl⟩
  ·obtain⟨bi,g3,g4⟩:=R.hp _ o g1;exact⟨bi,by rw[bo id hm];exact g3,ob g4 g2⟩
 ·rw[qNi] at hn;split at hn
  ·cases hn
  ·rename_i hv0;simp[β',hv0,hn]
 ·rcases cases_ i oi e5 with⟨z,full,rfl,hb,_⟩ | ⟨hm,o,g1,g2,_⟩
  ·rw[hb] at e1;cases e1;cases e3
  ·rcases cases_ j oj e6 with⟨z,full,rfl,hb,_⟩ | ⟨hm',o',g1',g2',_⟩
   ·rw[hb] at e2;cases e2;cases e4
   ·rw[bo i hm] at e1;rw[bo j hm'] at e2;exact inj i j hm hm' (R.inj _ _ bi bj b o o' e1 e2 e3 e4 g1 g1' (notdead g2 e7) (notdead g2' e8))
 ·rcases cases_ id _ e1 with⟨z',full',_,hb,_⟩ | ⟨hm,o,g1,g2,g3,g4⟩
  ·rw[hb] at e2;cases e2;cases e3
  ·rw[bo id hm] at e2;cases o with
   | dead=>exact g2.elim
   | live z0 es0 wr0 full0=>
    obtain⟨_,rfl,_⟩:=g2;rcases R.old _ z0 es0 full0 bi b g1 e2 e3 with h | ⟨h,h'⟩
    ·exact .inl h
    ·refine .inr ⟨?_,h'⟩;rcases Nat.lt_or_ge id 100 with h7 | h7
     ·exact h7
     ·have:=g4 h7;omega
 ·cases hl:jQ hv id with
  | some o=>rw[bv id o hl] at e1;cases e1;cases e2
  | none=>
   cases hl2:jQ ho id with
   | none=>simp[β',hl,hl2] at e1
   | some o=>
    rw[bo id (qAz hl2)] at e1;exact R.blt _ bi b e1 e2
 ·have:=R.gl g cs hg;cases this with
  | ro _ ad news ha hn h1' hF hw h=>exact .ro cs _ news ha hn h1' hF hw h
 ·have hβ:=R.ext0 k bi hk;cases hl:jQ hs k with
  | none=>rw[R.dom k hl] at hβ;cases hβ
  | some o=>
   have hk100:=cx.d0 k bi hk;have hm:=hkeep k (qAz hl) hk100;rw[bo k hm];obtain⟨o',ho'⟩:=qFo hm;rw[(h2.get k o' ho').2.1 hk100];exact hβ
end Go.Eng
end
section
namespace Go.Eng
variable {tab:Tab} {gl:Gl} {fs:Fs} {hs:Hs} {Qx:qFz}
def zRu {ι:Type}(I:ι→Fs×Hs)(μ:ι→Nat)(i:ι)(Qx:qFz):qFz:=fun e fs' hs'=>match e with | .normal => ∃ j,μ j<μ i∧qJ fs' hs' (I j).1 (I j).2 | e=>Qx e fs' hs'
theorem qJf {a:AC}{ι:Type}(I:ι→Fs×Hs)(μ:ι→Nat)(i0:ι)(h0:qJ fs hs (I i0).1 (I i0).2)(h : ∀ i,a.wp tab gl (I i).1 (I i).2 (zRu I μ i Qx)):qVd tab gl a fs hs Qx:=⟨ι,I,μ,i0,h0,h⟩
def upK (n:Nat)(fI:Nat→Fs)(hI:Nat→Hs)(i:Nat)(Qx:qFz):qFz:=fun e fs' hs'=>match e with | .normal=>i<n∧qJ fs' hs' (fI (i+1)) (hI (i+1)) | e=>Qx e fs' hs'
theorem zJq {n:Nat}{fI:Nat→Fs}{hI:Nat→Hs}{i:Nat}:upK n fI hI i Qx .normal fs hs=(i<n∧qJ fs hs (fI (i+1)) (hI (i+1))):=Eq.trans (Eq.refl _) rfl
theorem zUc {n:Nat}{fI:Nat→Fs}{hI:Nat→Hs}{i id:Nat}:upK n fI hI i Qx (.exit id) fs hs=Qx (.exit id) fs hs:=Eq.trans (Eq.refl _) rfl
theorem jA3 {n:Nat}{fI:Nat→Fs}{hI:Nat→Hs}{i:Nat}:upK n fI hI i Qx .ret fs hs=Qx .ret fs hs:=Eq.trans (Eq.refl _) rfl
theorem qWm {v:Option V}{A B A' B':Prop}(hA:A→A')(hB:B→B'):qIb v A B→qIb v A' B':=by
 unfold qIb;split
 ·exact fun h=>⟨fun e=>hA (h.1 e),fun e=>hB (h.2 e)⟩
 ·exact id
theorem zH7 {v:Option V}{A B A' B':Prop}(hA:A→A')(hB:B→B'):qQw v A B→qQw v A' B':=by
 unfold qQw;split
 ·exact fun h=>⟨hA h.1,hB h.2⟩
 ·exact qWm hA hB
theorem zV {a:AC} : ∀ {fs:Fs} {hs:Hs} {Q Q':qFz},(∀ e f h,Q e f h→Q' e f h)→a.wp tab gl fs hs Q→a.wp tab gl fs hs Q':=by
 induction a with
 | skip=>intro fs hs Q Q' h hw;exact h _ _ _ hw
 | ret=>intro fs hs Q Q' h hw;exact h _ _ _ hw
 | exit id=>intro fs hs Q Q' h hw;exact h _ _ _ hw
 | seq a b iha ihb=>
  intro fs hs Q Q' h hw;refine iha (fun e f g hq=>?_) hw;cases e with
  | normal=>exact ihb h hq
  | exit id=>exact h _ _ _ hq
  | ret=>exact h _ _ _ hq
 | cond c a b iha ihb=>
  intro fs hs Q Q' h hw;exact qWm (iha h) (ihb h) hw
 | condb c a b iha ihb=>
  intro fs hs Q Q' h hw;exact zH7 (iha h) (ihb h) hw
 | block id a ih=>
  intro fs hs Q Q' h hw;refine ih (fun e f g hq=>?_) hw;cases e with
  | normal=>exact h _ _ _ hq
  | exit id'=>
   simp only at hq ⊢;split
   ·rename_i h1;rw[if_pos h1] at hq;exact h _ _ _ hq
   ·rename_i h1;rw[if_neg h1] at hq;exact h _ _ _ hq
  | ret=>exact h _ _ _ hq
 | loop a ih=>
  intro fs hs Q Q' h hw;obtain⟨ι,I,μ,i0,h0,hr⟩:=hw;refine⟨ι,I,μ,i0,h0,fun i=>ih (fun e f g hq=>?_) (hr i)⟩;cases e with
  | normal=>exact hq
  | exit id=>exact h _ _ _ hq
  | ret=>exact h _ _ _ hq
 | reg nb anc ops=>
  intro fs hs Q Q' h hw;have key : ∀ (ops:List zR) (nb:Nat) (fs:Fs) (hs:Hs) (acc:List (List Nat×List Nat)) (K K':Fs→Hs→List (List Nat×List Nat)→Prop),(∀ f g c,K f g c→K' f g c)→zAg tab gl ops nb fs hs acc K→zAg tab gl ops nb fs hs acc K':=by
   intro ops
   induction ops with
   | nil=>intro nb fs hs acc K K' h hw;exact h _ _ _ hw
   | cons o r ih=>
    intro nb fs hs acc K K' h hw;obtain⟨x,l,h1,h2⟩:=hw;exact⟨x,l,h1,ih _ _ _ _ _ _ h h2⟩
  exact key ops nb fs hs [] _ _ (fun f g c hq=>⟨hq.1,h _ _ _ hq.2⟩) hw
theorem qB {a:AC}(n:Nat)(fI:Nat→Fs)(hI:Nat→Hs)(h0:qJ fs hs (fI 0) (hI 0))(h : ∀ i,i≤n→a.wp tab gl (fI i) (hI i) (upK n fI hI i Qx)):qVd tab gl a fs hs Qx:=by
 refine qJf (ι := { i:Nat // i≤n }) (fun i=>(fI i.1,hI i.1)) (fun i=>n-i.1) ⟨0,Nat.zero_le _⟩ h0 (fun i=>?_);refine zV (fun e f g hq=>?_) (h i.1 i.2);cases e with
 | normal=>exact⟨⟨i.1+1,hq.1⟩,by simp only;have:=hq.1;omega,hq.2⟩
 | exit id=>exact hq
 | ret=>exact hq
theorem zU1 {ts:List T}:qD2 (ts.map .t)=some ts:=by
 induction ts with
 | nil=>rfl
 | cons x r ih=>simp[qD2,ih]
theorem zPs:qD2 []=some []:=Eq.trans (Eq.refl _) rfl
theorem qSo {x:T}{r:List V}:qD2 (.t x::r)=(qD2 r).map (x :: ·):=Eq.trans (Eq.refl _) rfl
theorem zPt {id i f:Nat}{r:List V}:qD2 (.ref id i f::r)=none:=Eq.trans (Eq.refl _) rfl
theorem zWy {g id i f:Nat}{r:List V}:qD2 (.bd g id i f::r)=none:=Eq.trans (Eq.refl _) rfl
theorem zWz {r:List V}:qD2 (.bq::r)=none:=Eq.trans (Eq.refl _) rfl
attribute [go_sem] zWz
attribute [go_sem] zWy
theorem zW2 {id i f:Nat}{r:List V}:qD2 (.sl id i f::r)=none:=Eq.trans (Eq.refl _) rfl
theorem zKi {r:List V}:qD2 (.nil::r)=none:=Eq.trans (Eq.refl _) rfl
theorem zPq {cs r:List V}:qD2 (.agg cs::r)=none:=Eq.trans (Eq.refl _) rfl
theorem zW1 {cs:List T}{r:List V}:qD2 (.ro cs::r)=none:=Eq.trans (Eq.refl _) rfl
theorem zW0 {f:FuncId}{cs r:List V}:qD2 (.fn f cs::r)=none:=Eq.trans (Eq.refl _) rfl
theorem zR1 {α γ:Type}{f:α→γ}:Option.map f none=none:=Eq.trans (Eq.refl _) rfl
theorem jEm {cs:List V}:V.mk cs=match qD2 cs with | some ts=> .t (.agg ts) | none=> .agg cs:=Eq.trans (Eq.refl _) rfl
theorem zK3 {g:V→Q (V×List Nat)}:qDp g [] = .ret ([],[]):=Eq.trans (Eq.refl _) rfl
theorem qJr {g:V→Q (V×List Nat)}{c:V}{r:List V}:qDp g (c::r)=(g c).bind fun p=>(qDp g r).bind fun q=> .ret (p.1::q.1,p.2++q.2):=Eq.trans (Eq.refl _) rfl
theorem zK6 {n:Nat}{x:T}:zJ n (.t x) = .ret (.t x,[]):=by cases n<;>rfl
theorem zQh {n:Nat}:zJ n .nil = .ret (.t (.sl []),[]):=by cases n<;>rfl
theorem zXh {n:Nat}{cs:List T}:zJ n (.ro cs) = .ret (.ro cs,[]):=by cases n<;>rfl
theorem zQi {n id i f:Nat}:zJ n (.ref id i f) = .ret (.ref id i f,[]):=by cases n<;>rfl
theorem zXf {n g id i f:Nat}:zJ n (.bd g id i f) = .ret (.bd g id i f,[]):=by cases n<;>rfl
attribute [go_sem] zXf
theorem zQg {n:Nat}{cs:List V}:zJ (n+1) (.agg cs)=(qDp (zJ n) cs).bind fun p=> .ret (V.mk p.1,p.2):=Eq.trans (Eq.refl _) rfl
theorem zXg {n:Nat}{f:FuncId}{cs:List V}:zJ (n+1) (.fn f cs)=(qDp (zJ n) cs).bind fun p=> .ret (.fn f p.1,p.2):=Eq.trans (Eq.refl _) rfl
theorem zXi {n id off len:Nat}:zJ (n+1) (.sl id off len) = .get id fun
  | .live _ es wr _=>Q.assert (off+len≤es.length)
   (match qD2 es with
   | some ts=> .ret (.t (.sl ((ts.drop off).take len)),if wr then [id] else [])
   | none=>(qDp (zJ n) es).bind fun p=>match qD2 p.1 with
    | some ts=> .ret (.t (.sl ((ts.drop off).take len)),if wr then id::p.2 else p.2)
    | none=> .fail)
  | .dead=> .fail:=Eq.trans (Eq.refl _) rfl
theorem zIj {n:Nat}{ids:List Nat}{obs:List Ob}{fz:List Nat}:qBz n [] ids obs fz = .ret (ids,obs,fz):=by cases n<;>rfl
theorem zD9 {n id:Nat}{todo ids:List Nat}{obs:List Ob}{fz:List Nat}:qBz (n+1) (id::todo) ids obs fz=if ids.contains id then qBz n todo ids obs fz else
  .get id fun
   | .live z es true full=>(qDo es).bind fun p=>qBz n (todo++(match qD2 es with | some _=>[] | none=>qA6 p.1)) (ids++[id]) (obs++[.live z p.1 true full]) (fz++p.2)
   | _=> .fail:=Eq.trans (Eq.refl _) rfl
theorem zQ6:qYc [] = .ret []:=Eq.trans (Eq.refl _) rfl
theorem zL9 {id:Nat}{r:List Nat}:qYc (id::r) = .get id fun
  | .live z es true full=>Q.assert (100≤id) ((qYc r).bind fun q=> .ret ((id,.live z es false full)::q))
  | _=> .fail:=Eq.trans (Eq.refl _) rfl
theorem zIh {α:Type}{nb:Nat}{k:Q α}:zD8 nb 0 k=k:=Eq.trans (Eq.refl _) rfl
theorem zIg {α:Type}{nb n:Nat}{k:Q α}:zD8 nb (n+1) k = .free nb (zD8 (nb+1) n k):=Eq.trans (Eq.refl _) rfl
theorem zX2 {ids:List Nat}{nb k:Nat}:gam ids nb k=match ids[k]? with | some id=>id | none=>nb+(k-ids.length):=Eq.trans (Eq.refl _) rfl
theorem zM6 {ids:List Nat}{nb k:Nat}:qMj ids nb k []=[]:=Eq.trans (Eq.refl _) rfl
theorem zIs {ids:List Nat}{nb k:Nat}{o:Ob}{r:List Ob}:qMj ids nb k (o::r)=(gam ids nb k,o.ren (gam ids nb))::qMj ids nb (k+1) r:=Eq.trans (Eq.refl _) rfl
theorem zS2 {ρ:Nat→Nat}{z:Nat}{es:List V}{wr full:Bool}:(Ob.live z es wr full).ren ρ = .live z (qF0 ρ es) wr full:=Eq.trans (Eq.refl _) rfl
theorem jFo {ρ:Nat→Nat}{x:T}:(V.t x).ren ρ = .t x:=Eq.trans (Eq.refl _) rfl
theorem zSz {ρ:Nat→Nat}:V.nil.ren ρ = .nil:=Eq.trans (Eq.refl _) rfl
theorem zS0 {ρ:Nat→Nat}{id i f:Nat}:(V.ref id i f).ren ρ = .ref (ρ id) i f:=Eq.trans (Eq.refl _) rfl
theorem zZu {ρ:Nat→Nat}{g id i f:Nat}:(V.bd g id i f).ren ρ = .bd g (ρ id) i f:=Eq.trans (Eq.refl _) rfl
theorem zZv {ρ:Nat→Nat}:V.bq.ren ρ = .bq:=Eq.trans (Eq.refl _) rfl
attribute [go_sem] zZv
attribute [go_sem] zZu
theorem zZx {ρ:Nat→Nat}{cs:List T}:(V.ro cs).ren ρ = .ro cs:=Eq.trans (Eq.refl _) rfl
theorem zZy {ρ:Nat→Nat}{id i f:Nat}:(V.sl id i f).ren ρ = .sl (ρ id) i f:=Eq.trans (Eq.refl _) rfl
theorem zSy {ρ:Nat→Nat}{cs:List V}:(V.agg cs).ren ρ = .agg (qF0 ρ cs):=Eq.trans (Eq.refl _) rfl
theorem zS1 {ρ:Nat→Nat}{cs:List V}:(V.tup cs).ren ρ = .tup (qF0 ρ cs):=Eq.trans (Eq.refl _) rfl
theorem zZw {ρ:Nat→Nat}{f:FuncId}{cs:List V}:(V.fn f cs).ren ρ = .fn f (qF0 ρ cs):=Eq.trans (Eq.refl _) rfl
theorem zSx {ρ:Nat→Nat}:qF0 ρ []=[]:=Eq.trans (Eq.refl _) rfl
theorem zNj {ρ:Nat→Nat}{c:V}{r:List V}:qF0 ρ (c::r)=c.ren ρ::qF0 ρ r:=Eq.trans (Eq.refl _) rfl
theorem zNf:qA6 []=[]:=Eq.trans (Eq.refl _) rfl
theorem zIu {c:V}{r:List V}:qA6 (c::r)=c.refs++qA6 r:=Eq.trans (Eq.refl _) rfl
theorem jFk {x:T}:(V.t x).refs=[]:=Eq.trans (Eq.refl _) rfl
theorem zZs {cs:List T}:(V.ro cs).refs=[]:=Eq.trans (Eq.refl _) rfl
theorem zSt:V.nil.refs=[]:=Eq.trans (Eq.refl _) rfl
theorem zZt {id i f:Nat}:(V.sl id i f).refs=[]:=Eq.trans (Eq.refl _) rfl
theorem zSu {id i f:Nat}:(V.ref id i f).refs=[id]:=Eq.trans (Eq.refl _) rfl
theorem zZp {g id i f:Nat}:(V.bd g id i f).refs=[id]:=Eq.trans (Eq.refl _) rfl
theorem zZq:V.bq.refs=[]:=Eq.trans (Eq.refl _) rfl
attribute [go_sem] zZq
attribute [go_sem] zZp
theorem zSs {cs:List V}:(V.agg cs).refs=qA6 cs:=Eq.trans (Eq.refl _) rfl
theorem zSv {cs:List V}:(V.tup cs).refs=qA6 cs:=Eq.trans (Eq.refl _) rfl
theorem zZr {f:FuncId}{cs:List V}:(V.fn f cs).refs=qA6 cs:=Eq.trans (Eq.refl _) rfl
theorem zRc:qNg []=[]:=Eq.trans (Eq.refl _) rfl
theorem zMg {c:V}{r:List V}:qNg (c::r)=c.ids++qNg r:=Eq.trans (Eq.refl _) rfl
theorem jJz {x:T}:(V.t x).ids=[]:=Eq.trans (Eq.refl _) rfl
theorem jDz {cs:List T}:(V.ro cs).ids=[]:=Eq.trans (Eq.refl _) rfl
theorem zX6:V.nil.ids=[]:=Eq.trans (Eq.refl _) rfl
theorem jD0 {id i f:Nat}:(V.sl id i f).ids=[id]:=Eq.trans (Eq.refl _) rfl
theorem zX7 {id i f:Nat}:(V.ref id i f).ids=[id]:=Eq.trans (Eq.refl _) rfl
theorem jDw {g id i f:Nat}:(V.bd g id i f).ids=[id]:=Eq.trans (Eq.refl _) rfl
theorem jDx:V.bq.ids=[]:=Eq.trans (Eq.refl _) rfl
attribute [go_sem] jDx
attribute [go_sem] jDw
theorem zX5 {cs:List V}:(V.agg cs).ids=qNg cs:=Eq.trans (Eq.refl _) rfl
theorem zX8 {cs:List V}:(V.tup cs).ids=qNg cs:=Eq.trans (Eq.refl _) rfl
theorem jDy {f:FuncId}{cs:List V}:(V.fn f cs).ids=qNg cs:=Eq.trans (Eq.refl _) rfl
theorem zQf {ts:List T}:qDo (ts.map .t) = .ret (ts.map .t,[]):=by simp[qDo,zU1]
theorem zS5 {x:V}:zWd [x]=x:=Eq.trans (Eq.refl _) rfl
theorem zS4:zWd [] = .tup []:=Eq.trans (Eq.refl _) rfl
theorem zS6 {x y:V}{r:List V}:zWd (x::y::r) = .tup (x::y::r):=Eq.trans (Eq.refl _) rfl
theorem zRt {f g:FuncId}{s:FnS}{r:Tab}:Tab.look ((g,s)::r) f=if g=f then some s else Tab.look r f:=Eq.trans (Eq.refl _) rfl
theorem jDh {x:T}:(V.t x).flat=x.flat:=Eq.trans (Eq.refl _) rfl
theorem zQv {k:IntKind}{n:Int}:(T.int k n).flat=true:=Eq.trans (Eq.refl _) rfl
theorem zLu {b:Bool}:(T.bool b).flat=true:=Eq.trans (Eq.refl _) rfl
theorem zQw {s:ByteArray}:(T.str s).flat=true:=Eq.trans (Eq.refl _) rfl
theorem zLr:zD5 []=true:=Eq.trans (Eq.refl _) rfl
theorem zIe {o:Ob}{r:List Ob}:zD5 (o::r)=(o.flat&&zD5 r):=Eq.trans (Eq.refl _) rfl
theorem zS8 {n:Nat}{vs:List V}:jIs n vs=(qDp (zJ 4) vs).bind fun p=>(qBz (12+n) (List.range n++qA6 p.1) [] [] []).bind fun q=>
  Q.assert ((q.1.all fun i => !(p.2++q.2.2).contains i)=true) ((qYc (p.2++q.2.2)).bind fun _=> .ret (zWd (qF0 (fun r=>q.1.idxOf r) p.1),q.2.1.map (Ob.ren fun r=>q.1.idxOf r))):=Eq.trans (Eq.refl _) rfl
theorem zKx {f:FuncId}{keep:Bool}{vs:List V}{nb:Nat}:qU7 tab f keep vs nb=(qSx keep vs).bind fun cp=>
  (Q.of ((tab.look f).bind fun s=>s (qF0 (fun r=>cp.ids.idxOf r) cp.aS) (cp.obs.map (Ob.ren fun r=>cp.ids.idxOf r)))).bind fun p=>
   Q.assert (cp.ids.length≤p.2.length∧(keep=true∨p.1.flat=true∧zD5 p.2=true))
    (zD8 nb (p.2.length-cp.ids.length) (.ret (p.1.ren (gam cp.ids nb),(if keep then cp.fw else [])++qMj cp.ids nb 0 p.2))):=Eq.trans (Eq.refl _) rfl
theorem zDt {keep:Bool}{vs:List V}:qSx keep vs=(qDp (zJ 4) vs).bind fun p=>(qBz 12 (qA6 p.1) [] [] []).bind fun q=>
  Q.assert ((keep=true∨q.2.2=[])∧(q.1.all fun i => !(p.2++q.2.2).contains i)=true) ((qYc (p.2++q.2.2)).bind fun fw=> .ret ⟨p.1,q.1,q.2.1,p.2++q.2.2,fw⟩):=Eq.trans (Eq.refl _) rfl
attribute [go_sem] zJq zUc jA3 zU1 zPs qSo zPt zW2 zKi zPq zW1 zW0 zR1 jEm zK3 qJr zK6 zQh zXh zQi zQg zXg zXi zIj zD9
 zQ6 zL9 zIh zIg zX2 zM6 zIs zS2 jFo zSz zS0 zZx zZy zSy zS1 zZw zSx zNj zWb zNf zIu jFk zZs zSt zZt zSu zSs zSv zZr
 zQf zS5 zS4 zS6 zRt jDh zQv zLu zQw zLr zIe zS8 zKx zDt zNg
attribute [go_sem] List.length_cons List.length_nil List.map_cons List.map_nil List.getElem?_cons_zero List.getElem?_cons_succ List.getElem?_nil List.take_succ_cons List.take_zero List.take_nil List.drop_succ_cons List.drop_zero List.drop_nil List.set_cons_zero List.set_cons_succ
 List.range_zero List.all_nil List.all_cons List.length_map Bool.and_true Bool.true_and List.length_replicate
theorem jI9 {b:Bool}:(b==true)=b:=by cases b<;>rfl
theorem jI8 {b:Bool}:(b==false) = !b:=by cases b<;>rfl
attribute [go_sem] zRc zMg jJz jDz zX6 jD0 zX7 zX5 zX8 jDy zVp jI9 jI8 decide_true decide_false Bool.not_true Bool.not_false
end Go.Eng
end
