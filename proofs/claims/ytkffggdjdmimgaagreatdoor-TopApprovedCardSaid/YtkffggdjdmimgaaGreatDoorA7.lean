/- A part of an abstract machine, its walks, their tie. -/
import Derived.Test.YtkffggdjdmimgaaGreatDoorA6
set_option linter.all false
section
namespace Go.Eng
open List
theorem qTv {hm:Nat→Option Ob} : ∀ {n:Nat} {todo ids:List Nat} {obs:List Ob} {fz ids':List Nat} {obs':List Ob} {fz' l:List Nat},(qDe n todo ids obs fz).run hm=some ((ids',obs',fz'),l) → ∃ s,ids'=ids++s
 | n,[],ids,obs,fz,ids',obs',fz',l,h=>by
  have h':(Q.ret (ids,obs,fz):Q _).run hm=some ((ids',obs',fz'),l):=by cases n<;>exact h
  obtain⟨e,_⟩:=qF h';cases e;exact⟨[],sM⟩
 | 0,_::_,ids,obs,fz,ids',obs',fz',l,h=>by cases h
 | n+1,id::todo,ids,obs,fz,ids',obs',fz',l,h=>by
  simp only[qDe] at h;split at h
  ·exact qTv h
  ·obtain⟨o,l',ho,hs2,_⟩:=vV h;cases o with
   | dead=>cases hs2
   | live z es wr full=>
    cases wr with
    | false=>cases hs2
    | true=>
     obtain⟨p,l1,l2,hp,hs3,_⟩:=zC hs2;obtain⟨s,hs⟩:=qTv hs3;exact⟨id::s,by rw[hs];simp⟩
theorem qU8 {hm:Nat→Option Ob} : ∀ {m n s:Nat} {rest:List Nat} {obs:List Ob} {fz ids':List Nat} {obs':List Ob} {fz' l:List Nat},(qDe n (List.range' s m++rest) (List.range s) obs fz).run hm=some ((ids',obs',fz'),l) → ∃ t,ids'=List.range (s+m)++t
 | 0,n,s,rest,obs,fz,ids',obs',fz',l,h=>by
  obtain⟨t,ht⟩:=qTv h;exact⟨t,ht⟩
 | m+1,n,s,rest,obs,fz,ids',obs',fz',l,h=>by
  cases n with
  | zero=>rw[range'_succ] at h;cases h
  | succ n=>
   rw[range'_succ,cons_append] at h;simp only[qDe] at h;split at h
   ·rename_i hc;simp at hc
   ·obtain⟨o,l',ho,hs2,_⟩:=vV h;cases o with
    | dead=>cases hs2
    | live z es wr full=>
     cases wr with
     | false=>cases hs2
     | true=>
      obtain⟨p,l1,l2,hp,hs3,_⟩:=zC hs2;rw[←range_succ,append_assoc] at hs3;obtain⟨t,ht⟩:=qU8 hs3;exact⟨t,by rw[ht];congr 2;omega⟩
def jEo:List V→V
 | [x]=>x
 | xs=> .tup xs
def jSf (n:Nat)(vs:List V):Q (V×List Ob):=
 (qFn (zO 4) vs).bind fun p=>(qDe (12+n) (List.range n++qCe p.1) [] [] []).bind fun q=>
  Q.assert ((q.1.all fun i => !(p.2++q.2.2).contains i)=true) ((zB4 (p.2++q.2.2)).bind fun _=> .ret (jEo (qHz (fun r=>q.1.idxOf r) p.1),q.2.1.map (Ob.ren fun r=>q.1.idxOf r)))
def rsQ (fs:Fs):List (Nat×Option (Nat×Bool))→Q (List V)
 | []=> .ret []
 | (t,none)::r=>(Q.of (jM fs t)).bind fun v=>(rsQ fs r).bind fun vs=> .ret (v::vs)
 | (t,some (n,agg))::r=>(Q.of (jM fs t)).bind fun v=>(qT5 n agg [v]).bind fun p=>(rsQ fs r).bind fun vs=> .ret (p.1::vs)
def qV (rs:List (Nat×Option (Nat×Bool)))(n:Nat)(R:V→List Ob→Prop):qHw:=fun e fs hs=>
 match e with
 | .exit _=>False
 | _=>((rsQ fs rs).bind fun vs=>jSf n vs).wp hs (fun p _=>R p.1 p.2)
def qE {α:Type}:Nat→List α→List (Nat×α)
 | _,[]=>[]
 | i,x::r=>(i,x)::qE (i+1) r
theorem qAq {α:Type} : ∀ {l:List α} {i t:Nat},jM (qE i l) t=if i≤t then l[t-i]? else none
 | [],i,t=>by simp[qE,jM]
 | x::r,i,t=>by
  simp only[qE,jM];by_cases h:i=t
  ·subst h;simp
  ·rw[if_neg h,qAq];by_cases h1:i≤t
   ·have h2:i+1≤t:=oM;rw[if_pos h1,if_pos h2,show t-i=(t-(i+1))+1 by omega];simp
   ·have h2 : ¬ i+1≤t:=oM;rw[if_neg h1,if_neg h2]
def zHn (vs:List Value):Value:=match vs with
 | [x]=>x
 | xs=> .tuple xs.toArray
def qNk (P:Program):List ResultVar→Option (List (Nat×Option (Nat×Bool)))
 | []=>some []
 | .tmp t::r=>(qNk P r).map fun l=>(t,none)::l
 | .cell a t::r=>match P.info? t,P.underlying t with
  | some i,some d=>if wS d∨i.size=1 then (qNk P r).map fun l=>(a,some (i.size,wS d))::l else none
  | _,_=>none
def jEn (tmps:Array Value):ResultVar→Sem Value
 | .tmp t=>pure (tmps.getD t undef)
 | .cell a t=>do loadVar t (←asAddr (tmps.getD a undef))
theorem qSa {cx:Cx}{β:Nat→Option BI}{F:Nat→Prop}{fs:Fs}{hs:Hs}{a:Act}{w:World}(R:Rel cx β F (jM fs) (jM hs) a w) : ∀ {rv:List ResultVar} {rs:List (Nat×Option (Nat×Bool))} {vs:List V} {l:List Nat},qNk cx.P rv=some rs→(rsQ fs rs).run (jM hs)=some (vs,l)→
  ∃ xs,(rv.mapM (jEn a.tmps)).run cx.P w = .ok xs w∧qBm (qW β F w) vs xs
 | [],rs,vs,l,h,hq=>by
  cases h;obtain⟨rfl,_⟩:=qF hq;exact⟨[],sM,.nil⟩
 | .tmp t::r,rs,vs,l,h,hq=>by
  simp only[qNk,Option.map_eq_some_iff] at h;obtain⟨rs',hrs,rfl⟩:=h;simp only[rsQ] at hq;obtain⟨v,hv,hq⟩:=qL hq;obtain⟨us,l1,l2,hu,hq,_⟩:=zC hq;obtain⟨rfl,_⟩:=qF hq;obtain⟨x,h1,h2⟩:=R.fr t v hv;obtain⟨xs,h3,h4⟩:=qSa R hrs hu;refine⟨x::xs,?_,.cons h2 h4⟩;rw[mapM_cons,Sem.run_bind];have e:(jEn a.tmps (.tmp t)).run cx.P w = .ok x w:=by simp[jEn,h1]
  rw[e,Result.andThen];simp only[Sem.run_bind,h3,Result.andThen];simp
 | .cell t ty::r,rs,vs,l,h,hq=>by
  simp only[qNk] at h;split at h
  ·rename_i i d hi hd;split at h
   ·rename_i hcond;simp only[Option.map_eq_some_iff] at h;obtain⟨rs',hrs,rfl⟩:=h;simp only[rsQ] at hq;obtain⟨v,hv,hq⟩:=qL hq;obtain⟨⟨u,W⟩,l0,l3,hl,hq,_⟩:=zC hq;obtain⟨us,l1,l2,hu,hq,_⟩:=zC hq;obtain⟨rfl,_⟩:=qF hq;obtain⟨x,h1,h2⟩:=R.fr t v hv;obtain⟨xs,h3,h4⟩:=qSa R hrs hu;have hx:a.eval (.tmp t)=x:=by simp[Act.eval,h1]
    have han:qTf cx.P ty (.tmp t)=some (.load i.size (wS d),[.tmp t]):=by simp[qTf,hi,hd,hcond]
    obtain⟨_,y,h5,h6⟩:=zVi (nb:=0) R han (vs:=[v]) (.cons (by rw[hx];exact h2) .nil) (by simpa [sem] using hl);rw[hx] at h5;have hptr : ∃ ad,x = .pointer (some ad):=by
     cases v<;>simp only[qT5] at hl<;>(try (cases hl;done))
     ·cases h2;exact⟨_,rfl⟩
     ·cases h2;exact⟨_,rfl⟩
    obtain⟨ad,rfl⟩:=hptr;refine⟨y::xs,?_,.cons h6 h4⟩;rw[mapM_cons,Sem.run_bind];have e:(jEn a.tmps (.cell t ty)).run cx.P w = .ok y w:=by
     have e0:a.tmps.getD t undef = .pointer (some ad):=by simp[h1]
     rw[←h5];simp only[jEn,e0,Instr.loadAt,Instr.sureAddr,asAddr]
    rw[e,Result.andThen];simp only[Sem.run_bind,h3,Result.andThen];simp
   ·cases h
  ·cases h
theorem qQw {P:Program}{fn:Func}{tmps:Array Value}{w:World}{xs:List Value}(h:(fn.results.toList.mapM (jEn tmps)).run P w = .ok xs w):(results fn tmps).run P w = .ok (zHn xs) w:=by
 have e:results fn tmps=(do
   let vs ←fn.results.mapM (jEn tmps)
   pure (if h:vs.size=1 then vs[0] else .tuple vs)):=by
  unfold results;congr 1
 rw[e,Array.mapM_eq_mapM_toList,Sem.run_bind];have k2:(Functor.map List.toArray (fn.results.toList.mapM (jEn tmps))).run P w = .ok xs.toArray w:=by
  rw[map_eq_pure_bind,Sem.run_bind,h,Result.andThen];simp
 rw[k2,Result.andThen];cases xs with
 | nil=>simp[zHn]
 | cons t r=>cases r with
  | nil=>simp[zHn]
  | cons t2 r=>simp[zHn]
theorem qYj {β:Nat→Option BI}{F:Nat→Prop}{w:World}{vs:List V}{us:List Value}(h:qBm (qW β F w) vs us):qW β F w (jEo vs) (zHn us):=by
 have tup:qW β F w (.tup vs) (.tuple us.toArray):=by
  refine .tup vs _ (by simpa using h.length.symm) (fun i c u hc hu=>?_);obtain⟨y,h1,h2⟩:=h.get' i c hc;have:us[i]?=some u:=by simpa using hu
  rw[this] at h1;cases h1;exact h2
 cases h with
 | nil=>exact tup
 | cons h1 t=>cases t with
  | nil=>exact h1
  | cons h2 t=>exact tup
theorem zK6 {P:Program}{G:Gl}{tab:Tab}{f:FuncId}{fn:Func}{c:Code}{ac:AC}{hints:List (Nat×List Nat)}{rs:List (Nat×Option (Nat×Bool))}(hf:P.funcs[f]?=some fn)(hb:fn.body=some c)(hann:ann P fn.ntmps hints c=some ac)(hmx:P.follows .mixedOrders=true)
  (ht:qCc P G tab) (hrs:qNk P fn.results.toList=some rs) {aS:List V} {ins:List Ob} {r:V} {outs:List Ob} (hn:aS.length≤fn.ntmps) (hi:ins.length≤100)
  (h:ac.wp tab G (qE 0 aS) (qE 0 ins) (qV rs ins.length (fun r' outs'=>r'=r∧outs'=outs))):zMa P G f aS ins r outs:=by
 intro w β F vals env fits hargs;have hd0 : ∀ k bi,β k=some bi→k<100:=by
  intro k bi h;rcases Nat.lt_or_ge k ins.length with h1 | h1
  ·omega
  ·rw[fits.dom k h1] at h;cases h
 let cx:Cx := { P,w0:=w,F0:=F,inb:=fun b => ∃ k bi,β k=some bi∧bi.blk=some b,nt:=fn.ntmps,gl:=G,β0:=β,d0:=hd0 }
 have hlen:aS.length=vals.size:=by simpa using hargs.length
 have lookAs : ∀ t v,jM (qE 0 aS) t=some v→aS[t]?=some v:=by
  intro t v h;simpa [qAq] using h
 have lookIns : ∀ t v,jM (qE 0 ins) t=some v→ins[t]?=some v:=by
  intro t v h;simpa [qAq] using h
 have R0:Rel cx β F (jM (qE 0 aS)) (jM (qE 0 ins)) { tmps:=vals++Array.replicate (fn.ntmps-vals.size) undef,defers:=[] } w:=by
  refine⟨by simp[cx];omega,rfl,fun t v hv=>?_,fun id o ho=>?_,fun id hn=>?_,fun i j bi bj b oi oj h1 h2 h3 h4 _ _ _ _=>fits.inj i j bi bj b h1 h2 h3 h4,rfl,rfl,rfl,Nat.le_refl _,fun _ _ _=>rfl,fun id z es full bi b h1 h2 h3=> .inr ⟨?_,id,bi,h2,h3⟩,fun b hb=>?_,fun b hb=>?_,env.Fw,fun _ _=>Iff.rfl,fun id bi b h1 h2=>(fits.blt id bi b h1 h2).1,fun g cs hg=>?_,fun _ _ h=>h,env.gs⟩
  ·obtain⟨x,h1,h2⟩:=hargs.get' t v (lookAs t v hv);refine⟨x,?_,h2⟩;have hlt:t<vals.size:=by
    have:=(List.getElem?_eq_some_iff.1 (lookAs t v hv)).1;omega
   rw[Array.getElem?_append_left hlt];simpa using h1
  ·obtain⟨bi,h1,h2,_⟩:=fits.ok id o (lookIns id o ho);exact⟨bi,h1,h2⟩
  ·refine fits.dom id ?_;rcases Nat.lt_or_ge id ins.length with h1 | h1
   ·rw[qAq] at hn;simp[h1] at hn
   ·exact h1
  ·have:=(List.getElem?_eq_some_iff.1 (lookIns id _ h1)).1;omega
  ·obtain⟨k,bi,h1,h2⟩:=hb;exact (fits.blt k bi b h1 h2).2
  ·obtain⟨k,bi,h1,h2⟩:=hb;exact (fits.blt k bi b h1 h2).1
  ·exact (env.gl g cs hg).mono (fun _ _ h=>by cases h) (fun _ h=>h) (fun _ _=>rfl)
 refine calls_of_wp hf hb (AC.sound (cx:=cx) ht hmx hann h R0 (fun e fs hs βR FR a w' hq R=>?_));have fin:((rsQ fs rs).bind fun vs=>jSf ins.length vs).wp hs (fun p _=>p.1=r∧p.2=outs)→a.defers=[] ∧ ∃ v,(results fn a.tmps).run P w' = .ok v w' ∧ ∃ x β' F',Ending.returned v = .returned x∧qRh w β F ins r outs x β' F' w':=by
  intro hq;rw[Q.wp_bind] at hq;obtain⟨vs,l0,hvs,⟨r',outs'⟩,l,hrun,e1,e2⟩:=hq;obtain⟨xs,hxs,hall⟩:=qSa (cx:=cx) R hrs hvs;refine⟨R.dfr,_,qQw hxs,?_⟩
  ·simp only at e1 e2;subst e1 e2;unfold jSf at hrun;obtain⟨p,l1,l2,hp,hrun,_⟩:=zC hrun;obtain⟨q,l3,l4,hqq,hrun,_⟩:=zC hrun;obtain⟨hdis,hrun⟩:=qS hrun;obtain⟨fw,l5,l6,hfw,hrun,_⟩:=zC hrun;obtain⟨e,_⟩:=qF hrun;simp only[Prod.mk.injEq] at e;obtain⟨rfl,rfl⟩:=e;obtain⟨ids,obs,fzq⟩:=q;obtain⟨t,htt⟩:=qU8 (s:=0) (m:=ins.length) (n:=12+ins.length) (rest:=qCe p.1) (by simpa [range_eq_range'] using hqq);have hidk : ∀ k,k<ins.length→ids[k]?=some k:=by
    intro k hk;rw[htt,getElem?_append_left (by simpa using hk)];simp[hk]
   obtain⟨F1,R1,hFF,hnd,hlo,hfwl,hlive,fits',hres⟩:=zN1 R hp hqq (fun r h=>by simp[h]) hdis hfw hall;have hβk : ∀ k bi,β k=some bi→βR k=some bi:=R1.ext0;have hklt : ∀ k bi,β k=some bi→k<ins.length:=by
    intro k bi h;rcases Nat.lt_or_ge k ins.length with h1 | h1
    ·exact h1
    ·rw[fits.dom k h1] at h;cases h
   refine⟨_,qH9 ids βR,F1,rfl,fits',qYj hres,fun k hk=>?_,fun k bi b hk h1 h2=>?_,fun b hb=>R1.F0 b hb,R1.Fw,R1.os,R1.tape,R1.output,R1.size,fun b hb hk=>R1.ext b hb (fun ⟨k,bi,h1,h2⟩=>hk k bi h1 h2)⟩
   ·obtain⟨bi,h1,_⟩:=fits.ok k ins[k] (by simp[hk]);simp[qH9,hidk k hk,hβk k bi h1,h1]
   ·unfold qH9 at h1;rw[Option.bind_eq_some_iff] at h1;obtain⟨id,hid,h1⟩:=h1;obtain⟨z,es,full,_,hl⟩:=hlive k id hid;rcases R1.old id z es full bi b hl h1 h2 with h | ⟨_,k0,bi0,g1,g2⟩
    ·exact h
    ·exfalso;have hk0:=hklt k0 bi0 g1;obtain⟨z0,es0,full0,_,hl0⟩:=hlive k0 k0 (hidk k0 hk0);have e:=R1.inj id k0 bi bi0 b _ _ h1 (hβk k0 bi0 g1) h2 g2 hl hl0 sM sM;subst e;have hi1:k<ids.length:=(List.getElem?_eq_some_iff.1 hid).1;have hi2:id<ids.length:=(List.getElem?_eq_some_iff.1 (hidk id hk0)).1;have:=qB9 hnd hi1 hi2 (by
      have a1:=hid;have a2:=hidk id hk0;rw[getElem?_eq_getElem hi1] at a1;rw[getElem?_eq_getElem hi2] at a2;rw[Option.some.inj a1,Option.some.inj a2])
     omega
 cases e with
 | normal=>exact fin hq
 | ret=>exact fin hq
 | exit id=>exact hq.elim
end Go.Eng
end
section
namespace Go.Eng
open List
variable {tab:Tab} {gl:Gl} {fs:Fs} {hs:Hs} {Qx:qHw}
theorem jQ9:AC.skip.wp tab gl fs hs Qx=Qx .normal fs hs:=Eq.trans (Eq.refl _) rfl
theorem jV3:AC.ret.wp tab gl fs hs Qx=Qx .ret fs hs:=Eq.trans (Eq.refl _) rfl
theorem jQ7 {id:Nat}:(AC.exit id).wp tab gl fs hs Qx=Qx (.exit id) fs hs:=Eq.trans (Eq.refl _) rfl
def jSh (tab:Tab)(gl:Gl)(b:AC)(Qx:qHw):qHw:=fun e fs' hs'=>match e with | .normal=>b.wp tab gl fs' hs' Qx | e=>Qx e fs' hs'
def zMl (id:Nat)(Qx:qHw):qHw:=fun e fs' hs'=>match e with | .exit id'=>(if id'=id then Qx .normal fs' hs' else Qx (.exit id') fs' hs') | e=>Qx e fs' hs'
theorem jV4 {a b:AC}:(AC.seq a b).wp tab gl fs hs Qx=a.wp tab gl fs hs (jSh tab gl b Qx):=Eq.trans (Eq.refl _) rfl
theorem zKy {b:AC}:jSh tab gl b Qx .normal fs hs=b.wp tab gl fs hs Qx:=Eq.trans (Eq.refl _) rfl
theorem zVt {b:AC}{id:Nat}:jSh tab gl b Qx (.exit id) fs hs=Qx (.exit id) fs hs:=Eq.trans (Eq.refl _) rfl
theorem jBn {b:AC}:jSh tab gl b Qx .ret fs hs=Qx .ret fs hs:=Eq.trans (Eq.refl _) rfl
theorem jJ4 {id:Nat}{a:AC}:(AC.block id a).wp tab gl fs hs Qx=a.wp tab gl fs hs (zMl id Qx):=Eq.trans (Eq.refl _) rfl
theorem zCz {id:Nat}:zMl id Qx .normal fs hs=Qx .normal fs hs:=Eq.trans (Eq.refl _) rfl
theorem zO2 {id:Nat}:zMl id Qx .ret fs hs=Qx .ret fs hs:=Eq.trans (Eq.refl _) rfl
theorem zJl {id id':Nat}:zMl id Qx (.exit id') fs hs=if id'=id then Qx .normal fs hs else Qx (.exit id') fs hs:=Eq.trans (Eq.refl _) rfl
theorem jQ6 {c:qH0}{a b:AC}:(AC.cond c a b).wp tab gl fs hs Qx=qLb (c.val gl (jM fs)) (a.wp tab gl fs hs Qx) (b.wp tab gl fs hs Qx):=Eq.trans (Eq.refl _) rfl
theorem jJ5 {c:qH0}{a b:AC}:(AC.condb c a b).wp tab gl fs hs Qx=qVk (c.val gl (jM fs)) (a.wp tab gl fs hs Qx) (b.wp tab gl fs hs Qx):=Eq.trans (Eq.refl _) rfl
def qZ6 (tab:Tab)(gl:Gl)(a:AC)(fs:Fs)(hs:Hs)(Qx:qHw):Prop:=zRk (fun fs hs K=>a.wp tab gl fs hs K) fs hs Qx
theorem jQ8 {a:AC}:(AC.loop a).wp tab gl fs hs Qx=qZ6 tab gl a fs hs Qx:=Eq.trans (Eq.refl _) rfl
@[congr] theorem jG9 {a:AC} {fs':Fs} {hs':Hs} (h1:fs=fs') (h2:hs=hs'):qZ6 tab gl a fs hs Qx=qZ6 tab gl a fs' hs' Qx:=by rw[h1,h2]
def jOn (anc:Option (List Nat))(Qx:qHw):Fs→Hs→List (List Nat×List Nat)→Prop:=fun fs' hs' acc=>(match anc with | none=>True | some l=>chk l acc=true)∧Qx .normal fs' hs'
theorem zUu {acc:List (List Nat×List Nat)}:jOn none Qx fs hs acc=Qx .normal fs hs:=by simp[jOn]
theorem zUv {l:List Nat}{acc:List (List Nat×List Nat)}:jOn (some l) Qx fs hs acc=(chk l acc=true∧Qx .normal fs hs):=Eq.trans (Eq.refl _) rfl
def opK (tab:Tab)(gl:Gl)(r:List zZ)(nb:Nat)(fs:Fs)(d:Option Nat)(hs:Hs)(acc:List (List Nat×List Nat))(K:Fs→Hs→List (List Nat×List Nat)→Prop):V×Wr→List Nat→Prop:=
 fun p l=>zFw tab gl r nb (jEz fs d p.1) (zCg hs p.2) (acc++[(kQ p.2,l)]) K
theorem jHm {r:List zZ}{nb:Nat}{d:Option Nat}{acc:List (List Nat×List Nat)}{K:Fs→Hs→List (List Nat×List Nat)→Prop}{v:V}{W:Wr}{l:List Nat} :
  opK tab gl r nb fs d hs acc K (v,W) l=zFw tab gl r nb (jEz fs d v) (zCg hs W) (acc++[(kQ W,l)]) K:=Eq.trans (Eq.refl _) rfl
def jT5 {α:Type}(id:Nat)(K:α→List Nat→Prop):α→List Nat→Prop:=fun x l=>K x (id::l)
theorem zZd {α:Type}{id:Nat}{K:α→List Nat→Prop}{x:α}{l:List Nat}:jT5 id K x l=K x (id::l):=Eq.trans (Eq.refl _) rfl
def jSt {α:Type}(l:List Nat)(K:α→List Nat→Prop):α→List Nat→Prop:=fun x l'=>K x (l++l')
theorem zXg {α:Type}{l l':List Nat}{K:α→List Nat→Prop}{x:α}:jSt l K x l'=K x (l++l'):=Eq.trans (Eq.refl _) rfl
def jS1 {α γ:Type}(hs:Hs)(f:γ→Q α)(K:α→List Nat→Prop):γ→List Nat→Prop:=fun x l=>(f x).wp hs (jSt l K)
theorem zR1 {α γ:Type}{f:γ→Q α}{K:α→List Nat→Prop}{x:γ}{l:List Nat}:jS1 hs f K x l=(f x).wp hs (jSt l K):=Eq.trans (Eq.refl _) rfl
theorem zL6 {α:Type}{o:Ob}{id:Nat}{k:Ob→Q α}{K:α→List Nat→Prop}:zQ7 hs (some o) id k K=(k o).wp hs (jT5 id K):=Eq.trans (Eq.refl _) rfl
theorem zIz {α:Type}{id:Nat}{k:Q α}{K:α→List Nat→Prop}:zCj hs none id k K=k.wp hs (jT5 id K):=Eq.trans (Eq.refl _) rfl
theorem jV2 {nb:Nat}{anc:Option (List Nat)}{o:zZ}{os:List zZ}:(AC.reg nb anc (o::os)).wp tab gl fs hs Qx =
  (o.q tab gl (jM fs) nb).wp hs (opK tab gl os (nb+16) fs o.dst hs [] (jOn anc Qx)):=Eq.trans (Eq.refl _) rfl
theorem zWl {nb:Nat}{anc:Option (List Nat)}:(AC.reg nb anc []).wp tab gl fs hs Qx=jOn anc Qx fs hs []:=Eq.trans (Eq.refl _) rfl
theorem jCd {nb:Nat}{acc:List (List Nat×List Nat)}{K:Fs→Hs→List (List Nat×List Nat)→Prop}:zFw tab gl [] nb fs hs acc K=K fs hs acc:=Eq.trans (Eq.refl _) rfl
theorem zWi {o:zZ}{r:List zZ}{nb:Nat}{acc:List (List Nat×List Nat)}{K:Fs→Hs→List (List Nat×List Nat)→Prop} :
  zFw tab gl (o::r) nb fs hs acc K=(o.q tab gl (jM fs) nb).wp hs (opK tab gl r (nb+16) fs o.dst hs acc K):=Eq.trans (Eq.refl _) rfl
theorem zTt:kQ []=[]:=Eq.trans (Eq.refl _) rfl
theorem zPm {p:Nat×Ob}{r:Wr}:kQ (p::r)=p.1::kQ r:=Eq.trans (Eq.refl _) rfl
theorem zZe {α:Type}{t:Nat}:jM ([]:List (Nat×α)) t=none:=Eq.trans (Eq.refl _) rfl
theorem zTx {α:Type}{k t:Nat}{v:α}{r:List (Nat×α)}:jM ((k,v)::r) t=if k=t then some v else jM r t:=Eq.trans (Eq.refl _) rfl
theorem jBp {α:Type}{k:Nat}{v:α}:jSi [] k v=[(k,v)]:=Eq.trans (Eq.refl _) rfl
theorem zVv {α:Type}{k k':Nat}{v v':α}{r:List (Nat×α)}:jSi ((k',v')::r) k v=if k'=k then (k,v)::r else (k',v')::jSi r k v:=Eq.trans (Eq.refl _) rfl
theorem zVx {d:Nat}{v:V}:jEz fs (some d) v=(d,v)::fs:=Eq.trans (Eq.refl _) rfl
theorem zVw {v:V}:jEz fs none v=fs:=Eq.trans (Eq.refl _) rfl
theorem jB6:zCg hs []=hs:=Eq.trans (Eq.refl _) rfl
theorem zWb {i:Nat}{o:Ob}{r:Wr}:zCg hs ((i,o)::r)=zCg ((i,o)::hs) r:=Eq.trans (Eq.refl _) rfl
theorem jCr {α:Type}{i:Nat}:qE i ([]:List α)=[]:=Eq.trans (Eq.refl _) rfl
theorem zWx {α:Type}{i:Nat}{x:α}{r:List α}:qE i (x::r)=(i,x)::qE (i+1) r:=Eq.trans (Eq.refl _) rfl
variable {K:V×Wr→List Nat→Prop} {nb:Nat} {fm:Nat→Option V}
theorem jHy {d:Option Nat}{k:AK}{xs:List qH0}:((⟨d,k,xs,none⟩:zZ).q tab gl fm nb).wp hs K=zI0 hs (qCh gl fm xs) (fun vs=>k.q tab nb vs) K:=by
 simp only[zZ.q,qHr,Q.wp_of_bind,qZx,if_true,zZ.go]
def qU9 (g:Option Bool)(A B:Prop):Prop:=
 match g with
 | some true=>A
 | some false=>B
 | none=>False
@[congr] theorem jDt {g g':Option Bool} {A B:Prop} (h:g=g'):qU9 g A B=qU9 g' A B:=by rw[h]
theorem zJ9 {A B:Prop}:qU9 (some true) A B=A:=Eq.trans (Eq.refl _) rfl
theorem zGu {A B:Prop}:qU9 (some false) A B=B:=Eq.trans (Eq.refl _) rfl
theorem jX {b:Bool}{A B:Prop}:qU9 (some b) A B=((b=true→A)∧(b=false→B)):=by
 cases b<;>simp[qU9]
theorem jHx {d:Option Nat}{k:AK}{xs:List qH0}{t:Nat}{b:Bool}:((⟨d,k,xs,some (t,b)⟩:zZ).q tab gl fm nb).wp hs K =
  qU9 (qHr fm (some (t,b))) (zI0 hs (qCh gl fm xs) (fun vs=>k.q tab nb vs) K) (K (.tup [],[]) []):=by
 simp only[zZ.q,Q.wp_of_bind];cases h:qHr fm (some (t,b)) with
 | none=>rfl
 | some g=>cases g<;>simp[qU9,qZx,zZ.go,Q.wp_of_bind,Q.wp_ret]
theorem zGt {t:Nat}{b:Bool}:qHr fm (some (t,b))=match fm t with
  | some (.t (.bool c))=>some (c==b)
  | some (.tup [])=>some false
  | _=>none:=Eq.trans (Eq.refl _) rfl
theorem jCb:qCh gl fm []=some []:=Eq.trans (Eq.refl _) rfl
theorem jCc {t:Nat}{r:List qH0}:qCh gl fm (.tmp t::r)=(fm t).bind fun v=>(qCh gl fm r).map (v :: ·):=Eq.trans (Eq.refl _) rfl
theorem jCa {v:V}{r:List qH0}:qCh gl fm (.cst v::r)=(qCh gl fm r).map (v :: ·):=Eq.trans (Eq.refl _) rfl
theorem zWg {g:Nat}{r:List qH0}:qCh gl fm (.glob g::r)=((gl g).map V.ro).bind fun v=>(qCh gl fm r).map (v :: ·):=Eq.trans (Eq.refl _) rfl
theorem jJs {t:Nat}:(qH0.tmp t).val gl fm=fm t:=Eq.trans (Eq.refl _) rfl
theorem jJr {v:V}:(qH0.cst v).val gl fm=some v:=Eq.trans (Eq.refl _) rfl
theorem jT2 {ao:AO}{vs:List V}:(AK.op ao).q tab nb vs=sem ao vs nb:=Eq.trans (Eq.refl _) rfl
theorem jG6 {f:FuncId}{keep:Bool}{vs:List V}:(AK.call f keep).q tab nb vs=qZ2 tab f keep vs nb:=Eq.trans (Eq.refl _) rfl
theorem zZa {f:FuncId}{keep:Bool}{caps rest:List V}:(AK.callv keep).q tab nb (.fn f caps::rest)=qZ2 tab f keep (rest++caps) nb:=Eq.trans (Eq.refl _) rfl
theorem zY9 {g id i f:Nat}{keep:Bool}{rest:List V}:(AK.callv keep).q tab nb (.bd g id i f::rest)=qZ2 tab g keep (.ref id i f::rest) nb:=Eq.trans (Eq.refl _) rfl
attribute [go_sem] zY9
theorem qGf {α β γ:Type}{q:Q α}{f:α→Q β}{g:β→Q γ}:(q.bind f).bind g=q.bind fun x=>(f x).bind g:=by
 induction q with
 | ret a=>rfl
 | fail=>rfl
 | get id k ih=>simp only[Q.bind,ih]
 | free id k ih=>simp only[Q.bind,ih]
theorem zL8 {α γ:Type}{x:γ}{f:γ→Q α}{K:α→List Nat→Prop}:((Q.ret x).bind f).wp hs K=(f x).wp hs K:=Eq.trans (Eq.refl _) rfl
theorem zI3 {α γ:Type}{f:γ→Q α}{K:α→List Nat→Prop}:((Q.fail).bind f).wp hs K=False:=Q.wp_fail
theorem zI1 {α β γ:Type}{q:Q α}{f:α→Q β}{g:β→Q γ}{K:γ→List Nat→Prop}:((q.bind f).bind g).wp hs K=(q.bind fun x=>(f x).bind g).wp hs K:=by rw[qGf]
theorem zL7 {α γ:Type}{id:Nat}{k:Ob→Q γ}{f:γ→Q α}{K:α→List Nat→Prop}:((Q.get id k).bind f).wp hs K=zQ7 hs (jM hs id) id (fun o=>(k o).bind f) K:=Q.wp_get
theorem zI4 {α γ:Type}{id:Nat}{k:Q γ}{f:γ→Q α}{K:α→List Nat→Prop}:((Q.free id k).bind f).wp hs K=zCj hs (jM hs id) id (k.bind f) K:=Q.wp_free
theorem zBm {α γ:Type}{b:Prop}[Decidable b]{q:Q γ}{f:γ→Q α}{K:α→List Nat→Prop}:((Q.assert b q).bind f).wp hs K=(b∧(q.bind f).wp hs K):=by
 rw[←Q.wp_assert];unfold Q.assert;split<;>rfl
def wpA (b P:Prop):Prop:=b∧P
@[congr] theorem jRc {b b' P:Prop} (h:b=b'):wpA b P=wpA b' P:=by rw[h]
theorem jCg {P:Prop}:wpA True P=P:=by simp[wpA]
theorem jV5 {b P:Prop}(h:b):wpA b P=P:=by simp[wpA,h]
theorem jJ6 {a b P:Prop}:wpA (a∧b) P=wpA a (wpA b P):=by simp[wpA,and_assoc]
theorem zRa {α:Type}{b:Prop}[Decidable b]{q:Q α}{K:α→List Nat→Prop}:(Q.assert b q).wp hs K=wpA b (q.wp hs K):=Q.wp_assert
theorem qZy {α γ:Type}{b:Prop}[Decidable b]{q:Q γ}{f:γ→Q α}{K:α→List Nat→Prop}:((Q.assert b q).bind f).wp hs K=wpA b ((q.bind f).wp hs K):=zBm
theorem zWn {α γ:Type}{b:Prop}[Decidable b]{o:Option γ}{f:γ→Q α}{K:α→List Nat→Prop}:zI0 hs (if b then o else none) f K=wpA b (zI0 hs o f K):=jCh
theorem zQ9 {α γ:Type}{b:Prop}[Decidable b]{o:Option γ}{f:γ→Q α}{K:α→List Nat→Prop}:zI0 hs (if b then none else o) f K=wpA (¬ b) (zI0 hs o f K):=zWm
theorem yW {b:Bool}{A B:Prop}:qLb (some (.t (.bool b))) A B=((b=true→A)∧(b=false→B)):=Eq.trans (Eq.refl _) rfl
theorem qWm {α γ:Type}{x:γ}{f:γ→Q α}:(Q.ret x).bind f=f x:=Eq.trans (Eq.refl _) rfl
theorem jI5 {vs:List V}:sem .mov vs nb=zOm vs:=Eq.trans (Eq.refl _) rfl
theorem jBm {vs:List V}:sem .smov vs nb=zD5 vs:=Eq.trans (Eq.refl _) rfl
theorem jBk {vs:List V}:sem .pick vs nb=qYu vs:=Eq.trans (Eq.refl _) rfl
theorem jI1 {vs:List V}:sem .box vs nb=zHu nb vs:=Eq.trans (Eq.refl _) rfl
theorem zP3 {vs:List V}:sem .boxArr vs nb=qMz nb vs:=Eq.trans (Eq.refl _) rfl
theorem jI7 {vs:List V}:sem .s2b vs nb=zCc nb vs:=Eq.trans (Eq.refl _) rfl
theorem jIy {vs:List V}:sem .b2s vs nb=zOh vs:=Eq.trans (Eq.refl _) rfl
theorem zP6 {vs:List V}:sem .sindex vs nb=qF0 vs:=Eq.trans (Eq.refl _) rfl
theorem jI2 {vs:List V}:sem .len vs nb=zHv vs:=Eq.trans (Eq.refl _) rfl
theorem jBl {vs:List V}:sem .slen vs nb=qT6 vs:=Eq.trans (Eq.refl _) rfl
theorem zP1 {vs:List V}:sem .appstr vs nb=qDj nb vs:=Eq.trans (Eq.refl _) rfl
theorem jI4 {vs:List V}:sem .min vs nb=zOl vs:=Eq.trans (Eq.refl _) rfl
theorem jI3 {vs:List V}:sem .max vs nb=zOj vs:=Eq.trans (Eq.refl _) rfl
theorem jIx {n:Nat}{k:IntKind}{neg:Bool}{vs:List V}:sem (.aeq n k neg) vs nb=qYr n k neg vs:=Eq.trans (Eq.refl _) rfl
theorem zP5 {vs:List V}:sem .nilchk vs nb=qM0 vs:=Eq.trans (Eq.refl _) rfl
theorem jI6 {z:Nat}{es vs:List V}:sem (.new z es) vs nb=zHw z es nb vs:=Eq.trans (Eq.refl _) rfl
theorem zVk {z:List V}{pl:List (Nat×Nat)}{vs:List V}:sem (.build z pl) vs nb=qSg z pl vs:=Eq.trans (Eq.refl _) rfl
theorem zP4 {z len:Nat}{zero:V}{ix:List Nat}{vs:List V}:sem (.bslice z len zero ix) vs nb=qSf z len zero ix nb vs:=Eq.trans (Eq.refl _) rfl
theorem jBh {n:Nat}{agg:Bool}{vs:List V}:sem (.load n agg) vs nb=qT5 n agg vs:=Eq.trans (Eq.refl _) rfl
theorem zVr {n:Nat}{vs:List V}:sem (.store n) vs nb=qSk n vs:=Eq.trans (Eq.refl _) rfl
theorem jI0 {op:BinOp}{vs:List V}:sem (.bin op) vs nb=zOi op vs:=Eq.trans (Eq.refl _) rfl
theorem jIz {neg:Bool}{vs:List V}:sem (.beq neg) vs nb=zHt neg vs:=Eq.trans (Eq.refl _) rfl
theorem jPd {op:UnOp}{vs:List V}:sem (.un op) vs nb=jBc op vs:=Eq.trans (Eq.refl _) rfl
theorem jBd {k:IntKind}{vs:List V}:sem (.conv k) vs nb=qJw k vs:=Eq.trans (Eq.refl _) rfl
theorem zKx {z by_:Nat}{zero:V}{vs:List V}:sem (.mkslice z by_ zero) vs nb=jBb z by_ zero nb vs:=Eq.trans (Eq.refl _) rfl
theorem zP7 {lo hi mx:Bool}{vs:List V}:sem (.sslice lo hi mx) vs nb=qSj lo hi mx vs:=Eq.trans (Eq.refl _) rfl
theorem zVq {z:Nat}{lo hi mx:Bool}{vs:List V}:sem (.slice z lo hi mx) vs nb=qW2 z lo hi mx vs:=Eq.trans (Eq.refl _) rfl
theorem zP2 {n z:Nat}{lo hi mx:Bool}{vs:List V}:sem (.aslice n z lo hi mx) vs nb=qSe n z lo hi mx vs:=Eq.trans (Eq.refl _) rfl
theorem zVl {off:Nat}{vs:List V}:sem (.faddr off) vs nb=qWz off vs:=Eq.trans (Eq.refl _) rfl
theorem zVm {off n:Nat}{agg:Bool}{vs:List V}:sem (.field off n agg) vs nb=qW0 off n agg vs:=Eq.trans (Eq.refl _) rfl
theorem zVn {z:Nat}{vs:List V}:sem (.iaddr z) vs nb=qSh z vs:=Eq.trans (Eq.refl _) rfl
theorem zVj {n z:Nat}{vs:List V}:sem (.aaddr n z) vs nb=qSd n z vs:=Eq.trans (Eq.refl _) rfl
theorem zVo {n z:Nat}{agg:Bool}{vs:List V}:sem (.index n z agg) vs nb=qW1 n z agg vs:=Eq.trans (Eq.refl _) rfl
theorem zKw {i:Nat}{vs:List V}:sem (.extract i) vs nb=qIc i vs:=Eq.trans (Eq.refl _) rfl
theorem jBg {n:Nat}{vs:List V}:sem (.lenc n) vs nb=qYt n vs:=Eq.trans (Eq.refl _) rfl
theorem zP0 {z by_:Nat}{vs:List V}:sem (.append z by_) vs nb=qIb z by_ nb vs:=Eq.trans (Eq.refl _) rfl
theorem zKv {z by_:Nat}{vs:List V}:sem (.appendt z by_) vs nb=qNd z by_ nb vs:=Eq.trans (Eq.refl _) rfl
theorem jBi {f:FuncId}{vs:List V}:sem (.mkbd f) vs nb=zD3 f vs:=Eq.trans (Eq.refl _) rfl
theorem jBf {vs:List V}:sem .idsl vs nb=zD2 vs:=Eq.trans (Eq.refl _) rfl
theorem zVp {neg:Bool}{vs:List V}:sem (.nileq neg) vs nb=qSi neg vs:=Eq.trans (Eq.refl _) rfl
attribute [go_sem] zVp qSi
attribute [go_sem] zKv jBi jBf
theorem jBe {z:Nat}{vs:List V}:sem (.copy z) vs nb=qYs z vs:=Eq.trans (Eq.refl _) rfl
theorem jBj {f:FuncId}{vs:List V}:sem (.mkfn f) vs nb=zD4 f vs:=Eq.trans (Eq.refl _) rfl
theorem jPz {k:IntKind}{n:Int}:(T.int k n).cells=[T.int k n]:=Eq.trans (Eq.refl _) rfl
theorem jJi {b:Bool}:(T.bool b).cells=[T.bool b]:=Eq.trans (Eq.refl _) rfl
theorem jP0 {s:ByteArray}:(T.str s).cells=[T.str s]:=Eq.trans (Eq.refl _) rfl
theorem jJj  : T.fnil.cells=[T.fnil]:=Eq.trans (Eq.refl _) rfl
theorem jJk  : T.pnil.cells=[T.pnil]:=Eq.trans (Eq.refl _) rfl
theorem jPy {cs:List T}:(T.agg cs).cells=cs:=Eq.trans (Eq.refl _) rfl
theorem jVe {cs:List T}:(T.sl cs).cells=[T.sl cs]:=Eq.trans (Eq.refl _) rfl
theorem jQr {k:IntKind}{n:Int}:(V.t (T.int k n)).cells=[V.t (T.int k n)]:=Eq.trans (Eq.refl _) rfl
theorem jJt {b:Bool}:(V.t (T.bool b)).cells=[V.t (T.bool b)]:=Eq.trans (Eq.refl _) rfl
theorem jQu {s:ByteArray}:(V.t (T.str s)).cells=[V.t (T.str s)]:=Eq.trans (Eq.refl _) rfl
theorem jJu  : (V.t T.fnil).cells=[V.t T.fnil]:=Eq.trans (Eq.refl _) rfl
theorem jJv  : (V.t T.pnil).cells=[V.t T.pnil]:=Eq.trans (Eq.refl _) rfl
theorem jJx {cs:List T}:(V.t (T.agg cs)).cells=cs.map V.t:=Eq.trans (Eq.refl _) rfl
theorem jQv {cs:List T}:(V.t (T.sl cs)).cells=[V.t (T.sl cs)]:=Eq.trans (Eq.refl _) rfl
theorem jQs  : V.nil.cells=[V.nil]:=Eq.trans (Eq.refl _) rfl
theorem jQt {id i f:Nat}:(V.ref id i f).cells=[V.ref id i f]:=Eq.trans (Eq.refl _) rfl
theorem jVq {g id i f:Nat}:(V.bd g id i f).cells=[V.bd g id i f]:=Eq.trans (Eq.refl _) rfl
theorem jVr:V.bq.cells=[V.bq]:=Eq.trans (Eq.refl _) rfl
attribute [go_sem] jVr
attribute [go_sem] jVq
theorem jVt {cs:List T}:(V.ro cs).cells=[V.ro cs]:=Eq.trans (Eq.refl _) rfl
theorem jVu {id i f:Nat}:(V.sl id i f).cells=[V.sl id i f]:=Eq.trans (Eq.refl _) rfl
theorem jQq {cs:List V}:(V.agg cs).cells=cs:=Eq.trans (Eq.refl _) rfl
theorem jVs {f:FuncId}{cs:List V}:(V.fn f cs).cells=[V.fn f cs]:=Eq.trans (Eq.refl _) rfl
theorem jQx {k:IntKind}{n:Int}:(V.t (T.int k n)).plain=true:=Eq.trans (Eq.refl _) rfl
theorem jJy {b:Bool}:(V.t (T.bool b)).plain=true:=Eq.trans (Eq.refl _) rfl
theorem jQ0 {s:ByteArray}:(V.t (T.str s)).plain=true:=Eq.trans (Eq.refl _) rfl
theorem jJ0  : (V.t T.fnil).plain=true:=Eq.trans (Eq.refl _) rfl
theorem jJ1  : (V.t T.pnil).plain=true:=Eq.trans (Eq.refl _) rfl
theorem jJ3 {cs:List T}:(V.t (T.agg cs)).plain=true:=Eq.trans (Eq.refl _) rfl
theorem jQ1 {cs:List T}:(V.t (T.sl cs)).plain=true:=Eq.trans (Eq.refl _) rfl
theorem jQy  : V.nil.plain=true:=Eq.trans (Eq.refl _) rfl
theorem jQz {id i f:Nat}:(V.ref id i f).plain=true:=Eq.trans (Eq.refl _) rfl
theorem jVv {g id i f:Nat}:(V.bd g id i f).plain=true:=Eq.trans (Eq.refl _) rfl
theorem jVw:V.bq.plain=true:=Eq.trans (Eq.refl _) rfl
attribute [go_sem] jVw
attribute [go_sem] jVv
theorem jVy {cs:List T}:(V.ro cs).plain=true:=Eq.trans (Eq.refl _) rfl
theorem jVz {id i f:Nat}:(V.sl id i f).plain=true:=Eq.trans (Eq.refl _) rfl
theorem jQw {cs:List V}:(V.agg cs).plain=true:=Eq.trans (Eq.refl _) rfl
theorem jVx {f:FuncId}{cs:List V}:(V.fn f cs).plain=true:=Eq.trans (Eq.refl _) rfl
theorem jLb {op:BinOp}{k k':IntKind}{x y:Int}:qKb op (.int k x) (.int k' y)=qNf op k x k' y:=Eq.trans (Eq.refl _) rfl
theorem jF6 {x y:ByteArray}:qKb .add (.str x) (.str y)=if x.size+y.size≤maxLen then some (.str (x++y)) else none:=Eq.trans (Eq.refl _) rfl
theorem jLc {x y:ByteArray}:qKb .eql (.str x) (.str y)=some (.bool (x.toList==y.toList)):=Eq.trans (Eq.refl _) rfl
theorem jLd {x y:ByteArray}:qKb .neq (.str x) (.str y)=some (.bool !(x.toList==y.toList)):=Eq.trans (Eq.refl _) rfl
theorem jP6 {b:Bool}:unT .not (.bool b)=some (.bool !b):=Eq.trans (Eq.refl _) rfl
theorem jP5 {k:IntKind}{n:Int}:unT .neg (.int k n)=some (.int k (k.wrap (0-n))):=Eq.trans (Eq.refl _) rfl
theorem jMl {k:IntKind}{n:Int}:wW (.t (.int k n))=some n:=Eq.trans (Eq.refl _) rfl
theorem jPc {k k':IntKind}{n:Int}:qJw k [.t (.int k' n)] = .ret (.t (.int k (k.wrap n)),[]):=Eq.trans (Eq.refl _) rfl
attribute [go_sem] jPz jJi jP0 jJj jJk jPy jVe jQr jJt jQu jJu jJv jJx jQv jQs jQt jVt jVu jQq jVs jQx jJy jQ0 jJ0 jJ1 jJ3 jQ1 jQy jQz jVy jVz jQw jVx jLb jF6 jLc jLd jP6 jP5 jMl jPc
attribute [go_sem ↓] jQ9 jV3 jQ7 jV4 jJ4 jQ8 jQ6 jJ5 jV2 zWl zKy zVt jBn zCz zO2 zJl zUu zUv jHy jHx jT2 jG6 zZa
 jHm zZd zXg zR1 Q.wp_of_bind Q.wp_ret Q.wp_fail Q.wp_get Q.wp_free zRa zL8 zI3 zI1 zL7 zI4 qZy
attribute [go_sem] zXy jF8
attribute [go_sem] jCg jJ6 jCd zWi jCb jCc jCa zWg jJs jJr zZe zTx jBp zVv zVx zVw jB6 zWb jCr zWx zTt zPm
 qZx zWo zWn zQ9 zL6 zQ8 zL5 zIz Q.wp_ite zO6 zJq zJ9 zGu zGt
attribute [go_sem] Option.bind_some Option.map_some Option.bind_none Option.map_none true_and and_true nil_append cons_append append_nil
attribute [go_sem] jIx qYr jI5 jBm jBk jI1 zP3 jI7 jIy zP6 jI2 jBl zP1 jI4 jI3 zP5 jI6 zVk zP4 jBh zVr jI0 jIz jPd jBd zKx zP7 zVq zP2 zVl zVm zVn zVj zVo zKw jBg zP0 jBe jBj
attribute [go_sem] zOm zD5 qYu zHw zHu qMz qSg qSf qT5 qSk zOi zHt jBc zCc zOh jBb qSj qW2 qSe qWz qW0 qSh qSd qW1 qF0 qIc qT6 zHv qYt qIb qDj qYs zOl zOj zD4 zD3 zD2 qNd qM0
 qNf qVr qEa qS9 qV rsQ
end Go.Eng
end
section
namespace Go.Eng
open List
mutual
def V.ids:V→List Nat
 | .ref id _ _=>[id]
 | .bd _ id _ _=>[id]
 | .sl id _ _=>[id]
 | .agg cs=>qQm cs
 | .tup cs=>qQm cs
 | .fn _ cs=>qQm cs
 | _=>[]
def qQm:List V→List Nat
 | []=>[]
 | c::r=>c.ids++qQm r
end
theorem xK : ∀ {cs:List V} {c:V} {r:Nat},c∈cs→r∈c.ids→r∈qQm cs
 | x::cs,c,r,hc,hr=>by
  simp only[qQm,mem_append];simp only[mem_cons] at hc;rcases hc with rfl | hc
  ·exact .inl hr
  ·exact .inr (xK hc hr)
theorem jDv (ts:List T):qQm (ts.map .t)=[]:=by
 induction ts with
 | nil=>rfl
 | cons x r ih=>simp[qQm,V.ids,ih]
theorem qW.sub {β β':Nat→Option BI}{F:Nat→Prop}{w:World}{v:V}{x:Value}(h:qW β F w v x):(∀ i∈v.ids,∀ bi,β i=some bi→β' i=some bi)→qW β' F w v x:=by
 induction h with
 | t h=>intro _;exact .t h
 | nil=>intro _;exact .nil
 | ref id i f b sz room hb=>intro hs;exact .ref id i f b sz room (hs id (by simp[V.ids]) _ hb)
 | bd g id i f b sz room hb=>intro hs;exact .bd g id i f b sz room (hs id (by simp[V.ids]) _ hb)
 | bq b=>intro _;exact .bq b
 | ro cs a news ha hn h1 hF hw h=>intro _;exact .ro cs a news ha hn h1 hF hw h
 | sl id off len cap b sz room a hb hlc hr ha hs=>intro hsub;exact .sl id off len cap b sz room a (hsub id (by simp[V.ids]) _ hb) hlc hr ha hs
 | slv id sz room hb=>intro hsub;exact .slv id sz room (hsub id (by simp[V.ids]) _ hb)
 | agg cs vs hl h1 _ ih=>intro hs;exact .agg cs vs hl h1 (fun i c u hc hu=>ih i c u hc hu (fun k hk=>hs k (by simp only[V.ids];exact xK (mem_of_getElem? hc) hk)))
 | tup cs vs hl _ ih=>intro hs;exact .tup cs vs hl (fun i c u hc hu=>ih i c u hc hu (fun k hk=>hs k (by simp only[V.ids];exact xK (mem_of_getElem? hc) hk)))
 | fn f cs vs hl _ ih=>intro hs;exact .fn f cs vs hl (fun i c u hc hu=>ih i c u hc hu (fun k hk=>hs k (by simp only[V.ids];exact xK (mem_of_getElem? hc) hk)))
def Cv (hs:Hs)(ρ:Nat→Nat)(vt ks:List Nat)(v v':V):Prop:=
 ((v=v'.ren ρ ∨ ∃ l,(zO 4 v).run (jM hs)=some ((v'.ren ρ,[]),l)) ∧ ∀ i∈v'.ids,i∈ks)∨(v = .nil ∧ ∃ id,id∈vt∧v' = .sl id 0 0)
def CvO (hs:Hs)(ρ:Nat→Nat)(ks:List Nat):Ob→Ob→Prop
 | .live z es wr full,.live z' es' wr' full'=>z=z'∧wr=wr'∧(full'=true→full=true)∧(es=qHz ρ es' ∨ ∃ l,(qFm es).run (jM hs)=some ((qHz ρ es',[]),l)) ∧ ∀ i∈qQm es',i∈ks
 | _,.dead=>True
 | _,_=>False
def zBp (fs:Fs)(hs:Hs)(ρ:Nat→Nat)(vt ks:List Nat):Fs→Prop
 | []=>True
 | (t,v')::r=>(∃ v,jM fs t=some v∧Cv hs ρ vt ks v v')∧zBp fs hs ρ vt ks r
def jKc (hs:Hs)(ρ:Nat→Nat)(ks:List Nat):Hs→Prop
 | []=>True
 | (i,o')::r=>((∃ o,jM hs (ρ i)=some o∧CvO hs ρ ks o o')∧(i<100→ρ i=i)∧(100≤i→100≤ρ i))∧jKc hs ρ ks r
def VtW:Hs→Prop
 | []=>True
 | (i,o')::r=>((∃ z full,o' = .live z [] true full)∧100≤i)∧VtW r
theorem zBp.get {fs:Fs}{hs:Hs}{ρ:Nat→Nat}{vt ks:List Nat} : ∀ {fs':Fs},zBp fs hs ρ vt ks fs' → ∀ t v',jM fs' t=some v' → ∃ v,jM fs t=some v∧Cv hs ρ vt ks v v'
 | [],_,t,v',h=>by cases h
 | (k,u)::r,hw,t,v',h=>by
  simp only[jM] at h;split at h
  ·cases h;subst_vars;exact hw.1
  ·exact zBp.get hw.2 t v' h
theorem jKc.get {hs:Hs}{ρ:Nat→Nat}{ks:List Nat} : ∀ {hs':Hs},jKc hs ρ ks hs' → ∀ i o',jM hs' i=some o'→(∃ o,jM hs (ρ i)=some o∧CvO hs ρ ks o o')∧(i<100→ρ i=i)∧(100≤i→100≤ρ i)
 | [],_,t,v',h=>by cases h
 | (k,u)::r,hw,t,v',h=>by
  simp only[jM] at h;split at h
  ·cases h;subst_vars;exact hw.1
  ·exact jKc.get hw.2 t v' h
theorem VtW.get : ∀ {hs':Hs},VtW hs' → ∀ i o',jM hs' i=some o'→(∃ z full,o' = .live z [] true full)∧100≤i
 | [],_,t,v',h=>by cases h
 | (k,u)::r,hw,t,v',h=>by
  simp only[jM] at h;split at h
  ·cases h;subst_vars;exact hw.1
  ·exact VtW.get hw.2 t v' h
def Ob.z:Ob→Nat
 | .live z _ _ _=>z
 | .dead=>0
theorem qH5 {α:Type} : ∀ {l:List (Nat×α)} {i:Nat},i∈l.map (·.1) → ∃ o,jM l i=some o
 | (k,u)::r,i,h=>by
  simp only[jM];split
  ·exact⟨_,rfl⟩
  ·rename_i hne;simp only[map_cons,mem_cons] at h;rcases h with h | h
   ·exact absurd h.symm hne
   ·exact qH5 h
theorem qB6 {α:Type} : ∀ {l:List (Nat×α)} {i:Nat} {o:α},jM l i=some o→i∈l.map (·.1)
 | (k,u)::r,i,o,h=>by
  simp only[jM] at h;split at h
  ·subst_vars;simp
  ·simp[qB6 h]
theorem qRz {α:Type} : ∀ {l r:List (Nat×α)} {i:Nat},jM (l++r) i=match jM l i with | some o=>some o | none=>jM r i
 | [],r,i=>rfl
 | (k,u)::l,r,i=>by
  simp only[cons_append,jM];split
  ·rfl
  ·exact qRz
theorem zDm {β:Nat→Option BI}{F:Nat→Prop}:qWk β F []=F:=by
 funext b;apply propext;constructor
 ·intro h;rcases h with h | ⟨i,hi,_⟩
  ·exact h
  ·simp at hi
 ·exact .inl
variable {cx:Cx} {β:Nat→Option BI} {F:Nat→Prop} {a:Act} {w:World}
theorem zPk {fm:Nat→Option V}{hm:Nat→Option Ob}(R:Rel cx β F fm hm a w){es es':List V}{l:List Nat}(h:(qFm es).run hm=some ((es',[]),l)){sz:Nat}{c:Array Value}(hh:vO β F w es sz c):es'.length=es.length∧vO β F w es' sz c:=by
 unfold qFm at h;split at h
 ·obtain⟨e,_⟩:=qF h;cases e;exact⟨rfl,hh⟩
 ·obtain⟨g1,g2⟩:=vT h;refine⟨g1,fun i x hx=>?_⟩;have hi:i<es.length:=by rw[←g1];exact (List.getElem?_eq_some_iff.1 hx).1
  obtain⟨fzi,li,m1,m2⟩:=g2 i es[i] x (by simp[hi]) hx;obtain⟨k1,k2⟩:=hh i es[i] (by simp[hi]);by_cases hz:es[i].cells=[]
  ·
   have:x.cells=[]:=by
    cases hx0:es[i] with
    | t y=>
     rw[hx0] at m1 hz;obtain⟨e,_⟩:=qF (x:=(V.t y,([]:List Nat))) m1;cases e;exact hz
    | agg cs=>
     rw[hx0] at m1 hz;simp only[zO] at m1;obtain⟨p,l1,l2,hp,m1,_⟩:=zC m1;obtain⟨e,_⟩:=qF m1;cases e;have hcs:cs=[]:=hz;subst hcs;have:=(vT hp).1;rw[qWs];exact eq_nil_of_length_eq_zero this
    | _=>rw[hx0] at hz;simp[V.cells] at hz
   rw[this];rw[hz] at k1;exact⟨k1,by intro j y hy;simp at hy⟩
  ·obtain⟨q1,q2⟩:=zF7 R m1 (fz':=[]) m2 hz (fun j y hy=>let ⟨u,_,b,d⟩:=k2 j y hy;⟨u,b,d⟩);refine⟨q1.trans k1,fun j y' hy'=>?_⟩;have hj:j<es[i].cells.length:=by rw[←q1];exact (List.getElem?_eq_some_iff.1 hy').1
   obtain⟨u,hu,hr,ho⟩:=k2 j (es[i].cells[j]'hj) (by simp[hj]);obtain⟨s1,_,_⟩:=q2 j (es[i].cells[j]'hj) y' u (by simp[hj]) hy' hr ho;rw[zDm] at s1;exact⟨u,hu,s1,ho⟩
theorem qJ.of {fs fs':Fs}{hs hv ho:Hs}(ρ:Nat→Nat)(h1:zBp fs hs ρ (hv.map (·.1)) (ho.map (·.1)) fs')(h2:jKc hs ρ (ho.map (·.1)) ho)(h3:VtW hv)(hdis : ∀ i∈hv.map (·.1),i ∉ ho.map (·.1))
  (hinj:((ho.map (·.1)).map ρ).Nodup) (hkeep : ∀ k∈hs.map (·.1),k<100→k∈ho.map (·.1)):qJ fs hs fs' (hv++ho):=by
 intro cx β F a w R
 let β':Nat→Option BI:=fun i=>match jM hv i with
  | some o=>some ⟨none,o.z,0⟩
  | none=>match jM ho i with
   | some _=>β (ρ i)
   | none=>none
 have bv : ∀ i o,jM hv i=some o→β' i=some ⟨none,o.z,0⟩:=fun i o h=>by simp[β',h]
 have hvo : ∀ i,i∈ho.map (·.1)→jM hv i=none:=by
  intro i hi;cases h:jM hv i with
  | none=>rfl
  | some o=>exact absurd hi (hdis i (qB6 h))
 have bo : ∀ i,i∈ho.map (·.1)→β' i=β (ρ i):=by
  intro i hi;obtain⟨o,h⟩:=qH5 hi;simp[β',hvo i hi,h]
 have inj : ∀ i j,i∈ho.map (·.1)→j∈ho.map (·.1)→ρ i=ρ j→i=j:=by
  intro i j hi hj e;obtain⟨m,hm⟩:=getElem?_of_mem hi;obtain⟨n,hn⟩:=getElem?_of_mem hj;have hml:m<(ho.map (·.1)).length:=(List.getElem?_eq_some_iff.1 hm).1;have hnl:n<(ho.map (·.1)).length:=(List.getElem?_eq_some_iff.1 hn).1;have:=qB9 hinj (i:=m) (j:=n) (by simpa using hml) (by simpa using hnl) (by
   have a1:(ho.map (·.1))[m]=i:=by rw[getElem?_eq_getElem hml] at hm;exact Option.some.inj hm
   have a2:(ho.map (·.1))[n]=j:=by rw[getElem?_eq_getElem hnl] at hn;exact Option.some.inj hn
   simp only[getElem_map] at a1 a2 ⊢;rw[a1,a2];exact e)
  subst this;rw[hm] at hn;exact Option.some.inj hn
 have val : ∀ {v v':V} {x:Value},qW β F w v x→Cv hs ρ (hv.map (·.1)) (ho.map (·.1)) v v'→qW β' F w v' x:=by
  intro v v' x hx hc;rcases hc with⟨hc,hids⟩ | ⟨rfl,id,hid,rfl⟩
  ·have h0:qW β F w (v'.ren ρ) x:=by
    rcases hc with hc | ⟨l,hc⟩
    ·rw[←hc];exact hx
    ·have:=kZ R hc hx (fz':=[]) sM;rw[zDm] at this;exact this
   have h1:=h0.unren (ρ:=ρ) rfl;exact h1.sub (fun i hi bi hb=>by rw[bo i (hids i hi)];exact hb)
  ·obtain⟨o,ho'⟩:=qH5 hid;cases hx;exact .slv id _ _ (bv id o ho')
 have ob : ∀ {bi:BI} {o o':Ob},qHv β F w bi o→CvO hs ρ (ho.map (·.1)) o o'→qHv β' F w bi o':=by
  intro bi o o' hok hc;cases o' with
  | dead=>trivial
  | live z' es' wr' full'=>
   cases o with
   | dead=>exact hc.elim
   | live z es wr full=>
    obtain⟨rfl,rfl,hfull,hes,hids⟩:=hc;have hren : ∀ {c:Array Value} {sz:Nat},vO β F w (qHz ρ es') sz c→vO β' F w es' sz c:=by
     intro c sz hh;have h1:=hh.unren;intro i x hx;obtain⟨k1,k2⟩:=h1 i x hx;refine⟨k1,fun j y hy=>?_⟩;obtain⟨u,g1,g2,g3⟩:=k2 j y hy;refine⟨u,g1,g2.sub (fun r hr bi hb=>?_),g3⟩;have hrx:r∈x.ids:=by
      cases x with
      | agg cs=>simp only[V.ids];exact xK (mem_of_getElem? hy) hr
      | t t=>
       obtain⟨c,_,rfl⟩:=qA8 hy;simp[V.ids] at hr
      | _=>
       simp only[V.cells] at hy;cases j with
       | zero=>simp at hy;subst hy;exact hr
       | succ j=>simp at hy
     rw[bo r (hids r (xK (mem_of_getElem? hx) hrx))];exact hb
    unfold qHv at hok ⊢;obtain⟨g1,g2,g3⟩:=hok;have hlen:es'.length=es.length ∧ ∀ {c:Array Value},vO β F w es bi.sz c→vO β' F w es' bi.sz c:=by
     rcases hes with rfl | ⟨l,hes⟩
     ·exact⟨by rw[zJ];simp,fun hh=>hren hh⟩
     ·refine⟨?_,fun hh=>hren (zPk R hes hh).2⟩;have:(qHz ρ es').length=es.length:=by
       unfold qFm at hes;split at hes
       ·obtain⟨e,_⟩:=qF hes;simp only[Prod.mk.injEq] at e;rw[e.1]
       ·exact (vT hes).1
      rw[zJ,length_map] at this;exact this
    refine⟨g1,fun h=>by rw[hlen.1];exact g2 (hfull h),?_⟩;cases hb:bi.blk with
    | none=>
     simp only[hb] at g3 ⊢;refine⟨?_,g3.2⟩;have:=hlen.1;rw[g3.1] at this;exact eq_nil_of_length_eq_zero this
    | some b=>
     simp only[hb] at g3 ⊢;obtain⟨c,e,fz,k1,k2,k3,k4,k5,k6,k7⟩:=g3;exact⟨c,e,fz,k1,k2,k3,by rw[hlen.1];exact k4,k5,hlen.2 k6,k7⟩
 have cases_ : ∀ id o',jM (hv++ho) id=some o'→(∃ z full,o' = .live z [] true full∧β' id=some ⟨none,z,0⟩∧100≤id)∨(id∈ho.map (·.1) ∧ ∃ o,jM hs (ρ id)=some o∧CvO hs ρ (ho.map (·.1)) o o'∧(id<100→ρ id=id)∧(100≤id→100≤ρ id)):=by
  intro id o' h;rw[qRz] at h;split at h
  ·rename_i o hvl;cases h;obtain⟨⟨z,full,rfl⟩,h100⟩:=h3.get id o' hvl;exact .inl ⟨z,full,rfl,bv id _ hvl,h100⟩
  ·obtain⟨⟨o,g1,g2⟩,g3,g4⟩:=h2.get id o' h;exact .inr ⟨qB6 h,o,g1,g2,g3,g4⟩
 have notdead : ∀ {o o':Ob},CvO hs ρ (ho.map (·.1)) o o'→o'≠ .dead→o≠ .dead:=by
  intro o o' hc hd hd';subst hd';cases o' with
  | dead=>exact hd rfl
  | live _ _ _ _=>exact hc
 refine⟨β',F,R.tsz,R.dfr,fun t v' hv'=>?_,fun id o' ho'=>?_,fun id hn=>?_,fun i j bi bj b oi oj e1 e2 e3 e4 e5 e6 e7 e8=>?_,R.os,R.tape,R.output,R.size,R.ext,fun id z es full bi b e1 e2 e3=>?_,R.inF,R.inw,R.Fw,R.F0,fun id bi b e1 e2=>?_,fun g cs hg=>?_,fun k bi hk=>?_,R.gs⟩
 ·obtain⟨v,g1,g2⟩:=h1.get t v' hv';obtain⟨x,g3,g4⟩:=R.fr t v g1;exact⟨x,g3,val g4 g2⟩
 ·rcases cases_ id o' ho' with⟨z,full,rfl,hb,_⟩ | ⟨hm,o,g1,g2,_⟩
  ·exact⟨_,hb,rfl,fun _=>rfl,rfl,rfl⟩
  ·obtain⟨bi,g3,g4⟩:=R.hp _ o g1;exact⟨bi,by rw[bo id hm];exact g3,ob g4 g2⟩
 ·rw[qRz] at hn;split at hn
  ·cases hn
  ·rename_i hv0;simp[β',hv0,hn]
 ·rcases cases_ i oi e5 with⟨z,full,rfl,hb,_⟩ | ⟨hm,o,g1,g2,_⟩
  ·rw[hb] at e1;cases e1;cases e3
  ·rcases cases_ j oj e6 with⟨z,full,rfl,hb,_⟩ | ⟨hm',o',g1',g2',_⟩
   ·rw[hb] at e2;cases e2;cases e4
   ·rw[bo i hm] at e1;rw[bo j hm'] at e2;exact inj i j hm hm' (R.inj _ _ bi bj b o o' e1 e2 e3 e4 g1 g1' (notdead g2 e7) (notdead g2' e8))
 ·rcases cases_ id _ e1 with⟨z',full',_,hb,_⟩ | ⟨hm,o,g1,g2,g3,g4⟩
  ·rw[hb] at e2;cases e2;cases e3
  ·rw[bo id hm] at e2;cases o with
   | dead=>exact g2.elim
   | live z0 es0 wr0 full0=>
    obtain⟨_,rfl,_⟩:=g2;rcases R.old _ z0 es0 full0 bi b g1 e2 e3 with h | ⟨h,h'⟩
    ·exact .inl h
    ·refine .inr ⟨?_,h'⟩;rcases Nat.lt_or_ge id 100 with h7 | h7
     ·exact h7
     ·have:=g4 h7;omega
 ·cases hl:jM hv id with
  | some o=>rw[bv id o hl] at e1;cases e1;cases e2
  | none=>
   cases hl2:jM ho id with
   | none=>simp[β',hl,hl2] at e1
   | some o=>
    rw[bo id (qB6 hl2)] at e1;exact R.blt _ bi b e1 e2
 ·have:=R.gl g cs hg;cases this with
  | ro _ ad news ha hn h1' hF hw h=>exact .ro cs _ news ha hn h1' hF hw h
 ·have hβ:=R.ext0 k bi hk;cases hl:jM hs k with
  | none=>rw[R.dom k hl] at hβ;cases hβ
  | some o=>
   have hk100:=cx.d0 k bi hk;have hm:=hkeep k (qB6 hl) hk100;rw[bo k hm];obtain⟨o',ho'⟩:=qH5 hm;rw[(h2.get k o' ho').2.1 hk100];exact hβ
end Go.Eng
end
section
namespace Go.Eng
open List
variable {tab:Tab} {gl:Gl} {fs:Fs} {hs:Hs} {Qx:qHw}
def zZg {ι:Type}(I:ι→Fs×Hs)(μ:ι→Nat)(i:ι)(Qx:qHw):qHw:=fun e fs' hs'=>match e with | .normal => ∃ j,μ j<μ i∧qJ fs' hs' (I j).1 (I j).2 | e=>Qx e fs' hs'
theorem qMu {a:AC}{ι:Type}(I:ι→Fs×Hs)(μ:ι→Nat)(i0:ι)(h0:qJ fs hs (I i0).1 (I i0).2)(h : ∀ i,a.wp tab gl (I i).1 (I i).2 (zZg I μ i Qx)):qZ6 tab gl a fs hs Qx:=⟨ι,I,μ,i0,h0,h⟩
def upK (n:Nat)(fI:Nat→Fs)(hI:Nat→Hs)(i:Nat)(Qx:qHw):qHw:=fun e fs' hs'=>match e with | .normal=>i<n∧qJ fs' hs' (fI (i+1)) (hI (i+1)) | e=>Qx e fs' hs'
theorem zQp {n:Nat}{fI:Nat→Fs}{hI:Nat→Hs}{i:Nat}:upK n fI hI i Qx .normal fs hs=(i<n∧qJ fs hs (fI (i+1)) (hI (i+1))):=Eq.trans (Eq.refl _) rfl
theorem jB4 {n:Nat}{fI:Nat→Fs}{hI:Nat→Hs}{i id:Nat}:upK n fI hI i Qx (.exit id) fs hs=Qx (.exit id) fs hs:=Eq.trans (Eq.refl _) rfl
theorem jJn {n:Nat}{fI:Nat→Fs}{hI:Nat→Hs}{i:Nat}:upK n fI hI i Qx .ret fs hs=Qx .ret fs hs:=Eq.trans (Eq.refl _) rfl
theorem zBx {v:Option V}{A B A' B':Prop}(hA:A→A')(hB:B→B'):qLb v A B→qLb v A' B':=by
 unfold qLb;split
 ·exact fun h=>⟨fun e=>hA (h.1 e),fun e=>hB (h.2 e)⟩
 ·exact id
theorem zO5 {v:Option V}{A B A' B':Prop}(hA:A→A')(hB:B→B'):qVk v A B→qVk v A' B':=by
 unfold qVk;split
 ·exact fun h=>⟨hA h.1,hB h.2⟩
 ·exact zBx hA hB
theorem jD {a:AC} : ∀ {fs:Fs} {hs:Hs} {Q Q':qHw},(∀ e f h,Q e f h→Q' e f h)→a.wp tab gl fs hs Q→a.wp tab gl fs hs Q':=by
 induction a with
 | skip=>intro fs hs Q Q' h hw;exact h _ _ _ hw
 | ret=>intro fs hs Q Q' h hw;exact h _ _ _ hw
 | exit id=>intro fs hs Q Q' h hw;exact h _ _ _ hw
 | seq a b iha ihb=>
  intro fs hs Q Q' h hw;refine iha (fun e f g hq=>?_) hw;cases e with
  | normal=>exact ihb h hq
  | exit id=>exact h _ _ _ hq
  | ret=>exact h _ _ _ hq
 | cond c a b iha ihb=>
  intro fs hs Q Q' h hw;exact zBx (iha h) (ihb h) hw
 | condb c a b iha ihb=>
  intro fs hs Q Q' h hw;exact zO5 (iha h) (ihb h) hw
 | block id a ih=>
  intro fs hs Q Q' h hw;refine ih (fun e f g hq=>?_) hw;cases e with
  | normal=>exact h _ _ _ hq
  | exit id'=>
   simp only at hq ⊢;split
   ·rename_i h1;rw[if_pos h1] at hq;exact h _ _ _ hq
   ·rename_i h1;rw[if_neg h1] at hq;exact h _ _ _ hq
  | ret=>exact h _ _ _ hq
 | loop a ih=>
  intro fs hs Q Q' h hw;obtain⟨ι,I,μ,i0,h0,hr⟩:=hw;refine⟨ι,I,μ,i0,h0,fun i=>ih (fun e f g hq=>?_) (hr i)⟩;cases e with
  | normal=>exact hq
  | exit id=>exact h _ _ _ hq
  | ret=>exact h _ _ _ hq
 | reg nb anc ops=>
  intro fs hs Q Q' h hw;have key : ∀ (ops:List zZ) (nb:Nat) (fs:Fs) (hs:Hs) (acc:List (List Nat×List Nat)) (K K':Fs→Hs→List (List Nat×List Nat)→Prop),(∀ f g c,K f g c→K' f g c)→zFw tab gl ops nb fs hs acc K→zFw tab gl ops nb fs hs acc K':=by
   intro ops
   induction ops with
   | nil=>intro nb fs hs acc K K' h hw;exact h _ _ _ hw
   | cons o r ih=>
    intro nb fs hs acc K K' h hw;obtain⟨x,l,h1,h2⟩:=hw;exact⟨x,l,h1,ih _ _ _ _ _ _ h h2⟩
  exact key ops nb fs hs [] _ _ (fun f g c hq=>⟨hq.1,h _ _ _ hq.2⟩) hw
theorem qB {a:AC}(n:Nat)(fI:Nat→Fs)(hI:Nat→Hs)(h0:qJ fs hs (fI 0) (hI 0))(h : ∀ i,i≤n→a.wp tab gl (fI i) (hI i) (upK n fI hI i Qx)):qZ6 tab gl a fs hs Qx:=by
 refine qMu (ι := { i:Nat // i≤n }) (fun i=>(fI i.1,hI i.1)) (fun i=>n-i.1) ⟨0,Nat.zero_le _⟩ h0 (fun i=>?_);refine jD (fun e f g hq=>?_) (h i.1 i.2);cases e with
 | normal=>exact⟨⟨i.1+1,hq.1⟩,by simp only;have:=hq.1;omega,hq.2⟩
 | exit id=>exact hq
 | ret=>exact hq
theorem jCx {ts:List T}:qF4 (ts.map .t)=some ts:=by
 induction ts with
 | nil=>rfl
 | cons x r ih=>simp[qF4,ih]
theorem zXc:qF4 []=some []:=Eq.trans (Eq.refl _) rfl
theorem qXf {x:T}{r:List V}:qF4 (.t x::r)=(qF4 r).map (x :: ·):=Eq.trans (Eq.refl _) rfl
theorem zXd {id i f:Nat}{r:List V}:qF4 (.ref id i f::r)=none:=Eq.trans (Eq.refl _) rfl
theorem jFu {g id i f:Nat}{r:List V}:qF4 (.bd g id i f::r)=none:=Eq.trans (Eq.refl _) rfl
theorem jFv {r:List V}:qF4 (.bq::r)=none:=Eq.trans (Eq.refl _) rfl
attribute [go_sem] jFv
attribute [go_sem] jFu
theorem jFy {id i f:Nat}{r:List V}:qF4 (.sl id i f::r)=none:=Eq.trans (Eq.refl _) rfl
theorem zRo {r:List V}:qF4 (.nil::r)=none:=Eq.trans (Eq.refl _) rfl
theorem zXa {cs r:List V}:qF4 (.agg cs::r)=none:=Eq.trans (Eq.refl _) rfl
theorem jFx {cs:List T}{r:List V}:qF4 (.ro cs::r)=none:=Eq.trans (Eq.refl _) rfl
theorem jFw {f:FuncId}{cs r:List V}:qF4 (.fn f cs::r)=none:=Eq.trans (Eq.refl _) rfl
theorem zZn {α γ:Type}{f:α→γ}:Option.map f none=none:=Eq.trans (Eq.refl _) rfl
theorem jNm {cs:List V}:V.mk cs=match qF4 cs with | some ts=> .t (.agg ts) | none=> .agg cs:=Eq.trans (Eq.refl _) rfl
theorem zSa {g:V→Q (V×List Nat)}:qFn g [] = .ret ([],[]):=Eq.trans (Eq.refl _) rfl
theorem qM4 {g:V→Q (V×List Nat)}{c:V}{r:List V}:qFn g (c::r)=(g c).bind fun p=>(qFn g r).bind fun q=> .ret (p.1::q.1,p.2++q.2):=Eq.trans (Eq.refl _) rfl
theorem zSd {n:Nat}{x:T}:zO n (.t x) = .ret (.t x,[]):=by cases n<;>rfl
theorem zX2 {n:Nat}:zO n .nil = .ret (.t (.sl []),[]):=by cases n<;>rfl
theorem jGc {n:Nat}{cs:List T}:zO n (.ro cs) = .ret (.ro cs,[]):=by cases n<;>rfl
theorem zX3 {n id i f:Nat}:zO n (.ref id i f) = .ret (.ref id i f,[]):=by cases n<;>rfl
theorem jGa {n g id i f:Nat}:zO n (.bd g id i f) = .ret (.bd g id i f,[]):=by cases n<;>rfl
attribute [go_sem] jGa
theorem zX1 {n:Nat}{cs:List V}:zO (n+1) (.agg cs)=(qFn (zO n) cs).bind fun p=> .ret (V.mk p.1,p.2):=Eq.trans (Eq.refl _) rfl
theorem jGb {n:Nat}{f:FuncId}{cs:List V}:zO (n+1) (.fn f cs)=(qFn (zO n) cs).bind fun p=> .ret (.fn f p.1,p.2):=Eq.trans (Eq.refl _) rfl
theorem jGd {n id off len:Nat}:zO (n+1) (.sl id off len) = .get id fun
  | .live _ es wr _=>Q.assert (off+len≤es.length)
   (match qF4 es with
   | some ts=> .ret (.t (.sl ((ts.drop off).take len)),if wr then [id] else [])
   | none=>(qFn (zO n) es).bind fun p=>match qF4 p.1 with
    | some ts=> .ret (.t (.sl ((ts.drop off).take len)),if wr then id::p.2 else p.2)
    | none=> .fail)
  | .dead=> .fail:=Eq.trans (Eq.refl _) rfl
theorem zPh {n:Nat}{ids:List Nat}{obs:List Ob}{fz:List Nat}:qDe n [] ids obs fz = .ret (ids,obs,fz):=by cases n<;>rfl
theorem zJ7 {n id:Nat}{todo ids:List Nat}{obs:List Ob}{fz:List Nat}:qDe (n+1) (id::todo) ids obs fz=if ids.contains id then qDe n todo ids obs fz else
  .get id fun
   | .live z es true full=>(qFm es).bind fun p=>qDe n (todo++(match qF4 es with | some _=>[] | none=>qCe p.1)) (ids++[id]) (obs++[.live z p.1 true full]) (fz++p.2)
   | _=> .fail:=Eq.trans (Eq.refl _) rfl
theorem zYr:zB4 [] = .ret []:=Eq.trans (Eq.refl _) rfl
theorem zTg {id:Nat}{r:List Nat}:zB4 (id::r) = .get id fun
  | .live z es true full=>Q.assert (100≤id) ((zB4 r).bind fun q=> .ret ((id,.live z es false full)::q))
  | _=> .fail:=Eq.trans (Eq.refl _) rfl
theorem zPf {α:Type}{nb:Nat}{k:Q α}:zJ6 nb 0 k=k:=Eq.trans (Eq.refl _) rfl
theorem zPe {α:Type}{nb n:Nat}{k:Q α}:zJ6 nb (n+1) k = .free nb (zJ6 (nb+1) n k):=Eq.trans (Eq.refl _) rfl
theorem jGx {ids:List Nat}{nb k:Nat}:gam ids nb k=match ids[k]? with | some id=>id | none=>nb+(k-ids.length):=Eq.trans (Eq.refl _) rfl
theorem zUh {ids:List Nat}{nb k:Nat}:qQo ids nb k []=[]:=Eq.trans (Eq.refl _) rfl
theorem zPr {ids:List Nat}{nb k:Nat}{o:Ob}{r:List Ob}:qQo ids nb k (o::r)=(gam ids nb k,o.ren (gam ids nb))::qQo ids nb (k+1) r:=Eq.trans (Eq.refl _) rfl
theorem jAu {ρ:Nat→Nat}{z:Nat}{es:List V}{wr full:Bool}:(Ob.live z es wr full).ren ρ = .live z (qHz ρ es) wr full:=Eq.trans (Eq.refl _) rfl
theorem jOp {ρ:Nat→Nat}{x:T}:(V.t x).ren ρ = .t x:=Eq.trans (Eq.refl _) rfl
theorem jAr {ρ:Nat→Nat}:V.nil.ren ρ = .nil:=Eq.trans (Eq.refl _) rfl
theorem jAs {ρ:Nat→Nat}{id i f:Nat}:(V.ref id i f).ren ρ = .ref (ρ id) i f:=Eq.trans (Eq.refl _) rfl
theorem jIe {ρ:Nat→Nat}{g id i f:Nat}:(V.bd g id i f).ren ρ = .bd g (ρ id) i f:=Eq.trans (Eq.refl _) rfl
theorem jIf {ρ:Nat→Nat}:V.bq.ren ρ = .bq:=Eq.trans (Eq.refl _) rfl
attribute [go_sem] jIf
attribute [go_sem] jIe
theorem jIh {ρ:Nat→Nat}{cs:List T}:(V.ro cs).ren ρ = .ro cs:=Eq.trans (Eq.refl _) rfl
theorem jIi {ρ:Nat→Nat}{id i f:Nat}:(V.sl id i f).ren ρ = .sl (ρ id) i f:=Eq.trans (Eq.refl _) rfl
theorem jAq {ρ:Nat→Nat}{cs:List V}:(V.agg cs).ren ρ = .agg (qHz ρ cs):=Eq.trans (Eq.refl _) rfl
theorem jAt {ρ:Nat→Nat}{cs:List V}:(V.tup cs).ren ρ = .tup (qHz ρ cs):=Eq.trans (Eq.refl _) rfl
theorem jIg {ρ:Nat→Nat}{f:FuncId}{cs:List V}:(V.fn f cs).ren ρ = .fn f (qHz ρ cs):=Eq.trans (Eq.refl _) rfl
theorem jAp {ρ:Nat→Nat}:qHz ρ []=[]:=Eq.trans (Eq.refl _) rfl
theorem zUw {ρ:Nat→Nat}{c:V}{r:List V}:qHz ρ (c::r)=c.ren ρ::qHz ρ r:=Eq.trans (Eq.refl _) rfl
theorem zUs:qCe []=[]:=Eq.trans (Eq.refl _) rfl
theorem zPu {c:V}{r:List V}:qCe (c::r)=c.refs++qCe r:=Eq.trans (Eq.refl _) rfl
theorem jOm {x:T}:(V.t x).refs=[]:=Eq.trans (Eq.refl _) rfl
theorem jIc {cs:List T}:(V.ro cs).refs=[]:=Eq.trans (Eq.refl _) rfl
theorem jAl:V.nil.refs=[]:=Eq.trans (Eq.refl _) rfl
theorem jId {id i f:Nat}:(V.sl id i f).refs=[]:=Eq.trans (Eq.refl _) rfl
theorem jAm {id i f:Nat}:(V.ref id i f).refs=[id]:=Eq.trans (Eq.refl _) rfl
theorem jH9 {g id i f:Nat}:(V.bd g id i f).refs=[id]:=Eq.trans (Eq.refl _) rfl
theorem jIa:V.bq.refs=[]:=Eq.trans (Eq.refl _) rfl
attribute [go_sem] jIa
attribute [go_sem] jH9
theorem jAk {cs:List V}:(V.agg cs).refs=qCe cs:=Eq.trans (Eq.refl _) rfl
theorem jAn {cs:List V}:(V.tup cs).refs=qCe cs:=Eq.trans (Eq.refl _) rfl
theorem jIb {f:FuncId}{cs:List V}:(V.fn f cs).refs=qCe cs:=Eq.trans (Eq.refl _) rfl
theorem zYx:qQm []=[]:=Eq.trans (Eq.refl _) rfl
theorem zTn {c:V}{r:List V}:qQm (c::r)=c.ids++qQm r:=Eq.trans (Eq.refl _) rfl
theorem jTu {x:T}:(V.t x).ids=[]:=Eq.trans (Eq.refl _) rfl
theorem jMv {cs:List T}:(V.ro cs).ids=[]:=Eq.trans (Eq.refl _) rfl
theorem jG1:V.nil.ids=[]:=Eq.trans (Eq.refl _) rfl
theorem jMw {id i f:Nat}:(V.sl id i f).ids=[id]:=Eq.trans (Eq.refl _) rfl
theorem jG2 {id i f:Nat}:(V.ref id i f).ids=[id]:=Eq.trans (Eq.refl _) rfl
theorem jMs {g id i f:Nat}:(V.bd g id i f).ids=[id]:=Eq.trans (Eq.refl _) rfl
theorem jMt:V.bq.ids=[]:=Eq.trans (Eq.refl _) rfl
attribute [go_sem] jMt
attribute [go_sem] jMs
theorem jG0 {cs:List V}:(V.agg cs).ids=qQm cs:=Eq.trans (Eq.refl _) rfl
theorem jG3 {cs:List V}:(V.tup cs).ids=qQm cs:=Eq.trans (Eq.refl _) rfl
theorem jMu {f:FuncId}{cs:List V}:(V.fn f cs).ids=qQm cs:=Eq.trans (Eq.refl _) rfl
theorem zX0 {ts:List T}:qFm (ts.map .t) = .ret (ts.map .t,[]):=by simp[qFm,jCx]
theorem jAx {x:V}:jEo [x]=x:=Eq.trans (Eq.refl _) rfl
theorem jAw:jEo [] = .tup []:=Eq.trans (Eq.refl _) rfl
theorem jAy {x y:V}{r:List V}:jEo (x::y::r) = .tup (x::y::r):=Eq.trans (Eq.refl _) rfl
theorem zZf {f g:FuncId}{s:FnS}{r:Tab}:Tab.look ((g,s)::r) f=if g=f then some s else Tab.look r f:=Eq.trans (Eq.refl _) rfl
theorem jMc {x:T}:(V.t x).flat=x.flat:=Eq.trans (Eq.refl _) rfl
theorem zYg {k:IntKind}{n:Int}:(T.int k n).flat=true:=Eq.trans (Eq.refl _) rfl
theorem zS4 {b:Bool}:(T.bool b).flat=true:=Eq.trans (Eq.refl _) rfl
theorem zYh {s:ByteArray}:(T.str s).flat=true:=Eq.trans (Eq.refl _) rfl
theorem zS1:zJ3 []=true:=Eq.trans (Eq.refl _) rfl
theorem zPc {o:Ob}{r:List Ob}:zJ3 (o::r)=(o.flat&&zJ3 r):=Eq.trans (Eq.refl _) rfl
theorem jA0 {n:Nat}{vs:List V}:jSf n vs=(qFn (zO 4) vs).bind fun p=>(qDe (12+n) (List.range n++qCe p.1) [] [] []).bind fun q=>
  Q.assert ((q.1.all fun i => !(p.2++q.2.2).contains i)=true) ((zB4 (p.2++q.2.2)).bind fun _=> .ret (jEo (qHz (fun r=>q.1.idxOf r) p.1),q.2.1.map (Ob.ren fun r=>q.1.idxOf r))):=Eq.trans (Eq.refl _) rfl
theorem zR4 {f:FuncId}{keep:Bool}{vs:List V}{nb:Nat}:qZ2 tab f keep vs nb=(qXo keep vs).bind fun cp=>
  (Q.of ((tab.look f).bind fun s=>s (qHz (fun r=>cp.ids.idxOf r) cp.aS) (cp.obs.map (Ob.ren fun r=>cp.ids.idxOf r)))).bind fun p=>
   Q.assert (cp.ids.length≤p.2.length∧(keep=true∨p.1.flat=true∧zJ3 p.2=true))
    (zJ6 nb (p.2.length-cp.ids.length) (.ret (p.1.ren (gam cp.ids nb),(if keep then cp.fw else [])++qQo cp.ids nb 0 p.2))):=Eq.trans (Eq.refl _) rfl
theorem zJp {keep:Bool}{vs:List V}:qXo keep vs=(qFn (zO 4) vs).bind fun p=>(qDe 12 (qCe p.1) [] [] []).bind fun q=>
  Q.assert ((keep=true∨q.2.2=[])∧(q.1.all fun i => !(p.2++q.2.2).contains i)=true) ((zB4 (p.2++q.2.2)).bind fun fw=> .ret ⟨p.1,q.1,q.2.1,p.2++q.2.2,fw⟩):=Eq.trans (Eq.refl _) rfl
attribute [go_sem] zQp jB4 jJn jCx zXc qXf zXd jFy zRo zXa jFx jFw zZn jNm zSa qM4 zSd zX2 jGc zX3 zX1 jGb jGd zPh zJ7
 zYr zTg zPf zPe jGx zUh zPr jAu jOp jAr jAs jIh jIi jAq jAt jIg jAp zUw jEl zUs zPu jOm jIc jAl jId jAm jAk jAn jIb
 zX0 jAx jAw jAy zZf jMc zYg zS4 zYh zS1 zPc jA0 zR4 zJp zUt
attribute [go_sem] length_cons length_nil map_cons map_nil getElem?_cons_zero getElem?_cons_succ getElem?_nil take_succ_cons take_zero take_nil drop_succ_cons drop_zero drop_nil set_cons_zero set_cons_succ
 range_zero all_nil all_cons length_map Bool.and_true Bool.true_and length_replicate
theorem jS0 {b:Bool}:(b==true)=b:=by cases b<;>rfl
theorem jSz {b:Bool}:(b==false) = !b:=by cases b<;>rfl
attribute [go_sem] zYx zTn jTu jMv jG1 jMw jG2 jG0 jG3 jMu jDv jS0 jSz decide_true decide_false Bool.not_true Bool.not_false
end Go.Eng
end
