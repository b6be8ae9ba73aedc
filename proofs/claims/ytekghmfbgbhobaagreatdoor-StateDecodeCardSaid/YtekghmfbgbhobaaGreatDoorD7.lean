/- A part of an abstract machine, its walks, their tie. -/
import Derived.Test.YtekghmfbgbhobaaGreatDoorD6
set_option linter.all false
section
namespace Go.Eng
theorem qSh {hm:Nat→Option Ob} : ∀ {n:Nat} {todo ids:List Nat} {obs:List Ob} {fz ids':List Nat} {obs':List Ob} {fz' l:List Nat},(qC7 n todo ids obs fz).run hm=some ((ids',obs',fz'),l) → ∃ s,ids'=ids++s
 | n,[],ids,obs,fz,ids',obs',fz',l,h=>by
  have h':(Q.ret (ids,obs,fz):Q _).run hm=some ((ids',obs',fz'),l):=by cases n<;>exact h
  obtain⟨e,_⟩:=qF h';cases e;exact⟨[],sM⟩
 | 0,_::_,ids,obs,fz,ids',obs',fz',l,h=>by cases h
 | n+1,id::todo,ids,obs,fz,ids',obs',fz',l,h=>by
  simp only[qC7] at h;split at h
  ·exact qSh h
  ·obtain⟨o,l',ho,hs2,_⟩:=vQ h;cases o with
   | dead=>cases hs2
   | live z es wr full=>
    cases wr with
    | false=>cases hs2
    | true=>
     obtain⟨p,l1,l2,hp,hs3,_⟩:=zF hs2;obtain⟨s,hs⟩:=qSh hs3;exact⟨id::s,by rw[hs];simp⟩
theorem qTg {hm:Nat→Option Ob} : ∀ {m n s:Nat} {rest:List Nat} {obs:List Ob} {fz ids':List Nat} {obs':List Ob} {fz' l:List Nat},(qC7 n (List.range' s m++rest) (List.range s) obs fz).run hm=some ((ids',obs',fz'),l) → ∃ t,ids'=List.range (s+m)++t
 | 0,n,s,rest,obs,fz,ids',obs',fz',l,h=>by
  obtain⟨t,ht⟩:=qSh h;exact⟨t,ht⟩
 | m+1,n,s,rest,obs,fz,ids',obs',fz',l,h=>by
  cases n with
  | zero=>rw[List.range'_succ] at h;cases h
  | succ n=>
   rw[List.range'_succ,List.cons_append] at h;simp only[qC7] at h;split at h
   ·rename_i hc;simp at hc
   ·obtain⟨o,l',ho,hs2,_⟩:=vQ h;cases o with
    | dead=>cases hs2
    | live z es wr full=>
     cases wr with
     | false=>cases hs2
     | true=>
      obtain⟨p,l1,l2,hp,hs3,_⟩:=zF hs2;rw[←List.range_succ,List.append_assoc] at hs3;obtain⟨t,ht⟩:=qTg hs3;exact⟨t,by rw[ht];congr 2;omega⟩
def jAl:List V→V
 | [x]=>x
 | xs=> .tup xs
def jNh (n:Nat)(vs:List V):Q (V×List Ob):=
 (qE6 (zS 4) vs).bind fun p=>(qC7 (12+n) (List.range n++qCd p.1) [] [] []).bind fun q=>
  Q.assert ((q.1.all fun i => !(p.2++q.2.2).contains i)=true) ((zA1 (p.2++q.2.2)).bind fun _=> .ret (jAl (qHr (fun r=>q.1.idxOf r) p.1),q.2.1.map (Ob.ren fun r=>q.1.idxOf r)))
def rsQ (fs:Fs):List (Nat×Option (Nat×Bool))→Q (List V)
 | []=> .ret []
 | (t,none)::r=>(Q.of (yF fs t)).bind fun v=>(rsQ fs r).bind fun vs=> .ret (v::vs)
 | (t,some (n,agg))::r=>(Q.of (yF fs t)).bind fun v=>(qSq n agg [v]).bind fun p=>(rsQ fs r).bind fun vs=> .ret (p.1::vs)
def qX (rs:List (Nat×Option (Nat×Bool)))(n:Nat)(R:V→List Ob→Prop):qHq:=fun e fs hs=>
 match e with
 | .exit _=>False
 | _=>((rsQ fs rs).bind fun vs=>jNh n vs).wp hs (fun p _=>R p.1 p.2)
def qE {α:Type}:Nat→List α→List (Nat×α)
 | _,[]=>[]
 | i,x::r=>(i,x)::qE (i+1) r
theorem qFk {α:Type} : ∀ {l:List α} {i t:Nat},yF (qE i l) t=if i≤t then l[t-i]? else none
 | [],i,t=>by simp[qE,yF]
 | x::r,i,t=>by
  simp only[qE,yF];by_cases h:i=t
  ·subst h;simp
  ·rw[if_neg h,qFk];by_cases h1:i≤t
   ·have h2:i+1≤t:=oM;rw[if_pos h1,if_pos h2,show t-i=(t-(i+1))+1 by omega];simp
   ·have h2 : ¬ i+1≤t:=oM;rw[if_neg h1,if_neg h2]
def zEz (vs:List Value):Value:=match vs with
 | [x]=>x
 | xs=> .tuple xs.toArray
def qQx (P:Program):List ResultVar→Option (List (Nat×Option (Nat×Bool)))
 | []=>some []
 | .tmp t::r=>(qQx P r).map fun l=>(t,none)::l
 | .cell a t::r=>match P.info? t,P.underlying t with
  | some i,some d=>if wG d∨i.size=1 then (qQx P r).map fun l=>(a,some (i.size,wG d))::l else none
  | _,_=>none
def jAk (tmps:Array Value):ResultVar→Sem Value
 | .tmp t=>pure (tmps.getD t undef)
 | .cell a t=>do loadVar t (←asAddr (tmps.getD a undef))
theorem qUz {cx:Cx}{β:Nat→Option BI}{F:Nat→Prop}{fs:Fs}{hs:Hs}{a:Act}{w:World}(R:Rel cx β F (yF fs) (yF hs) a w) : ∀ {rv:List ResultVar} {rs:List (Nat×Option (Nat×Bool))} {vs:List V} {l:List Nat},qQx cx.P rv=some rs→(rsQ fs rs).run (yF hs)=some (vs,l)→
  ∃ xs,(rv.mapM (jAk a.tmps)).run cx.P w = .ok xs w∧qBn (qY β F w) vs xs
 | [],rs,vs,l,h,hq=>by
  cases h;obtain⟨rfl,_⟩:=qF hq;exact⟨[],sM,.nil⟩
 | .tmp t::r,rs,vs,l,h,hq=>by
  simp only[qQx,Option.map_eq_some_iff] at h;obtain⟨rs',hrs,rfl⟩:=h;simp only[rsQ] at hq;obtain⟨v,hv,hq⟩:=qJ hq;obtain⟨us,l1,l2,hu,hq,_⟩:=zF hq;obtain⟨rfl,_⟩:=qF hq;obtain⟨x,h1,h2⟩:=R.fr t v hv;obtain⟨xs,h3,h4⟩:=qUz R hrs hu;refine⟨x::xs,?_,.cons h2 h4⟩;rw[List.mapM_cons,Sem.run_bind];have e:(jAk a.tmps (.tmp t)).run cx.P w = .ok x w:=by simp[jAk,h1]
  rw[e,Result.andThen];simp only[Sem.run_bind,h3,Result.andThen];simp
 | .cell t ty::r,rs,vs,l,h,hq=>by
  simp only[qQx] at h;split at h
  ·rename_i i d hi hd;split at h
   ·rename_i hcond;simp only[Option.map_eq_some_iff] at h;obtain⟨rs',hrs,rfl⟩:=h;simp only[rsQ] at hq;obtain⟨v,hv,hq⟩:=qJ hq;obtain⟨⟨u,W⟩,l0,l3,hl,hq,_⟩:=zF hq;obtain⟨us,l1,l2,hu,hq,_⟩:=zF hq;obtain⟨rfl,_⟩:=qF hq;obtain⟨x,h1,h2⟩:=R.fr t v hv;obtain⟨xs,h3,h4⟩:=qUz R hrs hu;have hx:a.eval (.tmp t)=x:=by simp[Act.eval,h1]
    have han:qR2 cx.P ty (.tmp t)=some (.load i.size (wG d),[.tmp t]):=by simp[qR2,hi,hd,hcond]
    obtain⟨_,y,h5,h6⟩:=zSa (nb:=0) R han (vs:=[v]) (.cons (by rw[hx];exact h2) .nil) (by simpa [sem] using hl);rw[hx] at h5;have hptr : ∃ ad,x = .pointer (some ad):=by
     cases v<;>simp only[qSq] at hl<;>(try (cases hl;done))
     ·cases h2;exact⟨_,rfl⟩
     ·cases h2;exact⟨_,rfl⟩
    obtain⟨ad,rfl⟩:=hptr;refine⟨y::xs,?_,.cons h6 h4⟩;rw[List.mapM_cons,Sem.run_bind];have e:(jAk a.tmps (.cell t ty)).run cx.P w = .ok y w:=by
     have e0:a.tmps.getD t undef = .pointer (some ad):=by simp[h1]
     rw[←h5];simp only[jAk,e0,Instr.loadAt,Instr.sureAddr,asAddr]
    rw[e,Result.andThen];simp only[Sem.run_bind,h3,Result.andThen];simp
   ·cases h
  ·cases h
theorem qWs {P:Program}{fn:Func}{tmps:Array Value}{w:World}{xs:List Value}(h:(fn.results.toList.mapM (jAk tmps)).run P w = .ok xs w):(results fn tmps).run P w = .ok (zEz xs) w:=by
 have e:results fn tmps=(do
   let vs ←fn.results.mapM (jAk tmps)
   pure (if h:vs.size=1 then vs[0] else .tuple vs)):=by
  unfold results;congr 1
 rw[e,Array.mapM_eq_mapM_toList,Sem.run_bind];have k2:(Functor.map List.toArray (fn.results.toList.mapM (jAk tmps))).run P w = .ok xs.toArray w:=by
  rw[map_eq_pure_bind,Sem.run_bind,h,Result.andThen];simp
 rw[k2,Result.andThen];cases xs with
 | nil=>simp[zEz]
 | cons t r=>cases r with
  | nil=>simp[zEz]
  | cons t2 r=>simp[zEz]
theorem zE0 {β:Nat→Option BI}{F:Nat→Prop}{w:World}{vs:List V}{us:List Value}(h:qBn (qY β F w) vs us):qY β F w (jAl vs) (zEz us):=by
 have tup:qY β F w (.tup vs) (.tuple us.toArray):=by
  refine .tup vs _ (by simpa using h.length.symm) (fun i c u hc hu=>?_);obtain⟨y,h1,h2⟩:=h.get' i c hc;have:us[i]?=some u:=by simpa using hu
  rw[this] at h1;cases h1;exact h2
 cases h with
 | nil=>exact tup
 | cons h1 t=>cases t with
  | nil=>exact h1
  | cons h2 t=>exact tup
theorem zIn {P:Program}{G:Gl}{tab:Tab}{f:FuncId}{fn:Func}{c:Code}{ac:AC}{hints:List (Nat×List Nat)}{rs:List (Nat×Option (Nat×Bool))}(hf:P.funcs[f]?=some fn)(hb:fn.body=some c)(hann:ann P fn.ntmps hints c=some ac)(hmx:P.follows .mixedOrders=true)
  (ht:qG9 P G tab) (hrs:qQx P fn.results.toList=some rs) {aS:List V} {ins:List Ob} {r:V} {outs:List Ob} (hn:aS.length≤fn.ntmps) (hi:ins.length≤100)
  (h:ac.wp tab G (qE 0 aS) (qE 0 ins) (qX rs ins.length (fun r' outs'=>r'=r∧outs'=outs))):zG1 P G f aS ins r outs:=by
 intro w β F vals env fits hargs;have hd0 : ∀ k bi,β k=some bi→k<100:=by
  intro k bi h;rcases Nat.lt_or_ge k ins.length with h1 | h1
  ·omega
  ·rw[fits.dom k h1] at h;cases h
 let cx:Cx := { P,w0:=w,F0:=F,inb:=fun b => ∃ k bi,β k=some bi∧bi.blk=some b,nt:=fn.ntmps,gl:=G,β0:=β,d0:=hd0 }
 have hlen:aS.length=vals.size:=by simpa using hargs.length
 have lookAs : ∀ t v,yF (qE 0 aS) t=some v→aS[t]?=some v:=by
  intro t v h;simpa [qFk] using h
 have lookIns : ∀ t v,yF (qE 0 ins) t=some v→ins[t]?=some v:=by
  intro t v h;simpa [qFk] using h
 have R0:Rel cx β F (yF (qE 0 aS)) (yF (qE 0 ins)) { tmps:=vals++Array.replicate (fn.ntmps-vals.size) undef,defers:=[] } w:=by
  refine⟨by simp[cx];omega,rfl,fun t v hv=>?_,fun id o ho=>?_,fun id hn=>?_,fun i j bi bj b oi oj h1 h2 h3 h4 _ _ _ _=>fits.inj i j bi bj b h1 h2 h3 h4,rfl,rfl,rfl,Nat.le_refl _,fun _ _ _=>rfl,fun id z es full bi b h1 h2 h3=> .inr ⟨?_,id,bi,h2,h3⟩,fun b hb=>?_,fun b hb=>?_,env.Fw,fun _ _=>Iff.rfl,fun id bi b h1 h2=>(fits.blt id bi b h1 h2).1,fun g cs hg=>?_,fun _ _ h=>h,env.gs⟩
  ·obtain⟨x,h1,h2⟩:=hargs.get' t v (lookAs t v hv);refine⟨x,?_,h2⟩;have hlt:t<vals.size:=by
    have:=(List.getElem?_eq_some_iff.1 (lookAs t v hv)).1;omega
   rw[Array.getElem?_append_left hlt];simpa using h1
  ·obtain⟨bi,h1,h2,_⟩:=fits.ok id o (lookIns id o ho);exact⟨bi,h1,h2⟩
  ·refine fits.dom id ?_;rcases Nat.lt_or_ge id ins.length with h1 | h1
   ·rw[qFk] at hn;simp[h1] at hn
   ·exact h1
  ·have:=(List.getElem?_eq_some_iff.1 (lookIns id _ h1)).1;omega
  ·obtain⟨k,bi,h1,h2⟩:=hb;exact (fits.blt k bi b h1 h2).2
  ·obtain⟨k,bi,h1,h2⟩:=hb;exact (fits.blt k bi b h1 h2).1
  ·exact (env.gl g cs hg).mono (fun _ _ h=>by cases h) (fun _ h=>h) (fun _ _=>rfl)
 refine calls_of_wp hf hb (AC.sound (cx:=cx) ht hmx hann h R0 (fun e fs hs βR FR a w' hq R=>?_));have fin:((rsQ fs rs).bind fun vs=>jNh ins.length vs).wp hs (fun p _=>p.1=r∧p.2=outs)→a.defers=[] ∧ ∃ v,(results fn a.tmps).run P w' = .ok v w' ∧ ∃ x β' F',Ending.returned v = .returned x∧qUm w β F ins r outs x β' F' w':=by
  intro hq;rw[Q.wp_bind] at hq;obtain⟨vs,l0,hvs,⟨r',outs'⟩,l,hrun,e1,e2⟩:=hq;obtain⟨xs,hxs,hall⟩:=qUz (cx:=cx) R hrs hvs;refine⟨R.dfr,_,qWs hxs,?_⟩
  ·simp only at e1 e2;subst e1 e2;unfold jNh at hrun;obtain⟨p,l1,l2,hp,hrun,_⟩:=zF hrun;obtain⟨q,l3,l4,hqq,hrun,_⟩:=zF hrun;obtain⟨hdis,hrun⟩:=qP hrun;obtain⟨fw,l5,l6,hfw,hrun,_⟩:=zF hrun;obtain⟨e,_⟩:=qF hrun;simp only[Prod.mk.injEq] at e;obtain⟨rfl,rfl⟩:=e;obtain⟨ids,obs,fzq⟩:=q;obtain⟨t,htt⟩:=qTg (s:=0) (m:=ins.length) (n:=12+ins.length) (rest:=qCd p.1) (by simpa [List.range_eq_range'] using hqq);have hidk : ∀ k,k<ins.length→ids[k]?=some k:=by
    intro k hk;rw[htt,List.getElem?_append_left (by simpa using hk)];simp[hk]
   obtain⟨F1,R1,hFF,hnd,hlo,hfwl,hlive,fits',hres⟩:=zLa R hp hqq (fun r h=>by simp[h]) hdis hfw hall;have hβk : ∀ k bi,β k=some bi→βR k=some bi:=R1.ext0;have hklt : ∀ k bi,β k=some bi→k<ins.length:=by
    intro k bi h;rcases Nat.lt_or_ge k ins.length with h1 | h1
    ·exact h1
    ·rw[fits.dom k h1] at h;cases h
   refine⟨_,qMn ids βR,F1,rfl,fits',zE0 hres,fun k hk=>?_,fun k bi b hk h1 h2=>?_,fun b hb=>R1.F0 b hb,R1.Fw,R1.os,R1.tape,R1.output,R1.size,fun b hb hk=>R1.ext b hb (fun ⟨k,bi,h1,h2⟩=>hk k bi h1 h2)⟩
   ·obtain⟨bi,h1,_⟩:=fits.ok k ins[k] (by simp[hk]);simp[qMn,hidk k hk,hβk k bi h1,h1]
   ·unfold qMn at h1;rw[Option.bind_eq_some_iff] at h1;obtain⟨id,hid,h1⟩:=h1;obtain⟨z,es,full,_,hl⟩:=hlive k id hid;rcases R1.old id z es full bi b hl h1 h2 with h | ⟨_,k0,bi0,g1,g2⟩
    ·exact h
    ·exfalso;have hk0:=hklt k0 bi0 g1;obtain⟨z0,es0,full0,_,hl0⟩:=hlive k0 k0 (hidk k0 hk0);have e:=R1.inj id k0 bi bi0 b _ _ h1 (hβk k0 bi0 g1) h2 g2 hl hl0 sM sM;subst e;have hi1:k<ids.length:=(List.getElem?_eq_some_iff.1 hid).1;have hi2:id<ids.length:=(List.getElem?_eq_some_iff.1 (hidk id hk0)).1;have:=qFl hnd hi1 hi2 (by
      have a1:=hid;have a2:=hidk id hk0;rw[List.getElem?_eq_getElem hi1] at a1;rw[List.getElem?_eq_getElem hi2] at a2;rw[Option.some.inj a1,Option.some.inj a2])
     omega
 cases e with
 | normal=>exact fin hq
 | ret=>exact fin hq
 | exit id=>exact hq.elim
end Go.Eng
end
section
namespace Go.Eng
variable {tab:Tab} {gl:Gl} {fs:Fs} {hs:Hs} {Qx:qHq}
theorem jM3:AC.skip.wp tab gl fs hs Qx=Qx .normal fs hs:=Eq.trans (Eq.refl _) rfl
theorem jQy:AC.ret.wp tab gl fs hs Qx=Qx .ret fs hs:=Eq.trans (Eq.refl _) rfl
theorem jM1 {id:Nat}:(AC.exit id).wp tab gl fs hs Qx=Qx (.exit id) fs hs:=Eq.trans (Eq.refl _) rfl
def jAp (tab:Tab)(gl:Gl)(b:AC)(Qx:qHq):qHq:=fun e fs' hs'=>match e with | .normal=>b.wp tab gl fs' hs' Qx | e=>Qx e fs' hs'
def qTc (id:Nat)(Qx:qHq):qHq:=fun e fs' hs'=>match e with | .exit id'=>(if id'=id then Qx .normal fs' hs' else Qx (.exit id') fs' hs') | e=>Qx e fs' hs'
theorem jQz {a b:AC}:(AC.seq a b).wp tab gl fs hs Qx=a.wp tab gl fs hs (jAp tab gl b Qx):=Eq.trans (Eq.refl _) rfl
theorem zIf {b:AC}:jAp tab gl b Qx .normal fs hs=b.wp tab gl fs hs Qx:=Eq.trans (Eq.refl _) rfl
theorem zSl {b:AC}{id:Nat}:jAp tab gl b Qx (.exit id) fs hs=Qx (.exit id) fs hs:=Eq.trans (Eq.refl _) rfl
theorem zXq {b:AC}:jAp tab gl b Qx .ret fs hs=Qx .ret fs hs:=Eq.trans (Eq.refl _) rfl
theorem jF2 {id:Nat}{a:AC}:(AC.block id a).wp tab gl fs hs Qx=a.wp tab gl fs hs (qTc id Qx):=Eq.trans (Eq.refl _) rfl
theorem zAp {id:Nat}:qTc id Qx .normal fs hs=Qx .normal fs hs:=Eq.trans (Eq.refl _) rfl
theorem zL8 {id:Nat}:qTc id Qx .ret fs hs=Qx .ret fs hs:=Eq.trans (Eq.refl _) rfl
theorem zHc {id id':Nat}:qTc id Qx (.exit id') fs hs=if id'=id then Qx .normal fs hs else Qx (.exit id') fs hs:=Eq.trans (Eq.refl _) rfl
theorem jM0 {c:qG7}{a b:AC}:(AC.cond c a b).wp tab gl fs hs Qx=qKn (c.val gl (yF fs)) (a.wp tab gl fs hs Qx) (b.wp tab gl fs hs Qx):=Eq.trans (Eq.refl _) rfl
theorem jF3 {c:qG7}{a b:AC}:(AC.condb c a b).wp tab gl fs hs Qx=qTv (c.val gl (yF fs)) (a.wp tab gl fs hs Qx) (b.wp tab gl fs hs Qx):=Eq.trans (Eq.refl _) rfl
def qQs (tab:Tab)(gl:Gl)(a:AC)(fs:Fs)(hs:Hs)(Qx:qHq):Prop:=zOj (fun fs hs K=>a.wp tab gl fs hs K) fs hs Qx
theorem jM2 {a:AC}:(AC.loop a).wp tab gl fs hs Qx=qQs tab gl a fs hs Qx:=Eq.trans (Eq.refl _) rfl
@[congr] theorem jC5 {a:AC} {fs':Fs} {hs':Hs} (h1:fs=fs') (h2:hs=hs'):qQs tab gl a fs hs Qx=qQs tab gl a fs' hs' Qx:=by rw[h1,h2]
def jKk (anc:Option (List Nat))(Qx:qHq):Fs→Hs→List (List Nat×List Nat)→Prop:=fun fs' hs' acc=>(match anc with | none=>True | some l=>chk l acc=true)∧Qx .normal fs' hs'
theorem zRt {acc:List (List Nat×List Nat)}:jKk none Qx fs hs acc=Qx .normal fs hs:=by simp[jKk]
theorem zRu {l:List Nat}{acc:List (List Nat×List Nat)}:jKk (some l) Qx fs hs acc=(chk l acc=true∧Qx .normal fs hs):=Eq.trans (Eq.refl _) rfl
def opK (tab:Tab)(gl:Gl)(r:List jC)(nb:Nat)(fs:Fs)(d:Option Nat)(hs:Hs)(acc:List (List Nat×List Nat))(K:Fs→Hs→List (List Nat×List Nat)→Prop):V×Wr→List Nat→Prop:=
 fun p l=>zDk tab gl r nb (jAr fs d p.1) (zDj hs p.2) (acc++[(kE p.2,l)]) K
theorem jDi {r:List jC}{nb:Nat}{d:Option Nat}{acc:List (List Nat×List Nat)}{K:Fs→Hs→List (List Nat×List Nat)→Prop}{v:V}{W:Wr}{l:List Nat} :
  opK tab gl r nb fs d hs acc K (v,W) l=zDk tab gl r nb (jAr fs d v) (zDj hs W) (acc++[(kE W,l)]) K:=Eq.trans (Eq.refl _) rfl
def jOz {α:Type}(id:Nat)(K:α→List Nat→Prop):α→List Nat→Prop:=fun x l=>K x (id::l)
theorem zVs {α:Type}{id:Nat}{K:α→List Nat→Prop}{x:α}{l:List Nat}:jOz id K x l=K x (id::l):=Eq.trans (Eq.refl _) rfl
def jNp {α:Type}(l:List Nat)(K:α→List Nat→Prop):α→List Nat→Prop:=fun x l'=>K x (l++l')
theorem zUd {α:Type}{l l':List Nat}{K:α→List Nat→Prop}{x:α}:jNp l K x l'=K x (l++l'):=Eq.trans (Eq.refl _) rfl
def jNx {α γ:Type}(hs:Hs)(f:γ→Q α)(K:α→List Nat→Prop):γ→List Nat→Prop:=fun x l=>(f x).wp hs (jNp l K)
theorem zOz {α γ:Type}{f:γ→Q α}{K:α→List Nat→Prop}{x:γ}{l:List Nat}:jNx hs f K x l=(f x).wp hs (jNp l K):=Eq.trans (Eq.refl _) rfl
theorem zJ3 {α:Type}{o:Ob}{id:Nat}{k:Ob→Q α}{K:α→List Nat→Prop}:zOc hs (some o) id k K=(k o).wp hs (jOz id K):=Eq.trans (Eq.refl _) rfl
theorem zGt {α:Type}{id:Nat}{k:Q α}{K:α→List Nat→Prop}:qZ7 hs none id k K=k.wp hs (jOz id K):=Eq.trans (Eq.refl _) rfl
theorem jQx {nb:Nat}{anc:Option (List Nat)}{o:jC}{os:List jC}:(AC.reg nb anc (o::os)).wp tab gl fs hs Qx =
  (o.q tab gl (yF fs) nb).wp hs (opK tab gl os (nb+16) fs o.dst hs [] (jKk anc Qx)):=Eq.trans (Eq.refl _) rfl
theorem zTo {nb:Nat}{anc:Option (List Nat)}:(AC.reg nb anc []).wp tab gl fs hs Qx=jKk anc Qx fs hs []:=Eq.trans (Eq.refl _) rfl
theorem zYi {nb:Nat}{acc:List (List Nat×List Nat)}{K:Fs→Hs→List (List Nat×List Nat)→Prop}:zDk tab gl [] nb fs hs acc K=K fs hs acc:=Eq.trans (Eq.refl _) rfl
theorem zTm {o:jC}{r:List jC}{nb:Nat}{acc:List (List Nat×List Nat)}{K:Fs→Hs→List (List Nat×List Nat)→Prop} :
  zDk tab gl (o::r) nb fs hs acc K=(o.q tab gl (yF fs) nb).wp hs (opK tab gl r (nb+16) fs o.dst hs acc K):=Eq.trans (Eq.refl _) rfl
theorem zQu:kE []=[]:=Eq.trans (Eq.refl _) rfl
theorem zMs {p:Nat×Ob}{r:Wr}:kE (p::r)=p.1::kE r:=Eq.trans (Eq.refl _) rfl
theorem zVt {α:Type}{t:Nat}:yF ([]:List (Nat×α)) t=none:=Eq.trans (Eq.refl _) rfl
theorem zQ1 {α:Type}{k t:Nat}{v:α}{r:List (Nat×α)}:yF ((k,v)::r) t=if k=t then some v else yF r t:=Eq.trans (Eq.refl _) rfl
theorem zXr {α:Type}{k:Nat}{v:α}:jNj [] k v=[(k,v)]:=Eq.trans (Eq.refl _) rfl
theorem zSn {α:Type}{k k':Nat}{v v':α}{r:List (Nat×α)}:jNj ((k',v')::r) k v=if k'=k then (k,v)::r else (k',v')::jNj r k v:=Eq.trans (Eq.refl _) rfl
theorem zSp {d:Nat}{v:V}:jAr fs (some d) v=(d,v)::fs:=Eq.trans (Eq.refl _) rfl
theorem zSo {v:V}:jAr fs none v=fs:=Eq.trans (Eq.refl _) rfl
theorem zYa:zDj hs []=hs:=Eq.trans (Eq.refl _) rfl
theorem zTf {i:Nat}{o:Ob}{r:Wr}:zDj hs ((i,o)::r)=zDj ((i,o)::hs) r:=Eq.trans (Eq.refl _) rfl
theorem zYp {α:Type}{i:Nat}:qE i ([]:List α)=[]:=Eq.trans (Eq.refl _) rfl
theorem zTv {α:Type}{i:Nat}{x:α}{r:List α}:qE i (x::r)=(i,x)::qE (i+1) r:=Eq.trans (Eq.refl _) rfl
variable {K:V×Wr→List Nat→Prop} {nb:Nat} {fm:Nat→Option V}
theorem jD0 {d:Option Nat}{k:AK}{xs:List qG7}:((⟨d,k,xs,none⟩:jC).q tab gl fm nb).wp hs K=zGu hs (qCi gl fm xs) (fun vs=>k.q tab nb vs) K:=by
 simp only[jC.q,qG3,Q.wp_of_bind,qXo,if_true,jC.go]
def qTh (g:Option Bool)(A B:Prop):Prop:=
 match g with
 | some true=>A
 | some false=>B
 | none=>False
@[congr] theorem zZo {g g':Option Bool} {A B:Prop} (h:g=g'):qTh g A B=qTh g' A B:=by rw[h]
theorem zHw {A B:Prop}:qTh (some true) A B=A:=Eq.trans (Eq.refl _) rfl
theorem zD6 {A B:Prop}:qTh (some false) A B=B:=Eq.trans (Eq.refl _) rfl
theorem qB {b:Bool}{A B:Prop}:qTh (some b) A B=((b=true→A)∧(b=false→B)):=by
 cases b<;>simp[qTh]
theorem jDz {d:Option Nat}{k:AK}{xs:List qG7}{t:Nat}{b:Bool}:((⟨d,k,xs,some (t,b)⟩:jC).q tab gl fm nb).wp hs K =
  qTh (qG3 fm (some (t,b))) (zGu hs (qCi gl fm xs) (fun vs=>k.q tab nb vs) K) (K (.tup [],[]) []):=by
 simp only[jC.q,Q.wp_of_bind];cases h:qG3 fm (some (t,b)) with
 | none=>rfl
 | some g=>cases g<;>simp[qTh,qXo,jC.go,Q.wp_of_bind,Q.wp_ret]
theorem zD5 {t:Nat}{b:Bool}:qG3 fm (some (t,b))=match fm t with
  | some (.t (.bool c))=>some (c==b)
  | some (.tup [])=>some false
  | _=>none:=Eq.trans (Eq.refl _) rfl
theorem zYe:qCi gl fm []=some []:=Eq.trans (Eq.refl _) rfl
theorem zYf {t:Nat}{r:List qG7}:qCi gl fm (.tmp t::r)=(fm t).bind fun v=>(qCi gl fm r).map (v :: ·):=Eq.trans (Eq.refl _) rfl
theorem zYd {v:V}{r:List qG7}:qCi gl fm (.cst v::r)=(qCi gl fm r).map (v :: ·):=Eq.trans (Eq.refl _) rfl
theorem zTk {g:Nat}{r:List qG7}:qCi gl fm (.glob g::r)=((gl g).map V.ro).bind fun v=>(qCi gl fm r).map (v :: ·):=Eq.trans (Eq.refl _) rfl
theorem jFq {t:Nat}:(qG7.tmp t).val gl fm=fm t:=Eq.trans (Eq.refl _) rfl
theorem jFp {v:V}:(qG7.cst v).val gl fm=some v:=Eq.trans (Eq.refl _) rfl
theorem jOr {ao:AO}{vs:List V}:(AK.op ao).q tab nb vs=sem ao vs nb:=Eq.trans (Eq.refl _) rfl
theorem jCy {f:FuncId}{keep:Bool}{vs:List V}:(AK.call f keep).q tab nb vs=qXr tab f keep vs nb:=Eq.trans (Eq.refl _) rfl
theorem zVn {f:FuncId}{keep:Bool}{caps rest:List V}:(AK.callv keep).q tab nb (.fn f caps::rest)=qXr tab f keep (rest++caps) nb:=Eq.trans (Eq.refl _) rfl
theorem zVm {g id i f:Nat}{keep:Bool}{rest:List V}:(AK.callv keep).q tab nb (.bd g id i f::rest)=qXr tab g keep (.ref id i f::rest) nb:=Eq.trans (Eq.refl _) rfl
attribute [go_sem] zVm
theorem qF4 {α β γ:Type}{q:Q α}{f:α→Q β}{g:β→Q γ}:(q.bind f).bind g=q.bind fun x=>(f x).bind g:=by
 induction q with
 | ret a=>rfl
 | fail=>rfl
 | get id k ih=>simp only[Q.bind,ih]
 | free id k ih=>simp only[Q.bind,ih]
theorem zJ5 {α γ:Type}{x:γ}{f:γ→Q α}{K:α→List Nat→Prop}:((Q.ret x).bind f).wp hs K=(f x).wp hs K:=Eq.trans (Eq.refl _) rfl
theorem zGx {α γ:Type}{f:γ→Q α}{K:α→List Nat→Prop}:((Q.fail).bind f).wp hs K=False:=Q.wp_fail
theorem zGv {α β γ:Type}{q:Q α}{f:α→Q β}{g:β→Q γ}{K:γ→List Nat→Prop}:((q.bind f).bind g).wp hs K=(q.bind fun x=>(f x).bind g).wp hs K:=by rw[qF4]
theorem zJ4 {α γ:Type}{id:Nat}{k:Ob→Q γ}{f:γ→Q α}{K:α→List Nat→Prop}:((Q.get id k).bind f).wp hs K=zOc hs (yF hs id) id (fun o=>(k o).bind f) K:=Q.wp_get
theorem zGy {α γ:Type}{id:Nat}{k:Q γ}{f:γ→Q α}{K:α→List Nat→Prop}:((Q.free id k).bind f).wp hs K=qZ7 hs (yF hs id) id (k.bind f) K:=Q.wp_free
theorem qZh {α γ:Type}{b:Prop}[Decidable b]{q:Q γ}{f:γ→Q α}{K:α→List Nat→Prop}:((Q.assert b q).bind f).wp hs K=(b∧(q.bind f).wp hs K):=by
 rw[←Q.wp_assert];unfold Q.assert;split<;>rfl
def wpA (b P:Prop):Prop:=b∧P
@[congr] theorem jM6 {b b' P:Prop} (h:b=b'):wpA b P=wpA b' P:=by rw[h]
theorem zYj {P:Prop}:wpA True P=P:=by simp[wpA]
theorem jQ0 {b P:Prop}(h:b):wpA b P=P:=by simp[wpA,h]
theorem jF4 {a b P:Prop}:wpA (a∧b) P=wpA a (wpA b P):=by simp[wpA,and_assoc]
theorem zOf {α:Type}{b:Prop}[Decidable b]{q:Q α}{K:α→List Nat→Prop}:(Q.assert b q).wp hs K=wpA b (q.wp hs K):=Q.wp_assert
theorem qXp {α γ:Type}{b:Prop}[Decidable b]{q:Q γ}{f:γ→Q α}{K:α→List Nat→Prop}:((Q.assert b q).bind f).wp hs K=wpA b ((q.bind f).wp hs K):=qZh
theorem zTr {α γ:Type}{b:Prop}[Decidable b]{o:Option γ}{f:γ→Q α}{K:α→List Nat→Prop}:zGu hs (if b then o else none) f K=wpA b (zGu hs o f K):=zYk
theorem zOe {α γ:Type}{b:Prop}[Decidable b]{o:Option γ}{f:γ→Q α}{K:α→List Nat→Prop}:zGu hs (if b then none else o) f K=wpA (¬ b) (zGu hs o f K):=zTq
theorem qC {b:Bool}{A B:Prop}:qKn (some (.t (.bool b))) A B=((b=true→A)∧(b=false→B)):=Eq.trans (Eq.refl _) rfl
theorem qUo {α γ:Type}{x:γ}{f:γ→Q α}:(Q.ret x).bind f=f x:=Eq.trans (Eq.refl _) rfl
theorem jE7 {vs:List V}:sem .mov vs nb=zLs vs:=Eq.trans (Eq.refl _) rfl
theorem zXp {vs:List V}:sem .smov vs nb=zBk vs:=Eq.trans (Eq.refl _) rfl
theorem zXn {vs:List V}:sem .pick vs nb=qWz vs:=Eq.trans (Eq.refl _) rfl
theorem jE3 {vs:List V}:sem .box vs nb=zE5 nb vs:=Eq.trans (Eq.refl _) rfl
theorem zM6 {vs:List V}:sem .boxArr vs nb=qLx nb vs:=Eq.trans (Eq.refl _) rfl
theorem jE9 {vs:List V}:sem .s2b vs nb=qZ1 nb vs:=Eq.trans (Eq.refl _) rfl
theorem jE0 {vs:List V}:sem .b2s vs nb=zLo vs:=Eq.trans (Eq.refl _) rfl
theorem zM9 {vs:List V}:sem .sindex vs nb=qHo vs:=Eq.trans (Eq.refl _) rfl
theorem jE4 {vs:List V}:sem .len vs nb=zE6 vs:=Eq.trans (Eq.refl _) rfl
theorem zXo {vs:List V}:sem .slen vs nb=qSr vs:=Eq.trans (Eq.refl _) rfl
theorem zM4 {vs:List V}:sem .appstr vs nb=qC9 nb vs:=Eq.trans (Eq.refl _) rfl
theorem jE6 {vs:List V}:sem .min vs nb=zLr vs:=Eq.trans (Eq.refl _) rfl
theorem jE5 {vs:List V}:sem .max vs nb=zLq vs:=Eq.trans (Eq.refl _) rfl
theorem jEz {n:Nat}{k:IntKind}{neg:Bool}{vs:List V}:sem (.aeq n k neg) vs nb=qWw n k neg vs:=Eq.trans (Eq.refl _) rfl
theorem zM8 {vs:List V}:sem .nilchk vs nb=qLy vs:=Eq.trans (Eq.refl _) rfl
theorem jE8 {z:Nat}{es vs:List V}:sem (.new z es) vs nb=zE7 z es nb vs:=Eq.trans (Eq.refl _) rfl
theorem zSc {z:List V}{pl:List (Nat×Nat)}{vs:List V}:sem (.build z pl) vs nb=qQ5 z pl vs:=Eq.trans (Eq.refl _) rfl
theorem zM7 {z len:Nat}{zero:V}{ix:List Nat}{vs:List V}:sem (.bslice z len zero ix) vs nb=qQ4 z len zero ix nb vs:=Eq.trans (Eq.refl _) rfl
theorem zXk {n:Nat}{agg:Bool}{vs:List V}:sem (.load n agg) vs nb=qSq n agg vs:=Eq.trans (Eq.refl _) rfl
theorem zSj {n:Nat}{vs:List V}:sem (.store n) vs nb=qQ9 n vs:=Eq.trans (Eq.refl _) rfl
theorem jE2 {op:BinOp}{vs:List V}:sem (.bin op) vs nb=zLp op vs:=Eq.trans (Eq.refl _) rfl
theorem jE1 {neg:Bool}{vs:List V}:sem (.beq neg) vs nb=zE4 neg vs:=Eq.trans (Eq.refl _) rfl
theorem jK6 {op:UnOp}{vs:List V}:sem (.un op) vs nb=zXf op vs:=Eq.trans (Eq.refl _) rfl
theorem zXg {k:IntKind}{vs:List V}:sem (.conv k) vs nb=qJg k vs:=Eq.trans (Eq.refl _) rfl
theorem zIe {z by_:Nat}{zero:V}{vs:List V}:sem (.mkslice z by_ zero) vs nb=zXe z by_ zero nb vs:=Eq.trans (Eq.refl _) rfl
theorem zNa {lo hi mx:Bool}{vs:List V}:sem (.sslice lo hi mx) vs nb=qQ8 lo hi mx vs:=Eq.trans (Eq.refl _) rfl
theorem zSi {z:Nat}{lo hi mx:Bool}{vs:List V}:sem (.slice z lo hi mx) vs nb=qU4 z lo hi mx vs:=Eq.trans (Eq.refl _) rfl
theorem zM5 {n z:Nat}{lo hi mx:Bool}{vs:List V}:sem (.aslice n z lo hi mx) vs nb=qQ3 n z lo hi mx vs:=Eq.trans (Eq.refl _) rfl
theorem zSd {off:Nat}{vs:List V}:sem (.faddr off) vs nb=qU1 off vs:=Eq.trans (Eq.refl _) rfl
theorem zSe {off n:Nat}{agg:Bool}{vs:List V}:sem (.field off n agg) vs nb=qU2 off n agg vs:=Eq.trans (Eq.refl _) rfl
theorem zSf {z:Nat}{vs:List V}:sem (.iaddr z) vs nb=qQ6 z vs:=Eq.trans (Eq.refl _) rfl
theorem zSb {n z:Nat}{vs:List V}:sem (.aaddr n z) vs nb=qQ2 n z vs:=Eq.trans (Eq.refl _) rfl
theorem zSg {n z:Nat}{agg:Bool}{vs:List V}:sem (.index n z agg) vs nb=qU3 n z agg vs:=Eq.trans (Eq.refl _) rfl
theorem zId {i:Nat}{vs:List V}:sem (.extract i) vs nb=qHn i vs:=Eq.trans (Eq.refl _) rfl
theorem zXj {n:Nat}{vs:List V}:sem (.lenc n) vs nb=qWy n vs:=Eq.trans (Eq.refl _) rfl
theorem zM3 {z by_:Nat}{vs:List V}:sem (.append z by_) vs nb=qHm z by_ nb vs:=Eq.trans (Eq.refl _) rfl
theorem zIc {z by_:Nat}{vs:List V}:sem (.appendt z by_) vs nb=qMa z by_ nb vs:=Eq.trans (Eq.refl _) rfl
theorem zXl {f:FuncId}{vs:List V}:sem (.mkbd f) vs nb=zBi f vs:=Eq.trans (Eq.refl _) rfl
theorem zXi {vs:List V}:sem .idsl vs nb=zBh vs:=Eq.trans (Eq.refl _) rfl
theorem zSh {neg:Bool}{vs:List V}:sem (.nileq neg) vs nb=qQ7 neg vs:=Eq.trans (Eq.refl _) rfl
attribute [go_sem] zSh qQ7
attribute [go_sem] zIc zXl zXi
theorem zXh {z:Nat}{vs:List V}:sem (.copy z) vs nb=qWx z vs:=Eq.trans (Eq.refl _) rfl
theorem zXm {f:FuncId}{vs:List V}:sem (.mkfn f) vs nb=zBj f vs:=Eq.trans (Eq.refl _) rfl
theorem jLu {k:IntKind}{n:Int}:(T.int k n).cells=[T.int k n]:=Eq.trans (Eq.refl _) rfl
theorem jFh {b:Bool}:(T.bool b).cells=[T.bool b]:=Eq.trans (Eq.refl _) rfl
theorem jLv {s:ByteArray}:(T.str s).cells=[T.str s]:=Eq.trans (Eq.refl _) rfl
theorem jFi  : T.fnil.cells=[T.fnil]:=Eq.trans (Eq.refl _) rfl
theorem jFj  : T.pnil.cells=[T.pnil]:=Eq.trans (Eq.refl _) rfl
theorem jLt {cs:List T}:(T.agg cs).cells=cs:=Eq.trans (Eq.refl _) rfl
theorem jQf {cs:List T}:(T.sl cs).cells=[T.sl cs]:=Eq.trans (Eq.refl _) rfl
theorem jMm {k:IntKind}{n:Int}:(V.t (T.int k n)).cells=[V.t (T.int k n)]:=Eq.trans (Eq.refl _) rfl
theorem jFr {b:Bool}:(V.t (T.bool b)).cells=[V.t (T.bool b)]:=Eq.trans (Eq.refl _) rfl
theorem jMp {s:ByteArray}:(V.t (T.str s)).cells=[V.t (T.str s)]:=Eq.trans (Eq.refl _) rfl
theorem jFs  : (V.t T.fnil).cells=[V.t T.fnil]:=Eq.trans (Eq.refl _) rfl
theorem jFt  : (V.t T.pnil).cells=[V.t T.pnil]:=Eq.trans (Eq.refl _) rfl
theorem jFv {cs:List T}:(V.t (T.agg cs)).cells=cs.map V.t:=Eq.trans (Eq.refl _) rfl
theorem jMq {cs:List T}:(V.t (T.sl cs)).cells=[V.t (T.sl cs)]:=Eq.trans (Eq.refl _) rfl
theorem jMn  : V.nil.cells=[V.nil]:=Eq.trans (Eq.refl _) rfl
theorem jMo {id i f:Nat}:(V.ref id i f).cells=[V.ref id i f]:=Eq.trans (Eq.refl _) rfl
theorem jQn {g id i f:Nat}:(V.bd g id i f).cells=[V.bd g id i f]:=Eq.trans (Eq.refl _) rfl
theorem jQo:V.bq.cells=[V.bq]:=Eq.trans (Eq.refl _) rfl
attribute [go_sem] jQo
attribute [go_sem] jQn
theorem jQq {cs:List T}:(V.ro cs).cells=[V.ro cs]:=Eq.trans (Eq.refl _) rfl
theorem jQr {id i f:Nat}:(V.sl id i f).cells=[V.sl id i f]:=Eq.trans (Eq.refl _) rfl
theorem jMl {cs:List V}:(V.agg cs).cells=cs:=Eq.trans (Eq.refl _) rfl
theorem jQp {f:FuncId}{cs:List V}:(V.fn f cs).cells=[V.fn f cs]:=Eq.trans (Eq.refl _) rfl
theorem jMt {k:IntKind}{n:Int}:(V.t (T.int k n)).plain=true:=Eq.trans (Eq.refl _) rfl
theorem jFw {b:Bool}:(V.t (T.bool b)).plain=true:=Eq.trans (Eq.refl _) rfl
theorem jMw {s:ByteArray}:(V.t (T.str s)).plain=true:=Eq.trans (Eq.refl _) rfl
theorem jFy  : (V.t T.fnil).plain=true:=Eq.trans (Eq.refl _) rfl
theorem jFz  : (V.t T.pnil).plain=true:=Eq.trans (Eq.refl _) rfl
theorem jF1 {cs:List T}:(V.t (T.agg cs)).plain=true:=Eq.trans (Eq.refl _) rfl
theorem jMx {cs:List T}:(V.t (T.sl cs)).plain=true:=Eq.trans (Eq.refl _) rfl
theorem jMu  : V.nil.plain=true:=Eq.trans (Eq.refl _) rfl
theorem jMv {id i f:Nat}:(V.ref id i f).plain=true:=Eq.trans (Eq.refl _) rfl
theorem jQs {g id i f:Nat}:(V.bd g id i f).plain=true:=Eq.trans (Eq.refl _) rfl
theorem jQt:V.bq.plain=true:=Eq.trans (Eq.refl _) rfl
attribute [go_sem] jQt
attribute [go_sem] jQs
theorem jQv {cs:List T}:(V.ro cs).plain=true:=Eq.trans (Eq.refl _) rfl
theorem jQw {id i f:Nat}:(V.sl id i f).plain=true:=Eq.trans (Eq.refl _) rfl
theorem jMs {cs:List V}:(V.agg cs).plain=true:=Eq.trans (Eq.refl _) rfl
theorem jQu {f:FuncId}{cs:List V}:(V.fn f cs).plain=true:=Eq.trans (Eq.refl _) rfl
theorem jHa {op:BinOp}{k k':IntKind}{x y:Int}:qGy op (.int k x) (.int k' y)=zAo op k x k' y:=Eq.trans (Eq.refl _) rfl
theorem jBo {x y:ByteArray}:qGy .add (.str x) (.str y)=if x.size+y.size≤maxLen then some (.str (x++y)) else none:=Eq.trans (Eq.refl _) rfl
theorem jHb {x y:ByteArray}:qGy .eql (.str x) (.str y)=some (.bool (x.toList==y.toList)):=Eq.trans (Eq.refl _) rfl
theorem jHc {x y:ByteArray}:qGy .neq (.str x) (.str y)=some (.bool !(x.toList==y.toList)):=Eq.trans (Eq.refl _) rfl
theorem jL8 {b:Bool}:unT .not (.bool b)=some (.bool !b):=Eq.trans (Eq.refl _) rfl
theorem jL7 {k:IntKind}{n:Int}:unT .neg (.int k n)=some (.int k (k.wrap (0-n))):=Eq.trans (Eq.refl _) rfl
theorem jH9 {k:IntKind}{n:Int}:wH (.t (.int k n))=some n:=Eq.trans (Eq.refl _) rfl
theorem jK3 {k k':IntKind}{n:Int}:qJg k [.t (.int k' n)] = .ret (.t (.int k (k.wrap n)),[]):=Eq.trans (Eq.refl _) rfl
attribute [go_sem] jLu jFh jLv jFi jFj jLt jQf jMm jFr jMp jFs jFt jFv jMq jMn jMo jQq jQr jMl jQp jMt jFw jMw jFy jFz jF1 jMx jMu jMv jQv jQw jMs jQu jHa jBo jHb jHc jL8 jL7 jH9 jK3
attribute [go_sem ↓] jM3 jQy jM1 jQz jF2 jM2 jM0 jF3 jQx zTo zIf zSl zXq zAp zL8 zHc zRt zRu jD0 jDz jOr jCy zVn
 jDi zVs zUd zOz Q.wp_of_bind Q.wp_ret Q.wp_fail Q.wp_get Q.wp_free zOf zJ5 zGx zGv zJ4 zGy qXp
attribute [go_sem] zUs jBs
attribute [go_sem] zYj jF4 zYi zTm zYe zYf zYd zTk jFq jFp zVt zQ1 zXr zSn zSp zSo zYa zTf zYp zTv zQu zMs
 qXo zTs zTr zOe zJ3 zOd zJ2 zGt Q.wp_ite zMc zHi zHw zD6 zD5
attribute [go_sem] Option.bind_some Option.map_some Option.bind_none Option.map_none true_and and_true List.nil_append List.cons_append List.append_nil
attribute [go_sem] jEz qWw jE7 zXp zXn jE3 zM6 jE9 jE0 zM9 jE4 zXo zM4 jE6 jE5 zM8 jE8 zSc zM7 zXk zSj jE2 jE1 jK6 zXg zIe zNa zSi zM5 zSd zSe zSf zSb zSg zId zXj zM3 zXh zXm
attribute [go_sem] zLs zBk qWz zE7 zE5 qLx qQ5 qQ4 qSq qQ9 zLp zE4 zXf qZ1 zLo zXe qQ8 qU4 qQ3 qU1 qU2 qQ6 qQ2 qU3 qHo qHn qSr zE6 qWy qHm qC9 qWx zLr zLq zBj zBi zBh qMa qLy
 zAo qTz qE4 qTs qX rsQ
end Go.Eng
end
section
namespace Go.Eng
mutual
def V.ids:V→List Nat
 | .ref id _ _=>[id]
 | .bd _ id _ _=>[id]
 | .sl id _ _=>[id]
 | .agg cs=>qQo cs
 | .tup cs=>qQo cs
 | .fn _ cs=>qQo cs
 | _=>[]
def qQo:List V→List Nat
 | []=>[]
 | c::r=>c.ids++qQo r
end
theorem qAc : ∀ {cs:List V} {c:V} {r:Nat},c∈cs→r∈c.ids→r∈qQo cs
 | x::cs,c,r,hc,hr=>by
  simp only[qQo,List.mem_append];simp only[List.mem_cons] at hc;rcases hc with rfl | hc
  ·exact .inl hr
  ·exact .inr (qAc hc hr)
theorem zZq (ts:List T):qQo (ts.map .t)=[]:=by
 induction ts with
 | nil=>rfl
 | cons x r ih=>simp[qQo,V.ids,ih]
theorem qY.sub {β β':Nat→Option BI}{F:Nat→Prop}{w:World}{v:V}{x:Value}(h:qY β F w v x):(∀ i∈v.ids,∀ bi,β i=some bi→β' i=some bi)→qY β' F w v x:=by
 induction h with
 | t h=>intro _;exact .t h
 | nil=>intro _;exact .nil
 | ref id i f b sz room hb=>intro hs;exact .ref id i f b sz room (hs id (by simp[V.ids]) _ hb)
 | bd g id i f b sz room hb=>intro hs;exact .bd g id i f b sz room (hs id (by simp[V.ids]) _ hb)
 | bq b=>intro _;exact .bq b
 | ro cs a news ha hn h1 hF hw h=>intro _;exact .ro cs a news ha hn h1 hF hw h
 | sl id off len cap b sz room a hb hlc hr ha hs=>intro hsub;exact .sl id off len cap b sz room a (hsub id (by simp[V.ids]) _ hb) hlc hr ha hs
 | slv id sz room hb=>intro hsub;exact .slv id sz room (hsub id (by simp[V.ids]) _ hb)
 | agg cs vs hl h1 _ ih=>intro hs;exact .agg cs vs hl h1 (fun i c u hc hu=>ih i c u hc hu (fun k hk=>hs k (by simp only[V.ids];exact qAc (List.mem_of_getElem? hc) hk)))
 | tup cs vs hl _ ih=>intro hs;exact .tup cs vs hl (fun i c u hc hu=>ih i c u hc hu (fun k hk=>hs k (by simp only[V.ids];exact qAc (List.mem_of_getElem? hc) hk)))
 | fn f cs vs hl _ ih=>intro hs;exact .fn f cs vs hl (fun i c u hc hu=>ih i c u hc hu (fun k hk=>hs k (by simp only[V.ids];exact qAc (List.mem_of_getElem? hc) hk)))
def Cv (hs:Hs)(ρ:Nat→Nat)(vt ks:List Nat)(v v':V):Prop:=
 ((v=v'.ren ρ ∨ ∃ l,(zS 4 v).run (yF hs)=some ((v'.ren ρ,[]),l)) ∧ ∀ i∈v'.ids,i∈ks)∨(v = .nil ∧ ∃ id,id∈vt∧v' = .sl id 0 0)
def CvO (hs:Hs)(ρ:Nat→Nat)(ks:List Nat):Ob→Ob→Prop
 | .live z es wr full,.live z' es' wr' full'=>z=z'∧wr=wr'∧(full'=true→full=true)∧(es=qHr ρ es' ∨ ∃ l,(qE5 es).run (yF hs)=some ((qHr ρ es',[]),l)) ∧ ∀ i∈qQo es',i∈ks
 | _,.dead=>True
 | _,_=>False
def qZj (fs:Fs)(hs:Hs)(ρ:Nat→Nat)(vt ks:List Nat):Fs→Prop
 | []=>True
 | (t,v')::r=>(∃ v,yF fs t=some v∧Cv hs ρ vt ks v v')∧qZj fs hs ρ vt ks r
def jF9 (hs:Hs)(ρ:Nat→Nat)(ks:List Nat):Hs→Prop
 | []=>True
 | (i,o')::r=>((∃ o,yF hs (ρ i)=some o∧CvO hs ρ ks o o')∧(i<100→ρ i=i)∧(100≤i→100≤ρ i))∧jF9 hs ρ ks r
def VtW:Hs→Prop
 | []=>True
 | (i,o')::r=>((∃ z full,o' = .live z [] true full)∧100≤i)∧VtW r
theorem qZj.get {fs:Fs}{hs:Hs}{ρ:Nat→Nat}{vt ks:List Nat} : ∀ {fs':Fs},qZj fs hs ρ vt ks fs' → ∀ t v',yF fs' t=some v' → ∃ v,yF fs t=some v∧Cv hs ρ vt ks v v'
 | [],_,t,v',h=>by cases h
 | (k,u)::r,hw,t,v',h=>by
  simp only[yF] at h;split at h
  ·cases h;subst_vars;exact hw.1
  ·exact qZj.get hw.2 t v' h
theorem jF9.get {hs:Hs}{ρ:Nat→Nat}{ks:List Nat} : ∀ {hs':Hs},jF9 hs ρ ks hs' → ∀ i o',yF hs' i=some o'→(∃ o,yF hs (ρ i)=some o∧CvO hs ρ ks o o')∧(i<100→ρ i=i)∧(100≤i→100≤ρ i)
 | [],_,t,v',h=>by cases h
 | (k,u)::r,hw,t,v',h=>by
  simp only[yF] at h;split at h
  ·cases h;subst_vars;exact hw.1
  ·exact jF9.get hw.2 t v' h
theorem VtW.get : ∀ {hs':Hs},VtW hs' → ∀ i o',yF hs' i=some o'→(∃ z full,o' = .live z [] true full)∧100≤i
 | [],_,t,v',h=>by cases h
 | (k,u)::r,hw,t,v',h=>by
  simp only[yF] at h;split at h
  ·cases h;subst_vars;exact hw.1
  ·exact VtW.get hw.2 t v' h
def Ob.z:Ob→Nat
 | .live z _ _ _=>z
 | .dead=>0
theorem qHi {α:Type} : ∀ {l:List (Nat×α)} {i:Nat},i∈l.map (·.1) → ∃ o,yF l i=some o
 | (k,u)::r,i,h=>by
  simp only[yF];split
  ·exact⟨_,rfl⟩
  ·rename_i hne;simp only[List.map_cons,List.mem_cons] at h;rcases h with h | h
   ·exact absurd h.symm hne
   ·exact qHi h
theorem qB7 {α:Type} : ∀ {l:List (Nat×α)} {i:Nat} {o:α},yF l i=some o→i∈l.map (·.1)
 | (k,u)::r,i,o,h=>by
  simp only[yF] at h;split at h
  ·subst_vars;simp
  ·simp[qB7 h]
theorem qQq {α:Type} : ∀ {l r:List (Nat×α)} {i:Nat},yF (l++r) i=match yF l i with | some o=>some o | none=>yF r i
 | [],r,i=>rfl
 | (k,u)::l,r,i=>by
  simp only[List.cons_append,yF];split
  ·rfl
  ·exact qQq
theorem zA3 {β:Nat→Option BI}{F:Nat→Prop}:qUl β F []=F:=by
 funext b;apply propext;constructor
 ·intro h;rcases h with h | ⟨i,hi,_⟩
  ·exact h
  ·simp at hi
 ·exact .inl
variable {cx:Cx} {β:Nat→Option BI} {F:Nat→Prop} {a:Act} {w:World}
theorem zMr {fm:Nat→Option V}{hm:Nat→Option Ob}(R:Rel cx β F fm hm a w){es es':List V}{l:List Nat}(h:(qE5 es).run hm=some ((es',[]),l)){sz:Nat}{c:Array Value}(hh:vG β F w es sz c):es'.length=es.length∧vG β F w es' sz c:=by
 unfold qE5 at h;split at h
 ·obtain⟨e,_⟩:=qF h;cases e;exact⟨rfl,hh⟩
 ·obtain⟨g1,g2⟩:=vP h;refine⟨g1,fun i x hx=>?_⟩;have hi:i<es.length:=by rw[←g1];exact (List.getElem?_eq_some_iff.1 hx).1
  obtain⟨fzi,li,m1,m2⟩:=g2 i es[i] x (by simp[hi]) hx;obtain⟨k1,k2⟩:=hh i es[i] (by simp[hi]);by_cases hz:es[i].cells=[]
  ·
   have:x.cells=[]:=by
    cases hx0:es[i] with
    | t y=>
     rw[hx0] at m1 hz;obtain⟨e,_⟩:=qF (x:=(V.t y,([]:List Nat))) m1;cases e;exact hz
    | agg cs=>
     rw[hx0] at m1 hz;simp only[zS] at m1;obtain⟨p,l1,l2,hp,m1,_⟩:=zF m1;obtain⟨e,_⟩:=qF m1;cases e;have hcs:cs=[]:=hz;subst hcs;have:=(vP hp).1;rw[qUu];exact List.eq_nil_of_length_eq_zero this
    | _=>rw[hx0] at hz;simp[V.cells] at hz
   rw[this];rw[hz] at k1;exact⟨k1,by intro j y hy;simp at hy⟩
  ·obtain⟨q1,q2⟩:=zDt R m1 (fz':=[]) m2 hz (fun j y hy=>let ⟨u,_,b,d⟩:=k2 j y hy;⟨u,b,d⟩);refine⟨q1.trans k1,fun j y' hy'=>?_⟩;have hj:j<es[i].cells.length:=by rw[←q1];exact (List.getElem?_eq_some_iff.1 hy').1
   obtain⟨u,hu,hr,ho⟩:=k2 j (es[i].cells[j]'hj) (by simp[hj]);obtain⟨s1,_,_⟩:=q2 j (es[i].cells[j]'hj) y' u (by simp[hj]) hy' hr ho;rw[zA3] at s1;exact⟨u,hu,s1,ho⟩
theorem qI.of {fs fs':Fs}{hs hv ho:Hs}(ρ:Nat→Nat)(h1:qZj fs hs ρ (hv.map (·.1)) (ho.map (·.1)) fs')(h2:jF9 hs ρ (ho.map (·.1)) ho)(h3:VtW hv)(hdis : ∀ i∈hv.map (·.1),i ∉ ho.map (·.1))
  (hinj:((ho.map (·.1)).map ρ).Nodup) (hkeep : ∀ k∈hs.map (·.1),k<100→k∈ho.map (·.1)):qI fs hs fs' (hv++ho):=by
 intro cx β F a w R
 let β':Nat→Option BI:=fun i=>match yF hv i with
  | some o=>some ⟨none,o.z,0⟩
  | none=>match yF ho i with
   | some _=>β (ρ i)
   | none=>none
 have bv : ∀ i o,yF hv i=some o→β' i=some ⟨none,o.z,0⟩:=fun i o h=>by simp[β',h]
 have hvo : ∀ i,i∈ho.map (·.1)→yF hv i=none:=by
  intro i hi;cases h:yF hv i with
  | none=>rfl
  | some o=>exact absurd hi (hdis i (qB7 h))
 have bo : ∀ i,i∈ho.map (·.1)→β' i=β (ρ i):=by
  intro i hi;obtain⟨o,h⟩:=qHi hi;simp[β',hvo i hi,h]
 have inj : ∀ i j,i∈ho.map (·.1)→j∈ho.map (·.1)→ρ i=ρ j→i=j:=by
  intro i j hi hj e;obtain⟨m,hm⟩:=List.getElem?_of_mem hi;obtain⟨n,hn⟩:=List.getElem?_of_mem hj;have hml:m<(ho.map (·.1)).length:=(List.getElem?_eq_some_iff.1 hm).1;have hnl:n<(ho.map (·.1)).length:=(List.getElem?_eq_some_iff.1 hn).1;have:=qFl hinj (i:=m) (j:=n) (by simpa using hml) (by simpa using hnl) (by
   have a1:(ho.map (·.1))[m]=i:=by rw[List.getElem?_eq_getElem hml] at hm;exact Option.some.inj hm
   have a2:(ho.map (·.1))[n]=j:=by rw[List.getElem?_eq_getElem hnl] at hn;exact Option.some.inj hn
   simp only[List.getElem_map] at a1 a2 ⊢;rw[a1,a2];exact e)
  subst this;rw[hm] at hn;exact Option.some.inj hn
 have val : ∀ {v v':V} {x:Value},qY β F w v x→Cv hs ρ (hv.map (·.1)) (ho.map (·.1)) v v'→qY β' F w v' x:=by
  intro v v' x hx hc;rcases hc with⟨hc,hids⟩ | ⟨rfl,id,hid,rfl⟩
  ·have h0:qY β F w (v'.ren ρ) x:=by
    rcases hc with hc | ⟨l,hc⟩
    ·rw[←hc];exact hx
    ·have:=kS R hc hx (fz':=[]) sM;rw[zA3] at this;exact this
   have h1:=h0.unren (ρ:=ρ) rfl;exact h1.sub (fun i hi bi hb=>by rw[bo i (hids i hi)];exact hb)
  ·obtain⟨o,ho'⟩:=qHi hid;cases hx;exact .slv id _ _ (bv id o ho')
 have ob : ∀ {bi:BI} {o o':Ob},qG8 β F w bi o→CvO hs ρ (ho.map (·.1)) o o'→qG8 β' F w bi o':=by
  intro bi o o' hok hc;cases o' with
  | dead=>trivial
  | live z' es' wr' full'=>
   cases o with
   | dead=>exact hc.elim
   | live z es wr full=>
    obtain⟨rfl,rfl,hfull,hes,hids⟩:=hc;have hren : ∀ {c:Array Value} {sz:Nat},vG β F w (qHr ρ es') sz c→vG β' F w es' sz c:=by
     intro c sz hh;have h1:=hh.unren;intro i x hx;obtain⟨k1,k2⟩:=h1 i x hx;refine⟨k1,fun j y hy=>?_⟩;obtain⟨u,g1,g2,g3⟩:=k2 j y hy;refine⟨u,g1,g2.sub (fun r hr bi hb=>?_),g3⟩;have hrx:r∈x.ids:=by
      cases x with
      | agg cs=>simp only[V.ids];exact qAc (List.mem_of_getElem? hy) hr
      | t t=>
       obtain⟨c,_,rfl⟩:=qA6 hy;simp[V.ids] at hr
      | _=>
       simp only[V.cells] at hy;cases j with
       | zero=>simp at hy;subst hy;exact hr
       | succ j=>simp at hy
     rw[bo r (hids r (qAc (List.mem_of_getElem? hx) hrx))];exact hb
    unfold qG8 at hok ⊢;obtain⟨g1,g2,g3⟩:=hok;have hlen:es'.length=es.length ∧ ∀ {c:Array Value},vG β F w es bi.sz c→vG β' F w es' bi.sz c:=by
     rcases hes with rfl | ⟨l,hes⟩
     ·exact⟨by rw[zT];simp,fun hh=>hren hh⟩
     ·refine⟨?_,fun hh=>hren (zMr R hes hh).2⟩;have:(qHr ρ es').length=es.length:=by
       unfold qE5 at hes;split at hes
       ·obtain⟨e,_⟩:=qF hes;simp only[Prod.mk.injEq] at e;rw[e.1]
       ·exact (vP hes).1
      rw[zT,List.length_map] at this;exact this
    refine⟨g1,fun h=>by rw[hlen.1];exact g2 (hfull h),?_⟩;cases hb:bi.blk with
    | none=>
     simp only[hb] at g3 ⊢;refine⟨?_,g3.2⟩;have:=hlen.1;rw[g3.1] at this;exact List.eq_nil_of_length_eq_zero this
    | some b=>
     simp only[hb] at g3 ⊢;obtain⟨c,e,fz,k1,k2,k3,k4,k5,k6,k7⟩:=g3;exact⟨c,e,fz,k1,k2,k3,by rw[hlen.1];exact k4,k5,hlen.2 k6,k7⟩
 have cases_ : ∀ id o',yF (hv++ho) id=some o'→(∃ z full,o' = .live z [] true full∧β' id=some ⟨none,z,0⟩∧100≤id)∨(id∈ho.map (·.1) ∧ ∃ o,yF hs (ρ id)=some o∧CvO hs ρ (ho.map (·.1)) o o'∧(id<100→ρ id=id)∧(100≤id→100≤ρ id)):=by
  intro id o' h;rw[qQq] at h;split at h
  ·rename_i o hvl;cases h;obtain⟨⟨z,full,rfl⟩,h100⟩:=h3.get id o' hvl;exact .inl ⟨z,full,rfl,bv id _ hvl,h100⟩
  ·obtain⟨⟨o,g1,g2⟩,g3,g4⟩:=h2.get id o' h;exact .inr ⟨qB7 h,o,g1,g2,g3,g4⟩
 have notdead : ∀ {o o':Ob},CvO hs ρ (ho.map (·.1)) o o'→o'≠ .dead→o≠ .dead:=by
  intro o o' hc hd hd';subst hd';cases o' with
  | dead=>exact hd rfl
  | live _ _ _ _=>exact hc
 refine⟨β',F,R.tsz,R.dfr,fun t v' hv'=>?_,fun id o' ho'=>?_,fun id hn=>?_,fun i j bi bj b oi oj e1 e2 e3 e4 e5 e6 e7 e8=>?_,R.os,R.tape,R.output,R.size,R.ext,fun id z es full bi b e1 e2 e3=>?_,R.inF,R.inw,R.Fw,R.F0,fun id bi b e1 e2=>?_,fun g cs hg=>?_,fun k bi hk=>?_,R.gs⟩
 ·obtain⟨v,g1,g2⟩:=h1.get t v' hv';obtain⟨x,g3,g4⟩:=R.fr t v g1;exact⟨x,g3,val g4 g2⟩
 ·rcases cases_ id o' ho' with⟨z,full,rfl,hb,_⟩ | ⟨hm,o,g1,g2,_⟩
  ·exact⟨_,hb,rfl,fun _=>rfl,rfl,rfl⟩
  ·obtain⟨bi,g3,g4⟩:=R.hp _ o g1;exact⟨bi,by rw[bo id hm];exact g3,ob g4 g2⟩
 ·rw[qQq] at hn;split at hn
  ·cases hn
  ·rename_i hv0;simp[β',hv0,hn]
 ·rcases cases_ i oi e5 with⟨z,full,rfl,hb,_⟩ | ⟨hm,o,g1,g2,_⟩
  ·rw[hb] at e1;cases e1;cases e3
  ·rcases cases_ j oj e6 with⟨z,full,rfl,hb,_⟩ | ⟨hm',o',g1',g2',_⟩
   ·rw[hb] at e2;cases e2;cases e4
   ·rw[bo i hm] at e1;rw[bo j hm'] at e2;exact inj i j hm hm' (R.inj _ _ bi bj b o o' e1 e2 e3 e4 g1 g1' (notdead g2 e7) (notdead g2' e8))
 ·rcases cases_ id _ e1 with⟨z',full',_,hb,_⟩ | ⟨hm,o,g1,g2,g3,g4⟩
  ·rw[hb] at e2;cases e2;cases e3
  ·rw[bo id hm] at e2;cases o with
   | dead=>exact g2.elim
   | live z0 es0 wr0 full0=>
    obtain⟨_,rfl,_⟩:=g2;rcases R.old _ z0 es0 full0 bi b g1 e2 e3 with h | ⟨h,h'⟩
    ·exact .inl h
    ·refine .inr ⟨?_,h'⟩;rcases Nat.lt_or_ge id 100 with h7 | h7
     ·exact h7
     ·have:=g4 h7;omega
 ·cases hl:yF hv id with
  | some o=>rw[bv id o hl] at e1;cases e1;cases e2
  | none=>
   cases hl2:yF ho id with
   | none=>simp[β',hl,hl2] at e1
   | some o=>
    rw[bo id (qB7 hl2)] at e1;exact R.blt _ bi b e1 e2
 ·have:=R.gl g cs hg;cases this with
  | ro _ ad news ha hn h1' hF hw h=>exact .ro cs _ news ha hn h1' hF hw h
 ·have hβ:=R.ext0 k bi hk;cases hl:yF hs k with
  | none=>rw[R.dom k hl] at hβ;cases hβ
  | some o=>
   have hk100:=cx.d0 k bi hk;have hm:=hkeep k (qB7 hl) hk100;rw[bo k hm];obtain⟨o',ho'⟩:=qHi hm;rw[(h2.get k o' ho').2.1 hk100];exact hβ
end Go.Eng
end
section
namespace Go.Eng
variable {tab:Tab} {gl:Gl} {fs:Fs} {hs:Hs} {Qx:qHq}
def zVv {ι:Type}(I:ι→Fs×Hs)(μ:ι→Nat)(i:ι)(Qx:qHq):qHq:=fun e fs' hs'=>match e with | .normal => ∃ j,μ j<μ i∧qI fs' hs' (I j).1 (I j).2 | e=>Qx e fs' hs'
theorem qLu {a:AC}{ι:Type}(I:ι→Fs×Hs)(μ:ι→Nat)(i0:ι)(h0:qI fs hs (I i0).1 (I i0).2)(h : ∀ i,a.wp tab gl (I i).1 (I i).2 (zVv I μ i Qx)):qQs tab gl a fs hs Qx:=⟨ι,I,μ,i0,h0,h⟩
def upK (n:Nat)(fI:Nat→Fs)(hI:Nat→Hs)(i:Nat)(Qx:qHq):qHq:=fun e fs' hs'=>match e with | .normal=>i<n∧qI fs' hs' (fI (i+1)) (hI (i+1)) | e=>Qx e fs' hs'
theorem zNu {n:Nat}{fI:Nat→Fs}{hI:Nat→Hs}{i:Nat}:upK n fI hI i Qx .normal fs hs=(i<n∧qI fs hs (fI (i+1)) (hI (i+1))):=Eq.trans (Eq.refl _) rfl
theorem zX8 {n:Nat}{fI:Nat→Fs}{hI:Nat→Hs}{i id:Nat}:upK n fI hI i Qx (.exit id) fs hs=Qx (.exit id) fs hs:=Eq.trans (Eq.refl _) rfl
theorem jFn {n:Nat}{fI:Nat→Fs}{hI:Nat→Hs}{i:Nat}:upK n fI hI i Qx .ret fs hs=Qx .ret fs hs:=Eq.trans (Eq.refl _) rfl
theorem qZn {v:Option V}{A B A' B':Prop}(hA:A→A')(hB:B→B'):qKn v A B→qKn v A' B':=by
 unfold qKn;split
 ·exact fun h=>⟨fun e=>hA (h.1 e),fun e=>hB (h.2 e)⟩
 ·exact id
theorem zMb {v:Option V}{A B A' B':Prop}(hA:A→A')(hB:B→B'):qTv v A B→qTv v A' B':=by
 unfold qTv;split
 ·exact fun h=>⟨hA h.1,hB h.2⟩
 ·exact qZn hA hB
theorem jF {a:AC} : ∀ {fs:Fs} {hs:Hs} {Q Q':qHq},(∀ e f h,Q e f h→Q' e f h)→a.wp tab gl fs hs Q→a.wp tab gl fs hs Q':=by
 induction a with
 | skip=>intro fs hs Q Q' h hw;exact h _ _ _ hw
 | ret=>intro fs hs Q Q' h hw;exact h _ _ _ hw
 | exit id=>intro fs hs Q Q' h hw;exact h _ _ _ hw
 | seq a b iha ihb=>
  intro fs hs Q Q' h hw;refine iha (fun e f g hq=>?_) hw;cases e with
  | normal=>exact ihb h hq
  | exit id=>exact h _ _ _ hq
  | ret=>exact h _ _ _ hq
 | cond c a b iha ihb=>
  intro fs hs Q Q' h hw;exact qZn (iha h) (ihb h) hw
 | condb c a b iha ihb=>
  intro fs hs Q Q' h hw;exact zMb (iha h) (ihb h) hw
 | block id a ih=>
  intro fs hs Q Q' h hw;refine ih (fun e f g hq=>?_) hw;cases e with
  | normal=>exact h _ _ _ hq
  | exit id'=>
   simp only at hq ⊢;split
   ·rename_i h1;rw[if_pos h1] at hq;exact h _ _ _ hq
   ·rename_i h1;rw[if_neg h1] at hq;exact h _ _ _ hq
  | ret=>exact h _ _ _ hq
 | loop a ih=>
  intro fs hs Q Q' h hw;obtain⟨ι,I,μ,i0,h0,hr⟩:=hw;refine⟨ι,I,μ,i0,h0,fun i=>ih (fun e f g hq=>?_) (hr i)⟩;cases e with
  | normal=>exact hq
  | exit id=>exact h _ _ _ hq
  | ret=>exact h _ _ _ hq
 | reg nb anc ops=>
  intro fs hs Q Q' h hw;have key : ∀ (ops:List jC) (nb:Nat) (fs:Fs) (hs:Hs) (acc:List (List Nat×List Nat)) (K K':Fs→Hs→List (List Nat×List Nat)→Prop),(∀ f g c,K f g c→K' f g c)→zDk tab gl ops nb fs hs acc K→zDk tab gl ops nb fs hs acc K':=by
   intro ops
   induction ops with
   | nil=>intro nb fs hs acc K K' h hw;exact h _ _ _ hw
   | cons o r ih=>
    intro nb fs hs acc K K' h hw;obtain⟨x,l,h1,h2⟩:=hw;exact⟨x,l,h1,ih _ _ _ _ _ _ h h2⟩
  exact key ops nb fs hs [] _ _ (fun f g c hq=>⟨hq.1,h _ _ _ hq.2⟩) hw
theorem qD {a:AC}(n:Nat)(fI:Nat→Fs)(hI:Nat→Hs)(h0:qI fs hs (fI 0) (hI 0))(h : ∀ i,i≤n→a.wp tab gl (fI i) (hI i) (upK n fI hI i Qx)):qQs tab gl a fs hs Qx:=by
 refine qLu (ι := { i:Nat // i≤n }) (fun i=>(fI i.1,hI i.1)) (fun i=>n-i.1) ⟨0,Nat.zero_le _⟩ h0 (fun i=>?_);refine jF (fun e f g hq=>?_) (h i.1 i.2);cases e with
 | normal=>exact⟨⟨i.1+1,hq.1⟩,by simp only;have:=hq.1;omega,hq.2⟩
 | exit id=>exact hq
 | ret=>exact hq
theorem zYw {ts:List T}:qG5 (ts.map .t)=some ts:=by
 induction ts with
 | nil=>rfl
 | cons x r ih=>simp[qG5,ih]
theorem zT7:qG5 []=some []:=Eq.trans (Eq.refl _) rfl
theorem qVd {x:T}{r:List V}:qG5 (.t x::r)=(qG5 r).map (x :: ·):=Eq.trans (Eq.refl _) rfl
theorem zT8 {id i f:Nat}{r:List V}:qG5 (.ref id i f::r)=none:=Eq.trans (Eq.refl _) rfl
theorem jBc {g id i f:Nat}{r:List V}:qG5 (.bd g id i f::r)=none:=Eq.trans (Eq.refl _) rfl
theorem jBd {r:List V}:qG5 (.bq::r)=none:=Eq.trans (Eq.refl _) rfl
attribute [go_sem] jBd
attribute [go_sem] jBc
theorem jBg {id i f:Nat}{r:List V}:qG5 (.sl id i f::r)=none:=Eq.trans (Eq.refl _) rfl
theorem zOo {r:List V}:qG5 (.nil::r)=none:=Eq.trans (Eq.refl _) rfl
theorem zT5 {cs r:List V}:qG5 (.agg cs::r)=none:=Eq.trans (Eq.refl _) rfl
theorem jBf {cs:List T}{r:List V}:qG5 (.ro cs::r)=none:=Eq.trans (Eq.refl _) rfl
theorem jBe {f:FuncId}{cs r:List V}:qG5 (.fn f cs::r)=none:=Eq.trans (Eq.refl _) rfl
theorem zVy {α γ:Type}{f:α→γ}:Option.map f none=none:=Eq.trans (Eq.refl _) rfl
theorem jJh {cs:List V}:V.mk cs=match qG5 cs with | some ts=> .t (.agg ts) | none=> .agg cs:=Eq.trans (Eq.refl _) rfl
theorem zO9 {g:V→Q (V×List Nat)}:qE6 g [] = .ret ([],[]):=Eq.trans (Eq.refl _) rfl
theorem qL3 {g:V→Q (V×List Nat)}{c:V}{r:List V}:qE6 g (c::r)=(g c).bind fun p=>(qE6 g r).bind fun q=> .ret (p.1::q.1,p.2++q.2):=Eq.trans (Eq.refl _) rfl
theorem zPc {n:Nat}{x:T}:zS n (.t x) = .ret (.t x,[]):=by cases n<;>rfl
theorem zUw {n:Nat}:zS n .nil = .ret (.t (.sl []),[]):=by cases n<;>rfl
theorem jBw {n:Nat}{cs:List T}:zS n (.ro cs) = .ret (.ro cs,[]):=by cases n<;>rfl
theorem zUx {n id i f:Nat}:zS n (.ref id i f) = .ret (.ref id i f,[]):=by cases n<;>rfl
theorem jBu {n g id i f:Nat}:zS n (.bd g id i f) = .ret (.bd g id i f,[]):=by cases n<;>rfl
attribute [go_sem] jBu
theorem zUv {n:Nat}{cs:List V}:zS (n+1) (.agg cs)=(qE6 (zS n) cs).bind fun p=> .ret (V.mk p.1,p.2):=Eq.trans (Eq.refl _) rfl
theorem jBv {n:Nat}{f:FuncId}{cs:List V}:zS (n+1) (.fn f cs)=(qE6 (zS n) cs).bind fun p=> .ret (.fn f p.1,p.2):=Eq.trans (Eq.refl _) rfl
theorem jBx {n id off len:Nat}:zS (n+1) (.sl id off len) = .get id fun
  | .live _ es wr _=>Q.assert (off+len≤es.length)
   (match qG5 es with
   | some ts=> .ret (.t (.sl ((ts.drop off).take len)),if wr then [id] else [])
   | none=>(qE6 (zS n) es).bind fun p=>match qG5 p.1 with
    | some ts=> .ret (.t (.sl ((ts.drop off).take len)),if wr then id::p.2 else p.2)
    | none=> .fail)
  | .dead=> .fail:=Eq.trans (Eq.refl _) rfl
theorem zMq {n:Nat}{ids:List Nat}{obs:List Ob}{fz:List Nat}:qC7 n [] ids obs fz = .ret (ids,obs,fz):=by cases n<;>rfl
theorem zHu {n id:Nat}{todo ids:List Nat}{obs:List Ob}{fz:List Nat}:qC7 (n+1) (id::todo) ids obs fz=if ids.contains id then qC7 n todo ids obs fz else
  .get id fun
   | .live z es true full=>(qE5 es).bind fun p=>qC7 n (todo++(match qG5 es with | some _=>[] | none=>qCd p.1)) (ids++[id]) (obs++[.live z p.1 true full]) (fz++p.2)
   | _=> .fail:=Eq.trans (Eq.refl _) rfl
theorem zVb:zA1 [] = .ret []:=Eq.trans (Eq.refl _) rfl
theorem zQj {id:Nat}{r:List Nat}:zA1 (id::r) = .get id fun
  | .live z es true full=>Q.assert (100≤id) ((zA1 r).bind fun q=> .ret ((id,.live z es false full)::q))
  | _=> .fail:=Eq.trans (Eq.refl _) rfl
theorem zMo {α:Type}{nb:Nat}{k:Q α}:zHt nb 0 k=k:=Eq.trans (Eq.refl _) rfl
theorem zMn {α:Type}{nb n:Nat}{k:Q α}:zHt nb (n+1) k = .free nb (zHt (nb+1) n k):=Eq.trans (Eq.refl _) rfl
theorem jCh {ids:List Nat}{nb k:Nat}:gam ids nb k=match ids[k]? with | some id=>id | none=>nb+(k-ids.length):=Eq.trans (Eq.refl _) rfl
theorem zRg {ids:List Nat}{nb k:Nat}:qPl ids nb k []=[]:=Eq.trans (Eq.refl _) rfl
theorem zMw {ids:List Nat}{nb k:Nat}{o:Ob}{r:List Ob}:qPl ids nb k (o::r)=(gam ids nb k,o.ren (gam ids nb))::qPl ids nb (k+1) r:=Eq.trans (Eq.refl _) rfl
theorem zW0 {ρ:Nat→Nat}{z:Nat}{es:List V}{wr full:Bool}:(Ob.live z es wr full).ren ρ = .live z (qHr ρ es) wr full:=Eq.trans (Eq.refl _) rfl
theorem jKl {ρ:Nat→Nat}{x:T}:(V.t x).ren ρ = .t x:=Eq.trans (Eq.refl _) rfl
theorem zWx {ρ:Nat→Nat}:V.nil.ren ρ = .nil:=Eq.trans (Eq.refl _) rfl
theorem zWy {ρ:Nat→Nat}{id i f:Nat}:(V.ref id i f).ren ρ = .ref (ρ id) i f:=Eq.trans (Eq.refl _) rfl
theorem jEi {ρ:Nat→Nat}{g id i f:Nat}:(V.bd g id i f).ren ρ = .bd g (ρ id) i f:=Eq.trans (Eq.refl _) rfl
theorem jEj {ρ:Nat→Nat}:V.bq.ren ρ = .bq:=Eq.trans (Eq.refl _) rfl
attribute [go_sem] jEj
attribute [go_sem] jEi
theorem jEl {ρ:Nat→Nat}{cs:List T}:(V.ro cs).ren ρ = .ro cs:=Eq.trans (Eq.refl _) rfl
theorem jEm {ρ:Nat→Nat}{id i f:Nat}:(V.sl id i f).ren ρ = .sl (ρ id) i f:=Eq.trans (Eq.refl _) rfl
theorem zWw {ρ:Nat→Nat}{cs:List V}:(V.agg cs).ren ρ = .agg (qHr ρ cs):=Eq.trans (Eq.refl _) rfl
theorem zWz {ρ:Nat→Nat}{cs:List V}:(V.tup cs).ren ρ = .tup (qHr ρ cs):=Eq.trans (Eq.refl _) rfl
theorem jEk {ρ:Nat→Nat}{f:FuncId}{cs:List V}:(V.fn f cs).ren ρ = .fn f (qHr ρ cs):=Eq.trans (Eq.refl _) rfl
theorem zWv {ρ:Nat→Nat}:qHr ρ []=[]:=Eq.trans (Eq.refl _) rfl
theorem zRv {ρ:Nat→Nat}{c:V}{r:List V}:qHr ρ (c::r)=c.ren ρ::qHr ρ r:=Eq.trans (Eq.refl _) rfl
theorem zRr:qCd []=[]:=Eq.trans (Eq.refl _) rfl
theorem zM1 {c:V}{r:List V}:qCd (c::r)=c.refs++qCd r:=Eq.trans (Eq.refl _) rfl
theorem jKj {x:T}:(V.t x).refs=[]:=Eq.trans (Eq.refl _) rfl
theorem jEg {cs:List T}:(V.ro cs).refs=[]:=Eq.trans (Eq.refl _) rfl
theorem zWs:V.nil.refs=[]:=Eq.trans (Eq.refl _) rfl
theorem jEh {id i f:Nat}:(V.sl id i f).refs=[]:=Eq.trans (Eq.refl _) rfl
theorem zWt {id i f:Nat}:(V.ref id i f).refs=[id]:=Eq.trans (Eq.refl _) rfl
theorem jEd {g id i f:Nat}:(V.bd g id i f).refs=[id]:=Eq.trans (Eq.refl _) rfl
theorem jEe:V.bq.refs=[]:=Eq.trans (Eq.refl _) rfl
attribute [go_sem] jEe
attribute [go_sem] jEd
theorem zWr {cs:List V}:(V.agg cs).refs=qCd cs:=Eq.trans (Eq.refl _) rfl
theorem zWu {cs:List V}:(V.tup cs).refs=qCd cs:=Eq.trans (Eq.refl _) rfl
theorem jEf {f:FuncId}{cs:List V}:(V.fn f cs).refs=qCd cs:=Eq.trans (Eq.refl _) rfl
theorem zVg:qQo []=[]:=Eq.trans (Eq.refl _) rfl
theorem zQn {c:V}{r:List V}:qQo (c::r)=c.ids++qQo r:=Eq.trans (Eq.refl _) rfl
theorem jOh {x:T}:(V.t x).ids=[]:=Eq.trans (Eq.refl _) rfl
theorem jIj {cs:List T}:(V.ro cs).ids=[]:=Eq.trans (Eq.refl _) rfl
theorem jCo:V.nil.ids=[]:=Eq.trans (Eq.refl _) rfl
theorem jIk {id i f:Nat}:(V.sl id i f).ids=[id]:=Eq.trans (Eq.refl _) rfl
theorem jCp {id i f:Nat}:(V.ref id i f).ids=[id]:=Eq.trans (Eq.refl _) rfl
theorem jIg {g id i f:Nat}:(V.bd g id i f).ids=[id]:=Eq.trans (Eq.refl _) rfl
theorem jIh:V.bq.ids=[]:=Eq.trans (Eq.refl _) rfl
attribute [go_sem] jIh
attribute [go_sem] jIg
theorem jCn {cs:List V}:(V.agg cs).ids=qQo cs:=Eq.trans (Eq.refl _) rfl
theorem jCq {cs:List V}:(V.tup cs).ids=qQo cs:=Eq.trans (Eq.refl _) rfl
theorem jIi {f:FuncId}{cs:List V}:(V.fn f cs).ids=qQo cs:=Eq.trans (Eq.refl _) rfl
theorem zUu {ts:List T}:qE5 (ts.map .t) = .ret (ts.map .t,[]):=by simp[qE5,zYw]
theorem zW3 {x:V}:jAl [x]=x:=Eq.trans (Eq.refl _) rfl
theorem zW2:jAl [] = .tup []:=Eq.trans (Eq.refl _) rfl
theorem zW4 {x y:V}{r:List V}:jAl (x::y::r) = .tup (x::y::r):=Eq.trans (Eq.refl _) rfl
theorem zVu {f g:FuncId}{s:FnS}{r:Tab}:Tab.look ((g,s)::r) f=if g=f then some s else Tab.look r f:=Eq.trans (Eq.refl _) rfl
theorem jHy {x:T}:(V.t x).flat=x.flat:=Eq.trans (Eq.refl _) rfl
theorem zU3 {k:IntKind}{n:Int}:(T.int k n).flat=true:=Eq.trans (Eq.refl _) rfl
theorem zP6 {b:Bool}:(T.bool b).flat=true:=Eq.trans (Eq.refl _) rfl
theorem zU4 {s:ByteArray}:(T.str s).flat=true:=Eq.trans (Eq.refl _) rfl
theorem zP3:zHq []=true:=Eq.trans (Eq.refl _) rfl
theorem zMl {o:Ob}{r:List Ob}:zHq (o::r)=(o.flat&&zHq r):=Eq.trans (Eq.refl _) rfl
theorem zW6 {n:Nat}{vs:List V}:jNh n vs=(qE6 (zS 4) vs).bind fun p=>(qC7 (12+n) (List.range n++qCd p.1) [] [] []).bind fun q=>
  Q.assert ((q.1.all fun i => !(p.2++q.2.2).contains i)=true) ((zA1 (p.2++q.2.2)).bind fun _=> .ret (jAl (qHr (fun r=>q.1.idxOf r) p.1),q.2.1.map (Ob.ren fun r=>q.1.idxOf r))):=Eq.trans (Eq.refl _) rfl
theorem zO1 {f:FuncId}{keep:Bool}{vs:List V}{nb:Nat}:qXr tab f keep vs nb=(qVp keep vs).bind fun cp=>
  (Q.of ((tab.look f).bind fun s=>s (qHr (fun r=>cp.ids.idxOf r) cp.aS) (cp.obs.map (Ob.ren fun r=>cp.ids.idxOf r)))).bind fun p=>
   Q.assert (cp.ids.length≤p.2.length∧(keep=true∨p.1.flat=true∧zHq p.2=true))
    (zHt nb (p.2.length-cp.ids.length) (.ret (p.1.ren (gam cp.ids nb),(if keep then cp.fw else [])++qPl cp.ids nb 0 p.2))):=Eq.trans (Eq.refl _) rfl
theorem zHg {keep:Bool}{vs:List V}:qVp keep vs=(qE6 (zS 4) vs).bind fun p=>(qC7 12 (qCd p.1) [] [] []).bind fun q=>
  Q.assert ((keep=true∨q.2.2=[])∧(q.1.all fun i => !(p.2++q.2.2).contains i)=true) ((zA1 (p.2++q.2.2)).bind fun fw=> .ret ⟨p.1,q.1,q.2.1,p.2++q.2.2,fw⟩):=Eq.trans (Eq.refl _) rfl
attribute [go_sem] zNu zX8 jFn zYw zT7 qVd zT8 jBg zOo zT5 jBf jBe zVy jJh zO9 qL3 zPc zUw jBw zUx zUv jBv jBx zMq zHu
 zVb zQj zMo zMn jCh zRg zMw zW0 jKl zWx zWy jEl jEm zWw zWz jEk zWv zRv jAi zRr zM1 jKj jEg zWs jEh zWt zWr zWu jEf
 zUu zW3 zW2 zW4 zVu jHy zU3 zP6 zU4 zP3 zMl zW6 zO1 zHg zRs
attribute [go_sem] List.length_cons List.length_nil List.map_cons List.map_nil List.getElem?_cons_zero List.getElem?_cons_succ List.getElem?_nil List.take_succ_cons List.take_zero List.take_nil List.drop_succ_cons List.drop_zero List.drop_nil List.set_cons_zero List.set_cons_succ
 List.range_zero List.all_nil List.all_cons List.length_map Bool.and_true Bool.true_and List.length_replicate
theorem jNw {b:Bool}:(b==true)=b:=by cases b<;>rfl
theorem jNv {b:Bool}:(b==false) = !b:=by cases b<;>rfl
attribute [go_sem] zVg zQn jOh jIj jCo jIk jCp jCn jCq jIi zZq jNw jNv decide_true decide_false Bool.not_true Bool.not_false
end Go.Eng
end
