/- A part of an abstract machine, its walks, their tie. -/
import Derived.Test.YtekghmfbgbhobaaGreatDoorS10
set_option linter.all false
section
namespace Go.Eng
def zXi (es:List V):List Nat:=
 match qFg es with
 | some _=>[]
 | none=>qOt es
def qOq:Nat→List Nat→List Nat→List Ob→Q (List Nat×List Ob)
 | _,[],ids,obs=> .ret (ids,obs)
 | 0,_::_,_,_=> .fail
 | n+1,id::todo,ids,obs=>if ids.contains id then qOq n todo ids obs else
  .get id fun
   | .live z es true full=>(zPh es).bind fun es'=>qOq n (todo++zXi es') (ids++[id]) (obs++[.live z es' true full])
   | _=> .fail
def jA3 (n:Nat)(vs:List V):Q (V×List Ob):=
 (rdL (rdV 4) vs).bind fun us=>(qOq (40+n) (List.range n++qOt us) [] []).bind fun q=>
  Q.assert ((qOt us).all (fun i=>q.1.contains i)=true) (.ret (zVo (qF2 (fun r=>q.1.idxOf r) us),q.2.map (Ob.ren fun r=>q.1.idxOf r)))
def xU (fz:List Nat)(rs:List (Nat×Option (Nat×Bool)))(n:Nat)(R:V→List Ob→Prop):qF0:=fun e fs hs=>
 match e with
 | .exit _=>False
 | _=>(qXy fz).wp hs (fun fw _=>((rsQ fs rs).bind fun vs=>jA3 n vs).wp (qZ8 hs fw) (fun p _=>R p.1 p.2))
def jBc (hm:Nat→Option Ob)(id:Nat)(o:Ob):Prop:=
 ∃ z es es' full l,hm id=some (.live z es true full)∧o = .live z es' true full∧(zPh es).run hm=some (es',l)
theorem qS9 {hm:Nat→Option Ob} : ∀ {n:Nat} {todo ids:List Nat} {obs:List Ob} {ids':List Nat} {obs':List Ob} {l:List Nat},(qOq n todo ids obs).run hm=some ((ids',obs'),l)→
  ids.Nodup→ids.length=obs.length→(∀ (k id:Nat) (o:Ob),ids[k]?=some id→obs[k]?=some o→jBc hm id o)→(∀ o∈obs,∀ z es wr full,o = .live z es wr full → ∀ r∈zXi es,r∈ids∨r∈todo)→
   ids'.Nodup∧ids'.length=obs'.length∧(∀ (k id:Nat) (o:Ob),ids'[k]?=some id→obs'[k]?=some o→jBc hm id o)∧(∀ o∈obs',∀ z es wr full,o = .live z es wr full → ∀ r∈zXi es,r∈ids')∧
    (∀ r∈todo,r∈ids') ∧ ∃ s,ids'=ids++s
 | n,[],ids,obs,ids',obs',l,h,h1,h2,h3,h4=>by
  have h':(Q.ret (ids,obs):Q _).run hm=some ((ids',obs'),l):=by cases n<;>exact h
  obtain⟨e,_⟩:=qE h';cases e;refine⟨h1,h2,h3,fun o ho z es wr full e r hr=>?_,sM,[],sM⟩;rcases h4 o ho z es wr full e r hr with h | h
  ·exact h
  ·simp at h
 | 0,_::_,ids,obs,ids',obs',l,h,_,_,_,_=>by cases h
 | n+1,id::todo,ids,obs,ids',obs',l,h,h1,h2,h3,h4=>by
  simp only[qOq] at h;split at h
  ·rename_i hc;have hc':id∈ids:=by simpa using hc
   obtain⟨g1,g2,g3,g4,g5,s,g6⟩:=qS9 h h1 h2 h3 (fun o ho z es wr full e r hr=>by
    rcases h4 o ho z es wr full e r hr with h | h
    ·exact .inl h
    ·rcases List.mem_cons.1 h with rfl | h
     ·exact .inl hc'
     ·exact .inr h)
   refine⟨g1,g2,g3,g4,fun r hr=>?_,s,g6⟩;rcases List.mem_cons.1 hr with rfl | hr
   ·rw[g6];simp[hc']
   ·exact g5 r hr
  ·rename_i hc;have hc':id ∉ ids:=by simpa using hc
   obtain⟨o,l',ho,hs2,_⟩:=yZ h;cases o with
   | dead=>cases hs2
   | live z es wr full=>
    cases wr with
    | false=>cases hs2
    | true=>
     obtain⟨es',l1,l2,hp,hs3,_⟩:=zB hs2;obtain⟨g1,g2,g3,g4,g5,s,g6⟩:=qS9 hs3 (by
       rw[List.nodup_append];refine⟨h1,sM,?_⟩;intro x hx y hy e;simp at hy;subst e hy;exact hc' hx) (by simp[h2]) (fun k i o hk hok=>by
       rcases Nat.lt_or_ge k ids.length with hlt | hge
       ·rw[List.getElem?_append_left hlt] at hk;rw[List.getElem?_append_left oM] at hok;exact h3 k i o hk hok
       ·rw[List.getElem?_append_right hge] at hk;rw[List.getElem?_append_right oM] at hok;have e1:k-ids.length=0:=by
         have:=(List.getElem?_eq_some_iff.1 hk).1;simp at this;omega
        have e2:k-obs.length=0:=oM;rw[e1] at hk;rw[e2] at hok;simp at hk hok;subst hk hok;exact⟨z,es,es',full,l1,ho,rfl,hp⟩) (fun o ho' z' es2 wr' full' e r hr=>by
       rcases List.mem_append.1 ho' with ho' | ho'
       ·rcases h4 o ho' z' es2 wr' full' e r hr with h | h
        ·exact .inl (by simp[h])
        ·rcases List.mem_cons.1 h with rfl | h
         ·exact .inl sM
         ·exact .inr (by simp[h])
       ·simp at ho';rw[ho'] at e;cases e;exact .inr (by simp[hr]))
     refine⟨g1,g2,g3,g4,fun r hr=>?_,id::s,by rw[g6];simp⟩;rcases List.mem_cons.1 hr with rfl | hr
     ·rw[g6];simp
     ·exact g5 r (by simp[hr])
theorem qTa {hm:Nat→Option Ob} : ∀ {m n s:Nat} {rest:List Nat} {obs:List Ob} {ids':List Nat} {obs':List Ob} {l:List Nat},(qOq n (List.range' s m++rest) (List.range s) obs).run hm=some ((ids',obs'),l) → ∃ t,ids'=List.range (s+m)++t
 | 0,n,s,rest,obs,ids',obs',l,h=>by
  have key : ∀ {n:Nat} {todo ids:List Nat} {obs:List Ob} {ids':List Nat} {obs':List Ob} {l:List Nat},(qOq n todo ids obs).run hm=some ((ids',obs'),l) → ∃ s,ids'=ids++s:=by
   intro n
   induction n with
   | zero=>
    intro todo ids obs ids' obs' l h;cases todo with
    | nil=>obtain⟨e,_⟩:=qE (x:=(ids,obs)) h;cases e;exact⟨[],sM⟩
    | cons _ _=>cases h
   | succ n ih=>
    intro todo ids obs ids' obs' l h;cases todo with
    | nil=>obtain⟨e,_⟩:=qE (x:=(ids,obs)) h;cases e;exact⟨[],sM⟩
    | cons id todo=>
     simp only[qOq] at h;split at h
     ·exact ih h
     ·obtain⟨o,l',ho,hs2,_⟩:=yZ h;cases o with
      | dead=>cases hs2
      | live z es wr full=>
       cases wr with
       | false=>cases hs2
       | true=>
        obtain⟨es',l1,l2,hp,hs3,_⟩:=zB hs2;obtain⟨s,hs⟩:=ih hs3;exact⟨id::s,by rw[hs];simp⟩
  obtain⟨t,ht⟩:=key h;exact⟨t,ht⟩
 | m+1,n,s,rest,obs,ids',obs',l,h=>by
  cases n with
  | zero=>rw[List.range'_succ] at h;cases h
  | succ n=>
   rw[List.range'_succ,List.cons_append] at h;simp only[qOq] at h;split at h
   ·rename_i hc;simp at hc
   ·obtain⟨o,l',ho,hs2,_⟩:=yZ h;cases o with
    | dead=>cases hs2
    | live z es wr full=>
     cases wr with
     | false=>cases hs2
     | true=>
      obtain⟨es',l1,l2,hp,hs3,_⟩:=zB hs2;rw[←List.range_succ,List.append_assoc] at hs3;obtain⟨t,ht⟩:=qTa hs3;exact⟨t,by rw[ht];congr 2;omega⟩
variable {cx:Cx} {β:Nat→Option BI} {F:Nat→Prop} {a:Act} {w:World} {fm:Nat→Option V} {hm:Nat→Option Ob}
theorem zAy {ids:List Nat}{v:V}{x:Value}(h:qV β F w v x):(∀ r∈v.ids,r∈ids)→qV (qKz ids β) F w (v.ren (fun r=>ids.idxOf r)) x:=by
 induction h with
 | t h=>intro _;exact .t h
 | nil=>intro _;exact .nil
 | ref id i f b sz room hb=>intro hr;exact .ref _ i f b sz room (by rw[qKj (hr id (by simp[V.ids]))];exact hb)
 | bd g id i f b sz room hb=>intro hr;exact .bd g _ i f b sz room (by rw[qKj (hr id (by simp[V.ids]))];exact hb)
 | bq b=>intro _;exact .bq b
 | ro cs a news ha hn h1 hF hw h=>intro _;exact .ro cs a news ha hn h1 hF hw h
 | sl id off len cap b sz room a hb hlc hr ha hs=>intro hi;exact .sl _ off len cap b sz room a (by rw[qKj (hi id (by simp[V.ids]))];exact hb) hlc hr ha hs
 | slv id sz room hb=>intro hi;exact .slv _ sz room (by rw[qKj (hi id (by simp[V.ids]))];exact hb)
 | agg cs vs hl h1 _ ih=>
  intro hr;simp only[V.ren,zN];refine .agg _ vs (by simpa using hl) h1 (fun i c u hc hu=>?_);rw[List.getElem?_map,Option.map_eq_some_iff] at hc;obtain⟨c',hc',rfl⟩:=hc;exact ih i c' u hc' hu (fun r h=>hr r (by simp only[V.ids];exact kN (List.mem_of_getElem? hc') h))
 | tup cs vs hl _ ih=>
  intro hr;simp only[V.ren,zN];refine .tup _ vs (by simpa using hl) (fun i c u hc hu=>?_);rw[List.getElem?_map,Option.map_eq_some_iff] at hc;obtain⟨c',hc',rfl⟩:=hc;exact ih i c' u hc' hu (fun r h=>hr r (by simp only[V.ids];exact kN (List.mem_of_getElem? hc') h))
 | fn f cs vs hl _ ih=>
  intro hr;simp only[V.ren,zN];refine .fn f _ vs (by simpa using hl) (fun i c u hc hu=>?_);rw[List.getElem?_map,Option.map_eq_some_iff] at hc;obtain⟨c',hc',rfl⟩:=hc;exact ih i c' u hc' hu (fun r h=>hr r (by simp only[V.ids];exact kN (List.mem_of_getElem? hc') h))
theorem zQv {es:List V} : ∀ r∈qOt es,r∈zXi es:=by
 intro r hr;unfold zXi;split
 ·rename_i ts h;rw[qDj h,zUw] at hr;simp at hr
 ·exact hr
theorem zL3 {ids:List Nat}{es:List V}{sz:Nat}{c:Array Value}(h:yS β F w es sz c)(hi : ∀ r∈qOt es,r∈ids):yS (qKz ids β) F w (qF2 (fun r=>ids.idxOf r) es) sz c:=by
 intro i x hx;rw[zN,List.getElem?_map,Option.map_eq_some_iff] at hx;obtain⟨x0,hx0,rfl⟩:=hx;obtain⟨h1,h2⟩:=h i x0 hx0;rw[qIw,zN];refine⟨by simpa using h1,fun j y hy=>?_⟩;rw[List.getElem?_map,Option.map_eq_some_iff] at hy;obtain⟨y0,hy0,rfl⟩:=hy;obtain⟨u,g1,g2,g3⟩:=h2 j y0 hy0;exact⟨u,g1,zAy g2 (fun r hr=>hi r (kN (List.mem_of_getElem? hx0) (qTd hy0 r hr))),g3⟩
theorem zBx {P:Program}{G:Gl}{tab:Tab}{f:FuncId}{fn:Func}{c:Code}{ac:AC}{hints:List (Nat×List Nat)}{rs:List (Nat×Option (Nat×Bool))}(fz:List Nat)(hf:P.funcs[f]?=some fn)(hb:fn.body=some c)(hann:ann P fn.ntmps hints c=some ac)(hmx:P.follows .mixedOrders=true)
  (ht:qFk P G tab) (hrs:qO0 P fn.results.toList=some rs) {aS:List V} {ins:List Ob} {r:V} {outs:List Ob} (hn:aS.length≤fn.ntmps) (hi:ins.length≤100)
  (h:ac.wp tab G (qD 0 aS) (qD 0 ins) (xU fz rs ins.length (fun r' outs'=>r'=r∧outs'=outs))):qXf P G f aS ins r outs:=by
 intro w β F vals env fits hargs;have hd0 : ∀ k bi,β k=some bi→k<100:=by
  intro k bi h;rcases Nat.lt_or_ge k ins.length with h1 | h1
  ·omega
  ·rw[fits.dom k h1] at h;cases h
 let cx:Cx := { P,w0:=w,F0:=F,inb:=fun b => ∃ k bi,β k=some bi∧bi.blk=some b,nt:=fn.ntmps,gl:=G,β0:=β,d0:=hd0 }
 have hlen:aS.length=vals.size:=by simpa using hargs.length
 have lookAs : ∀ t v,jU (qD 0 aS) t=some v→aS[t]?=some v:=by
  intro t v h;simpa [qDy] using h
 have lookIns : ∀ t v,jU (qD 0 ins) t=some v→ins[t]?=some v:=by
  intro t v h;simpa [qDy] using h
 have R0:Rel cx β F (jU (qD 0 aS)) (jU (qD 0 ins)) { tmps:=vals++Array.replicate (fn.ntmps-vals.size) undef,defers:=[] } w:=by
  refine⟨by simp[cx];omega,rfl,fun t v hv=>?_,fun id o ho=>?_,fun id hn=>?_,fun i j bi bj b oi oj h1 h2 h3 h4 _ _ _ _=>fits.inj i j bi bj b h1 h2 h3 h4,rfl,rfl,rfl,Nat.le_refl _,fun _ _ _=>rfl,fun id z es full bi b h1 h2 h3=> .inr ⟨?_,id,bi,h2,h3⟩,fun b hb=>?_,fun b hb=>?_,env.Fw,fun _ _=>Iff.rfl,fun id bi b h1 h2=>(fits.blt id bi b h1 h2).1,fun g cs hg=>?_,fun _ _ h=>h,env.gs⟩
  ·obtain⟨x,h1,h2⟩:=hargs.get' t v (lookAs t v hv);refine⟨x,?_,h2⟩;have hlt:t<vals.size:=by
    have:=(List.getElem?_eq_some_iff.1 (lookAs t v hv)).1;omega
   rw[Array.getElem?_append_left hlt];simpa using h1
  ·obtain⟨bi,h1,h2,_⟩:=fits.ok id o (lookIns id o ho);exact⟨bi,h1,h2⟩
  ·refine fits.dom id ?_;rcases Nat.lt_or_ge id ins.length with h1 | h1
   ·rw[qDy] at hn;simp[h1] at hn
   ·exact h1
  ·have:=(List.getElem?_eq_some_iff.1 (lookIns id _ h1)).1;omega
  ·obtain⟨k,bi,h1,h2⟩:=hb;exact (fits.blt k bi b h1 h2).2
  ·obtain⟨k,bi,h1,h2⟩:=hb;exact (fits.blt k bi b h1 h2).1
  ·exact (env.gl g cs hg).mono (fun _ _ h=>by cases h) (fun _ h=>h) (fun _ _=>rfl)
 refine calls_of_wp hf hb (AC.sound (cx:=cx) ht hmx hann h R0 (fun e fs hs βR FR0 a w' hq R0'=>?_));have fin:((qXy fz).wp hs (fun fw _=>((rsQ fs rs).bind fun vs=>jA3 ins.length vs).wp (qZ8 hs fw) (fun p _=>p.1=r∧p.2=outs)))→a.defers=[] ∧ ∃ v,(results fn a.tmps).run P w' = .ok v w' ∧ ∃ x β' F',Ending.returned v = .returned x∧qRz w β F ins r outs x β' F' w':=by
  rintro⟨fw,lf,hfz,hq⟩;obtain⟨FR,R,_⟩:=Rel.freezeAll hfz R0' (fun id _=> .inl rfl);rw[←qOw] at R;rw[Q.wp_bind] at hq;obtain⟨vs,l0,hvs,⟨r',outs'⟩,l,hrun,e1,e2⟩:=hq;obtain⟨xs,hxs,hall⟩:=qSc (cx:=cx) R hrs hvs;refine⟨R.dfr,_,qTy hxs,?_⟩;simp only at e1 e2;subst e1 e2;unfold jA3 at hrun;obtain⟨us,l1,l2,hp,hrun,_⟩:=zB hrun;obtain⟨q,l3,l4,hqq,hrun,_⟩:=zB hrun;obtain⟨hsub,hrun⟩:=qM hrun;obtain⟨e,_⟩:=qE hrun;simp only[Prod.mk.injEq] at e;obtain⟨rfl,rfl⟩:=e;obtain⟨ids,obs⟩:=q;simp only at hsub ⊢;obtain⟨t,htt⟩:=qTa (s:=0) (m:=ins.length) (n:=40+ins.length) (rest:=qOt us) (by simpa [List.range_eq_range'] using hqq);obtain⟨hnd,hlo,hG,hin,_,_⟩:=qS9 hqq sM rfl (by intro k id o h;simp at h) sM;have hidk : ∀ k,k<ins.length→ids[k]?=some k:=by
   intro k hk;rw[htt,List.getElem?_append_left (by simpa using hk)];simp[hk]
  have hlive : ∀ (k id:Nat),ids[k]?=some id → ∃ z es full,jU (qZ8 hs fw) id=some (.live z es true full):=by
   intro k id hk;have hkl:k<obs.length:=by rw[←hlo];exact (List.getElem?_eq_some_iff.1 hk).1
   obtain⟨z,es,es',full,_,g1,_⟩:=hG k id obs[k] hk (by simp[hkl]);exact⟨z,es,full,g1⟩
  have hβk : ∀ k bi,β k=some bi→βR k=some bi:=R.ext0;have hklt : ∀ k bi,β k=some bi→k<ins.length:=by
   intro k bi h;rcases Nat.lt_or_ge k ins.length with h1 | h1
   ·exact h1
   ·rw[fits.dom k h1] at h;cases h
  have hus:qAh (qV βR FR w') us xs:=by
   obtain⟨g1,g2⟩:=qN1 hp;refine zDs (by rw[g1];exact hall.length.symm) (fun i c u hc hu=>?_);have hi:i<vs.length:=by rw[←g1];exact (List.getElem?_eq_some_iff.1 hc).1
   obtain⟨li,m1⟩:=g2 i vs[i] c (by simp[hi]) hc;obtain⟨y,h1,h2⟩:=hall.get' i vs[i] (by simp[hi]);rw[hu] at h1;cases h1;exact qHo R m1 h2
  have hren:qAh (qV (qKz ids βR) FR w') (qF2 (fun r=>ids.idxOf r) us) xs:=by
   refine zDs (by rw[zN];simpa using hus.length.symm) (fun i c u hc hu=>?_);rw[zN,List.getElem?_map,Option.map_eq_some_iff] at hc;obtain⟨c0,hc0,rfl⟩:=hc;obtain⟨y,h1,h2⟩:=hus.get' i c0 hc0;rw[hu] at h1;cases h1;refine zAy h2 (fun r hr=>?_);have:=List.all_eq_true.1 hsub r (kN (List.mem_of_getElem? hc0) hr);simpa using this
  have hfits:zT3 (qKz ids βR) FR w' (obs.map (Ob.ren fun r=>ids.idxOf r)):=by
   refine⟨fun k o ho=>?_,fun k hk=>?_,fun i j bi bj b h1 h2 h3 h4=>?_,fun k bi b h1 h2=>?_⟩
   ·rw[List.getElem?_map,Option.map_eq_some_iff] at ho;obtain⟨o',ho',rfl⟩:=ho;have hkl:k<ids.length:=by rw[hlo];exact (List.getElem?_eq_some_iff.1 ho').1
    obtain⟨z,es,es',full,lr,g1,g2,g3⟩:=hG k ids[k] o' (by simp[hkl]) ho';obtain⟨bi,hb,hok⟩:=R.hp _ _ g1;refine⟨bi,by simp[qKz,hkl,hb],?_,?_⟩
    ·rw[g2];have l1:=qTq g3;have l2:(qF2 (fun r=>ids.idxOf r) es').length=es'.length:=by rw[zN];simp
     have hii : ∀ r∈qOt es',r∈ids:=fun r hr=>hin o' (List.mem_of_getElem? ho') z es' true full g2 r (zQv r hr)
     unfold qFj at hok ⊢;obtain⟨k1,k2,k3⟩:=hok;refine⟨k1,fun h=>by rw[l2,l1];exact k2 h,?_⟩;cases hb:bi.blk with
     | none=>
      simp only[hb] at k3 ⊢;refine⟨?_,k3.2⟩;rw[k3.1] at l1;exact List.eq_nil_of_length_eq_zero (by rw[l2,l1];rfl)
     | some b=>
      simp only[hb] at k3 ⊢;obtain⟨c,e,fz,m1,m2,m3,m4,m5,m6,m7⟩:=k3;exact⟨c,e,fz,m1,m2,m3,by rw[l2,l1];exact m4,m5,zL3 (qW3 R g3 m6).2 hii,m7⟩
    ·rw[g2];exact⟨z,_,full,rfl⟩
   ·rw[List.length_map,←hlo] at hk;simp[qKz,List.getElem?_eq_none hk]
   ·unfold qKz at h1 h2;rw[Option.bind_eq_some_iff] at h1 h2;obtain⟨x,hx,h1⟩:=h1;obtain⟨y,hy,h2⟩:=h2;obtain⟨z1,e1,f1,m1⟩:=hlive i x hx;obtain⟨z2,e2,f2,m2⟩:=hlive j y hy;have:=R.inj x y bi bj b _ _ h1 h2 h3 h4 m1 m2 sM sM;subst this;have hi:i<ids.length:=(List.getElem?_eq_some_iff.1 hx).1;have hj:j<ids.length:=(List.getElem?_eq_some_iff.1 hy).1;exact qD0 hnd hi hj (by rw[List.getElem?_eq_getElem hi] at hx;rw[List.getElem?_eq_getElem hj] at hy;rw[Option.some.inj hx,Option.some.inj hy])
   ·unfold qKz at h1;rw[Option.bind_eq_some_iff] at h1;obtain⟨x,hx,h1⟩:=h1;obtain⟨z1,e1,f1,m1⟩:=hlive k x hx;exact⟨R.blt x bi b h1 h2,R.notF m1 h1 h2⟩
  refine⟨_,qKz ids βR,FR,rfl,hfits,zBl hren,fun k hk=>?_,fun k bi b hk h1 h2=>?_,fun b hb=>R.F0 b hb,R.Fw,R.os,R.tape,R.output,R.size,fun b hb hk=>R.ext b hb (fun ⟨k,bi,h1,h2⟩=>hk k bi h1 h2)⟩
  ·obtain⟨bi,h1,_⟩:=fits.ok k ins[k] (by simp[hk]);simp[qKz,hidk k hk,hβk k bi h1,h1]
  ·unfold qKz at h1;rw[Option.bind_eq_some_iff] at h1;obtain⟨id,hid,h1⟩:=h1;obtain⟨z,es,full,hl⟩:=hlive k id hid;rcases R.old id z es full bi b hl h1 h2 with h | ⟨_,k0,bi0,g1,g2⟩
   ·exact h
   ·exfalso;have hk0:=hklt k0 bi0 g1;obtain⟨z0,es0,full0,hl0⟩:=hlive k0 k0 (hidk k0 hk0);have e:=R.inj id k0 bi bi0 b _ _ h1 (hβk k0 bi0 g1) h2 g2 hl hl0 sM sM;subst e;have hi1:k<ids.length:=(List.getElem?_eq_some_iff.1 hid).1;have hi2:id<ids.length:=(List.getElem?_eq_some_iff.1 (hidk id hk0)).1;have:=qD0 hnd hi1 hi2 (by
     have a1:=hid;have a2:=hidk id hk0;rw[List.getElem?_eq_getElem hi1] at a1;rw[List.getElem?_eq_getElem hi2] at a2;rw[Option.some.inj a1,Option.some.inj a2])
    omega
 cases e with
 | normal=>exact fin hq
 | ret=>exact fin hq
 | exit id=>exact hq.elim
def zA3 (tab:Tab)(gl:Gl)(a:AC):Nat→Fs→Hs→qF0→Prop
 | 0,_,_,_=>False
 | n+1,fs,hs,Qx=>a.wp tab gl fs hs (fun e fs' hs'=>match e with | .normal=>zA3 tab gl a n fs' hs' Qx | e=>Qx e fs' hs')
theorem qT {tab:Tab}{gl:Gl}{a:AC}(n:Nat){fs:Fs}{hs:Hs}{Qx:qF0}(h:zA3 tab gl a n fs hs Qx):qP7 tab gl a fs hs Qx:=by
 refine qJ2 (ι := { p:Nat×Fs×Hs // zA3 tab gl a p.1 p.2.1 p.2.2 Qx }) (fun i=>i.1.2) (fun i=>i.1.1) ⟨(n,fs,hs),h⟩ qI.refl (fun i=>?_);obtain⟨⟨m,f,g⟩,hi⟩:=i;cases m with
 | zero=>exact hi.elim
 | succ m=>
  refine zX (fun e f' g' hq=>?_) hi;cases e with
  | normal=>exact⟨⟨(m,f',g'),hq⟩,Nat.lt_succ_self m,qI.refl⟩
  | exit id=>exact hq
  | ret=>exact hq
end Go.Eng
end
section
namespace Go.Eng
variable {tab:Tab} {gl:Gl} {fs:Fs} {hs:Hs} {Qx:qF0}
theorem zYy {g:V→Q V}:rdL g [] = .ret []:=Eq.trans (Eq.refl _) rfl
theorem qYb {g:V→Q V}{c:V}{r:List V}:rdL g (c::r)=(g c).bind fun x=>(rdL g r).bind fun y=> .ret (x::y):=Eq.trans (Eq.refl _) rfl
theorem zY3 {n:Nat}{x:T}:rdV n (.t x) = .ret (.t x):=by cases n<;>rfl
theorem zY1 {n:Nat}:rdV n .nil = .ret .nil:=by cases n<;>rfl
theorem jE1 {n:Nat}{cs:List T}:rdV n (.ro cs) = .ret (.ro cs):=by cases n<;>rfl
theorem zY2 {n id i f:Nat}:rdV n (.ref id i f) = .ret (.ref id i f):=by cases n<;>rfl
theorem jEy {n g id i f:Nat}:rdV n (.bd g id i f) = .ret (.bd g id i f):=by cases n<;>rfl
theorem jEz {n:Nat}:rdV n .bq = .ret .bq:=by cases n<;>rfl
attribute [go_sem] jEz
attribute [go_sem] jEy
theorem zY4 {n:Nat}{cs:List V}:rdV n (.tup cs) = .ret (.tup cs):=by cases n<;>rfl
theorem zY0 {n:Nat}{cs:List V}:rdV (n+1) (.agg cs)=(rdL (rdV n) cs).bind fun p=> .ret (V.mk p):=Eq.trans (Eq.refl _) rfl
theorem jE0 {n:Nat}{f:FuncId}{cs:List V}:rdV (n+1) (.fn f cs)=(rdL (rdV n) cs).bind fun p=> .ret (.fn f p):=Eq.trans (Eq.refl _) rfl
theorem jE2 {n id off len:Nat}:rdV (n+1) (.sl id off len) = .get id fun
  | .live _ _ false _=>(zM (n+1) (.sl id off len)).bind fun p=>Q.assert (p.2=[]) (.ret p.1)
  | _=> .ret (.sl id off len):=Eq.trans (Eq.refl _) rfl
theorem zRy {es:List V}:zPh es=match qFg es with | some _=> .ret es | none=>rdL (rdV 4) es:=Eq.trans (Eq.refl _) rfl
theorem zIr {α:Type}{q:Q α}:(q.bind fun x=>Q.ret x)=q:=by
 induction q with
 | ret a=>rfl
 | fail=>rfl
 | get id k ih=>simp only[Q.bind,ih]
 | free id k ih=>simp only[Q.bind,ih]
theorem jEx {n:Nat}{ts:List T}:rdL (rdV n) (ts.map .t) = .ret (ts.map .t):=by
 induction ts with
 | nil=>rfl
 | cons x r ih=>simp[rdL,zY3,ih,Q.bind]
theorem zYx {g:V→Q V}{a b:List V}:rdL g (a++b)=(rdL g a).bind fun x=>(rdL g b).bind fun y=> .ret (x++y):=by
 induction a with
 | nil=>simp[rdL,Q.bind,zIr]
 | cons c r ih=>simp only[List.cons_append,rdL,ih,qEf,Q.bind]
section
variable {ρ:Nat→Nat} {vt ko:List Nat}
theorem jGy:vEq ρ vt ko .nil .nil=True:=by simp[vEq]
theorem jG0 {x:T}:vEq ρ vt ko .nil (.t x)=(x = .sl []):=by simp[vEq]
theorem jGz {id off len:Nat}:vEq ρ vt ko .nil (.sl id off len)=((vt.contains id=true∧off=0)∧len=0):=by simp only[vEq]
theorem jGu {cs cs':List V}:vEq ρ vt ko (.agg cs) (.agg cs')=qYr ρ vt ko cs cs':=by simp only[vEq]
theorem jGv {cs:List V}{ts:List T}:vEq ρ vt ko (.agg cs) (.t (.agg ts))=qYr ρ vt ko cs (ts.map .t):=by simp only[vEq]
theorem jGx {f f':FuncId}{cs cs':List V}:vEq ρ vt ko (.fn f cs) (.fn f' cs')=(f=f'∧qYr ρ vt ko cs cs'):=by simp only[vEq]
theorem jG5 {x y:T}:vEq ρ vt ko (.t x) (.t y)=(x=y):=by
 have:vEq ρ vt ko (.t x) (.t y)=(V.t x=(V.t y).ren ρ∧((V.t y).ids.all fun i=>ko.contains i)=true):=by cases y<;>simp only[vEq]
 rw[this];simp[V.ren,V.ids]
theorem jG3 {i j k i' j' k':Nat}:vEq ρ vt ko (.ref i j k) (.ref i' j' k')=((i=ρ i'∧j=j'∧k=k')∧ko.contains i'=true):=by
 simp[vEq,V.ren,V.ids]
theorem jG2:vEq ρ vt ko .bq .bq=True:=by
 simp[vEq,V.ren,V.ids]
attribute [go_sem] jG2
theorem jGw {g i j k g' i' j' k':Nat}:vEq ρ vt ko (.bd g i j k) (.bd g' i' j' k')=((g=g'∧i=ρ i'∧j=j'∧k=k')∧ko.contains i'=true):=by
 simp[vEq,V.ren,V.ids]
attribute [go_sem] jGw
theorem jG4 {i j k i' j' k':Nat}:vEq ρ vt ko (.sl i j k) (.sl i' j' k')=((i=ρ i'∧j=j'∧k=k')∧ko.contains i'=true):=by
 simp[vEq,V.ren,V.ids]
theorem jG1 {cs cs':List T}:vEq ρ vt ko (.ro cs) (.ro cs')=(cs=cs'):=by
 simp[vEq,V.ren,V.ids]
theorem zTp:qYr ρ vt ko [] []=True:=by simp only[qYr]
theorem zOy {c c':V}{r r':List V}:qYr ρ vt ko (c::r) (c'::r')=(vEq ρ vt ko c c'∧qYr ρ vt ko r r'):=by simp only[qYr]
theorem zQh {u es':List V}:zW5 ρ vt ko u es'=match qFg u with
 | some _=>u=qF2 ρ es'∧((qOt es').all fun i=>ko.contains i)=true
 | none=>qYr ρ vt ko u es':=Eq.trans (Eq.refl _) rfl
theorem zJg {v v':V}:zJe hs ρ vt ko (some v) v'=(rdV 4 v).wp hs (fun u _=>vEq ρ vt ko u v'):=Eq.trans (Eq.refl _) rfl
theorem zJf {v':V}:zJe hs ρ vt ko none v'=False:=Eq.trans (Eq.refl _) rfl
theorem zHx:qKv fs hs ρ vt ko []=True:=Eq.trans (Eq.refl _) rfl
theorem zDq {t:Nat}{v':V}{r:Fs}:qKv fs hs ρ vt ko ((t,v')::r)=(zJe hs ρ vt ko (jU fs t) v'∧qKv fs hs ρ vt ko r):=Eq.trans (Eq.refl _) rfl
theorem zPj:zPd hs ρ vt ko []=True:=Eq.trans (Eq.refl _) rfl
theorem zKa {i:Nat}{o':Ob}{r:Hs}:zPd hs ρ vt ko ((i,o')::r)=(obC hs ρ vt ko (jU hs (ρ i)) o'∧zPd hs ρ vt ko r):=Eq.trans (Eq.refl _) rfl
theorem zRj {z z':Nat}{es es':List V}{wr wr' full full':Bool}:obC hs ρ vt ko (some (.live z es wr full)) (.live z' es' wr' full') =
  (z=z'∧wr=wr'∧(full'=true→full=true)∧(zPh es).wp hs (fun u _=>zW5 ρ vt ko u es')):=Eq.trans (Eq.refl _) rfl
theorem zRi {o:Ob}:obC hs ρ vt ko (some o) .dead=True:=by cases o<;>rfl
end
theorem zQu {es:List V}:zXi es=match qFg es with | some _=>[] | none=>qOt es:=Eq.trans (Eq.refl _) rfl
theorem zL0 {n:Nat}{ids:List Nat}{obs:List Ob}:qOq n [] ids obs = .ret (ids,obs):=by cases n<;>rfl
theorem zIi {n id:Nat}{todo ids:List Nat}{obs:List Ob}:qOq (n+1) (id::todo) ids obs=if ids.contains id then qOq n todo ids obs else
  .get id fun
   | .live z es true full=>(zPh es).bind fun es'=>qOq n (todo++zXi es') (ids++[id]) (obs++[.live z es' true full])
   | _=> .fail:=Eq.trans (Eq.refl _) rfl
theorem zSh {n:Nat}{vs:List V}:jA3 n vs=(rdL (rdV 4) vs).bind fun us=>(qOq (40+n) (List.range n++qOt us) [] []).bind fun q=>
  Q.assert ((qOt us).all (fun i=>q.1.contains i)=true) (.ret (zVo (qF2 (fun r=>q.1.idxOf r) us),q.2.map (Ob.ren fun r=>q.1.idxOf r))):=Eq.trans (Eq.refl _) rfl
theorem zEq {fz:List Nat}{rs:List (Nat×Option (Nat×Bool))}{n:Nat}{R:V→List Ob→Prop}:xU fz rs n R .normal fs hs=(qXy fz).wp hs (fun fw _=>((rsQ fs rs).bind fun vs=>jA3 n vs).wp (qZ8 hs fw) (fun p _=>R p.1 p.2)):=Eq.trans (Eq.refl _) rfl
theorem zSd {fz:List Nat}{rs:List (Nat×Option (Nat×Bool))}{n:Nat}{R:V→List Ob→Prop}:xU fz rs n R .ret fs hs=(qXy fz).wp hs (fun fw _=>((rsQ fs rs).bind fun vs=>jA3 n vs).wp (qZ8 hs fw) (fun p _=>R p.1 p.2)):=Eq.trans (Eq.refl _) rfl
def unK (tab:Tab)(gl:Gl)(a:AC)(n:Nat)(Qx:qF0):qF0:=fun e fs' hs'=>match e with | .normal=>zA3 tab gl a n fs' hs' Qx | e=>Qx e fs' hs'
theorem qJ {a:AC}{n:Nat}:zA3 tab gl a (n+1) fs hs Qx=a.wp tab gl fs hs (unK tab gl a n Qx):=Eq.trans (Eq.refl _) rfl
theorem zJk {a:AC}{n:Nat}:unK tab gl a n Qx .normal fs hs=zA3 tab gl a n fs hs Qx:=Eq.trans (Eq.refl _) rfl
theorem zTj {a:AC}{n id:Nat}:unK tab gl a n Qx (.exit id) fs hs=Qx (.exit id) fs hs:=Eq.trans (Eq.refl _) rfl
theorem jAf {a:AC}{n:Nat}:unK tab gl a n Qx .ret fs hs=Qx .ret fs hs:=Eq.trans (Eq.refl _) rfl
@[congr] theorem zXz {a:AC} {n:Nat} {fs':Fs} {hs':Hs} (h1:fs=fs') (h2:hs=hs'):zA3 tab gl a n fs hs Qx=zA3 tab gl a n fs' hs' Qx:=by rw[h1,h2]
theorem zA2 {ι:Type}{I:ι→Fs×Hs}{μ:ι→Nat}{i:ι}:zRa I μ i Qx .normal fs hs = ∃ j,μ j<μ i∧qI fs hs (I j).1 (I j).2:=Eq.trans (Eq.refl _) rfl
theorem zIm {ι:Type}{I:ι→Fs×Hs}{μ:ι→Nat}{i:ι}{id:Nat}:zRa I μ i Qx (.exit id) fs hs=Qx (.exit id) fs hs:=Eq.trans (Eq.refl _) rfl
theorem zMi {ι:Type}{I:ι→Fs×Hs}{μ:ι→Nat}{i:ι}:zRa I μ i Qx .ret fs hs=Qx .ret fs hs:=Eq.trans (Eq.refl _) rfl
attribute [go_sem] zYy qYb zY3 zY1 jE1 zY2 zY4 zY0 jE0 jE2 zRy jEx zYx jGy jG0 jGz jGu jGv jGx jG5 jG3 jG4 jG1 zTp zOy zQh zJg zJf
 zHx zDq zPj zKa zRj zRi zQu zL0 zIi zSh zEq zSd zJk zTj jAf zA2 zIm zMi
theorem jIs {p:Prop}[Decidable p](h:p):decide p=true:=decide_eq_true h
theorem jIr {p:Prop}[Decidable p](h : ¬ p):decide p=false:=decide_eq_false h
theorem jC3 {a b:Int}(h:a=b):(a==b)=true:=by simp[h]
theorem jC2 {a b:Int}(h : ¬ a=b):(a==b)=false:=by simp[h]
theorem jC5 {a b:Int}(h : ¬ a=b):(a != b)=true:=by simp[h]
theorem jC4 {a b:Int}(h:a=b):(a != b)=false:=by simp[h]
attribute [go_sem low] jIs jIr jLn jC3 jC2 jC5 jC4
theorem zA4 {α γ:Type}{f:α→γ}{l:List α}{x:α}{r:List γ}:List.map f l++f x::r=List.map f (l++[x])++r:=sM
theorem zEn {α γ:Type}{f:α→γ}{l r:List α}:List.map f l++List.map f r=List.map f (l++r):=sM
theorem zK4 {α γ:Type}{f:α→γ}{l:List α}{n:Nat}:List.drop n (List.map f l)=List.map f (List.drop n l):=sM
theorem zOs {α γ:Type}{f:α→γ}{l:List α}{n:Nat}:List.take n (List.map f l)=List.map f (List.take n l):=sM
theorem zS8 {α γ:Type}{f:α→γ}{l:List α}{n:Nat}{x:α}:List.set (List.map f l) n (f x)=List.map f (List.set l n x):=by
 rw[List.map_set]
theorem zQs {α γ:Type}{f:α→γ}{l:List α}{n:Nat}:(List.map f l)[n]?=(l[n]?).map f:=List.getElem?_map
theorem jJ7 {n:Nat}{x:T}:List.replicate n (V.t x)=List.map V.t (List.replicate n x):=sM
theorem jJ6 {n:Nat}{x:UInt8}:List.replicate n (qA x)=List.map qA (List.replicate n x):=sM
theorem jJ8 {n:Nat}{x:UInt32}:List.replicate n (zW x)=List.map zW (List.replicate n x):=sM
theorem jQu {α:Type}{x:α}:List.replicate 0 x=[]:=Eq.trans (Eq.refl _) rfl
theorem jQv {α:Type}{x:α}:List.replicate 1 x=[x]:=Eq.trans (Eq.refl _) rfl
theorem jQw {α:Type}{x:α}:List.replicate 2 x=[x,x]:=Eq.trans (Eq.refl _) rfl
theorem jQx {α:Type}{x:α}:List.replicate 3 x=[x,x,x]:=Eq.trans (Eq.refl _) rfl
theorem jQy {α:Type}{x:α}:List.replicate 4 x=[x,x,x,x]:=Eq.trans (Eq.refl _) rfl
theorem jQz {α:Type}{x:α}:List.replicate 5 x=[x,x,x,x,x]:=Eq.trans (Eq.refl _) rfl
theorem jQ0 {α:Type}{x:α}:List.replicate 6 x=[x,x,x,x,x,x]:=Eq.trans (Eq.refl _) rfl
theorem jQ1 {α:Type}{x:α}:List.replicate 7 x=[x,x,x,x,x,x,x]:=Eq.trans (Eq.refl _) rfl
theorem jQ2 {α:Type}{x:α}:List.replicate 8 x=[x,x,x,x,x,x,x,x]:=Eq.trans (Eq.refl _) rfl
theorem zW3 {es:List T}:qB6 (.t (.sl es)) = .ret (es.map .t):=Eq.trans (Eq.refl _) rfl
theorem zLa:qB6 .nil = .ret []:=Eq.trans (Eq.refl _) rfl
theorem zQg {id off len:Nat}:qB6 (.sl id off len) = .get id fun
  | .live _ es _ _=>Q.assert (off+len≤es.length) (.ret ((es.drop off).take len))
  | .dead=> .fail:=Eq.trans (Eq.refl _) rfl
theorem jLp {z:Nat}{ts:List T}:zOk z (ts.map .t)=qPv z ts:=by
 induction ts with
 | nil=>rfl
 | cons x r ih=>
  have:zOk z (V.t x::r.map .t)=((V.t x).cells.length==z&&zOk z (r.map .t)):=rfl;rw[List.map_cons,this,ih];have:qPv z (x::r)=(x.cells.length==z&&qPv z r):=rfl;rw[this,qLe,List.length_map]
theorem jA0 {z:Nat}:zOk z []=true:=Eq.trans (Eq.refl _) rfl
theorem zT1 {z:Nat}{x:V}{r:List V}:zOk z (x::r)=(x.cells.length==z&&zOk z r):=Eq.trans (Eq.refl _) rfl
theorem zT0 {z:Nat}:qPv z []=true:=Eq.trans (Eq.refl _) rfl
theorem zPb {z:Nat}{x:T}{r:List T}:qPv z (x::r)=(x.cells.length==z&&qPv z r):=Eq.trans (Eq.refl _) rfl
theorem qZ5 {α:Type}{z:Nat}{f:α→T}(h : ∀ x,(f x).cells.length=z){l:List α}:qPv z (l.map f)=true:=by
 simp[qPv,h]
theorem jHw {l:List UInt8}:qPv 1 (l.map qA)=true:=qZ5 (f:=qA) (fun _=>rfl)
theorem jHx {l:List UInt32}:qPv 1 (l.map zW)=true:=qZ5 (f:=zW) (fun _=>rfl)
theorem zH8 {es:List V}:qDl es=match qFg es with | some _=> .ret (es,[]) | none=>qDm (zM 3) es:=Eq.trans (Eq.refl _) rfl
theorem qYk {α:Type}{l xs:List α}:zT l 0 xs=xs++l.drop xs.length:=by simp[zT]
theorem qYj {α:Type}{x:α}{l xs:List α}{i:Nat}:zT (x::l) (i+1) xs=x::zT l i xs:=by
 simp[zT,show i+1+xs.length=i+xs.length+1 by omega]
def zLd (b:Bool)(z:List V)(pl:List (Nat×Nat))(vs:List V):Option (List V):=if b then qU1 z pl vs else none
@[congr] theorem zW7 {b b':Bool} {z:List V} {pl:List (Nat×Nat)} {vs:List V} (h:b=b'):zLd b z pl vs=zLd b' z pl vs:=by rw[h]
theorem zId {z:List V}{pl:List (Nat×Nat)}{vs:List V}:zLd true z pl vs=qU1 z pl vs:=Eq.trans (Eq.refl _) rfl
theorem zLe {z:List V}:qU1 z [] []=some z:=Eq.trans (Eq.refl _) rfl
theorem zIe {z:List V}{off n:Nat}{pl:List (Nat×Nat)}{v:V}{vs:List V}:qU1 z ((off,n)::pl) (v::vs)=zLd (decide (v.cells.length=n∧off+n≤z.length)&&v.plain) (zT z off v.cells) pl vs:=by
 simp only[qU1,zLd,Bool.and_eq_true,decide_eq_true_eq,and_assoc]
def zAp (b:Bool)(z:Nat)(es:List V)(ix:List Nat)(vs:List V):Option (List V):=if b then qU0 z es ix vs else none
@[congr] theorem zUr {b b':Bool} {z:Nat} {es:List V} {ix:List Nat} {vs:List V} (h:b=b'):zAp b z es ix vs=zAp b' z es ix vs:=by rw[h]
theorem zEb {z:Nat}{es:List V}{ix:List Nat}{vs:List V}:zAp true z es ix vs=qU0 z es ix vs:=Eq.trans (Eq.refl _) rfl
theorem zLc {z:Nat}{es:List V}:qU0 z es [] []=some es:=Eq.trans (Eq.refl _) rfl
theorem zIc {z i:Nat}{es:List V}{ix:List Nat}{v:V}{vs:List V}:qU0 z es (i::ix) (v::vs)=zAp (decide (v.cells.length=z∧i<es.length)&&v.plain) z (es.set i v) ix vs:=by
 simp only[qU0,zAp,Bool.and_eq_true,decide_eq_true_eq,and_assoc]
theorem zRn:qTh []=true:=Eq.trans (Eq.refl _) rfl
theorem zMt {x:V}{r:List V}:qTh (x::r)=(x.single&&qTh r):=Eq.trans (Eq.refl _) rfl
theorem zRl {a b:List V}:qTh (a++b)=(qTh a&&qTh b):=by simp[qTh]
theorem qX5 {α:Type}{f:α→T}(h : ∀ x,(V.t (f x)).single=true){l:List α}:qTh ((l.map f).map V.t)=true:=by
 simp only[qTh,List.all_eq_true];intro x hx;simp only[List.map_map,List.mem_map,Function.comp] at hx;obtain⟨a,_,rfl⟩:=hx;exact h a
theorem jEe {l:List UInt8}:qTh ((l.map qA).map V.t)=true:=qX5 (f:=qA) (fun _=>rfl)
theorem jEf {l:List UInt32}:qTh ((l.map zW).map V.t)=true:=qX5 (f:=zW) (fun _=>rfl)
theorem zI6 {k:IntKind}{n:Int}:(V.t (T.int k n)).single=true:=Eq.trans (Eq.refl _) rfl
theorem zE1 {n:UInt8}:(V.t (qA n)).single=true:=Eq.trans (Eq.refl _) rfl
theorem zJb {n:UInt32}:(V.t (zW n)).single=true:=Eq.trans (Eq.refl _) rfl
theorem zE0 {n:Bool}:(V.t (T.bool n)).single=true:=Eq.trans (Eq.refl _) rfl
theorem zI9 {n:ByteArray}:(V.t (T.str n)).single=true:=Eq.trans (Eq.refl _) rfl
theorem zJa {n:List T}:(V.t (T.sl n)).single=true:=Eq.trans (Eq.refl _) rfl
theorem zE3 {n:List T}:(V.t (T.agg n)).single=false:=Eq.trans (Eq.refl _) rfl
theorem zI5 {n:List V}:(V.agg n).single=false:=Eq.trans (Eq.refl _) rfl
theorem zOc {i j k:Nat}:(V.sl i j k).single=true:=Eq.trans (Eq.refl _) rfl
theorem zI8 {i j k:Nat}:(V.ref i j k).single=true:=Eq.trans (Eq.refl _) rfl
theorem zOa {g i j k:Nat}:(V.bd g i j k).single=true:=Eq.trans (Eq.refl _) rfl
theorem zOb:V.bq.single=true:=Eq.trans (Eq.refl _) rfl
attribute [go_sem] zOb
attribute [go_sem] zOa
theorem zI7:V.nil.single=true:=Eq.trans (Eq.refl _) rfl
theorem zJc {n b:Nat}:qCa n b=(n≤9223372036854775807∧n*b≤140737488355328):=Eq.trans (Eq.refl _) rfl
theorem jP6 {l:List UInt8}{i:Nat}(h:i<l.length):l[i]?=some (l.getD i 0):=by simp[List.getD,h]
theorem jI2 {l:List UInt32}{i:Nat}(h:i<l.length):l[i]?=some (l.getD i 0):=by simp[List.getD,h]
theorem jD7 {a b:Nat}:(a:Int)+(b:Int)=((a+b:Nat):Int):=rfl
theorem zX4 {a n:Nat}:(a:Int)+(no_index (@OfNat.ofNat Int n _))=((a + @OfNat.ofNat Nat n (instOfNatNat n):Nat):Int):=rfl
theorem zRf {a n:Nat}:(no_index (@OfNat.ofNat Int n _))+(a:Int)=((@OfNat.ofNat Nat n (instOfNatNat n)+a:Nat):Int):=rfl
theorem jD9 {a b:Nat}:(a:Int)*(b:Int)=((a*b:Nat):Int):=rfl
theorem zX6 {a n:Nat}:(no_index (@OfNat.ofNat Int n _))*(a:Int)=((@OfNat.ofNat Nat n (instOfNatNat n)*a:Nat):Int):=rfl
theorem zX8 {a n:Nat}:(a:Int)*(no_index (@OfNat.ofNat Int n _))=((a * @OfNat.ofNat Nat n (instOfNatNat n):Nat):Int):=rfl
theorem zYb {a n:Nat}:(a:Int).tmod (no_index (@OfNat.ofNat Int n _))=((a % @OfNat.ofNat Nat n (instOfNatNat n):Nat):Int):=rfl
theorem zYa {a n:Nat}:(a:Int).tdiv (no_index (@OfNat.ofNat Int n _))=((a / @OfNat.ofNat Nat n (instOfNatNat n):Nat):Int):=rfl
theorem zX5 {a n:Nat}:(a:Int).fdiv (no_index (@OfNat.ofNat Int n _))=((a / @OfNat.ofNat Nat n (instOfNatNat n):Nat):Int):=by
 rw[Int.fdiv_eq_ediv_of_nonneg _ (by exact Int.natCast_nonneg n)];rfl
theorem jEa {a b:Nat}(h:b≤a):(a:Int)-(b:Int)=((a-b:Nat):Int):=oM
theorem zX9 {a n:Nat}(h : @OfNat.ofNat Nat n (instOfNatNat n)≤a):(a:Int)-(no_index (@OfNat.ofNat Int n _))=((a - @OfNat.ofNat Nat n (instOfNatNat n):Nat):Int):=by
 have:(@OfNat.ofNat Int n _:Int)=((@OfNat.ofNat Nat n (instOfNatNat n):Nat):Int):=rfl;rw[this];omega
theorem zX7 {a n:Nat}(h:a ≤ @OfNat.ofNat Nat n (instOfNatNat n)):(no_index (@OfNat.ofNat Int n _))-(a:Int)=((@OfNat.ofNat Nat n (instOfNatNat n)-a:Nat):Int):=by
 have:(@OfNat.ofNat Int n _:Int)=((@OfNat.ofNat Nat n (instOfNatNat n):Nat):Int):=rfl;rw[this];omega
theorem jD8 {n:Nat}:(no_index (@OfNat.ofNat Int n _)).toNat = @OfNat.ofNat Nat n (instOfNatNat n):=rfl
attribute [go_sem] zRn zMt zRl jEe jEf zI6 zE1 zJb zE0 zI9 zJa zE3 zI5 zOc zI8 zI7
attribute [go_sem] zH8 qYk qYj zId zLe zIe zEb zLc zIc
attribute [go_sem] jQu jQv jQw jQx jQy jQz jQ0 jQ1 jQ2 List.drop_replicate zW3 zLa zQg jLp jA0 zT1 zT0 zPb jHw jHx zJc jJ7 jJ6 jJ8
attribute [go_sem] List.idxOf_cons List.idxOf_nil cond_true cond_false Ob.live.injEq
theorem jRe {n:Int}(h : -9223372036854775808≤n∧n<9223372036854775808):IntKind.i64.wrap n=n:=xX h
theorem jRg {n:Int}(h:0≤n∧n<18446744073709551616):IntKind.u64.wrap n=n:=qHv h
theorem jRf {n:Int}(h:0≤n∧n<4294967296):IntKind.u32.wrap n=n:=zGh h
theorem jF0 {a:Nat}{k k':IntKind}{b:Int}(h:0≤b∧b≤64)(hk:k.bits=64):qXp .shr k (a:Int) k' b=some (.int k ((a/2^b.toNat:Nat):Int)):=by
 change (if b<0 then none else some (T.int k ((a:Int).fdiv (2^min b.toNat k.bits))))=_;rw[if_neg oM,hk,show min b.toNat 64=b.toNat by omega,Int.fdiv_eq_ediv_of_nonneg _ (Int.pow_nonneg oM)]
 norm_cast
theorem zZ6 {a:Nat}{k':IntKind}{b:Int}(h:0≤b∧b≤64):qXp .shr .u64 (a:Int) k' b=some (.int .u64 ((a/2^b.toNat:Nat):Int)):=jF0 h rfl
theorem zEy {a:Nat}{k':IntKind}{b:Int}(h:0≤b∧b≤64):qXp .shr .i64 (a:Int) k' b=some (.int .i64 ((a/2^b.toNat:Nat):Int)):=jF0 h rfl
theorem jGk {m:Nat}:T.int .u8 (IntKind.u8.wrap (m:Int))=qA (UInt8.ofNat m):=by
 unfold qA;congr 1
attribute [go_sem ↓] zZ6 zEy
end Go.Eng
end
section
namespace Go.Eng
structure Ct where
 α:Type
 aS:α→List V
 ins:α→List Ob
 pre:α→Prop
 r:α→V
 outs:α→List Ob
 inj : ∀ x y,aS x=aS y→ins x=ins y→r x=r y∧outs x=outs y
open Classical in
noncomputable def Ct.fs (c:Ct):FnS:=fun aS ins=>if h : ∃ x,(c.aS x=aS∧c.ins x=ins)∧c.pre x then some (c.r h.choose,c.outs h.choose) else none
theorem Ct.eq (c:Ct)(x:c.α)(h:c.pre x):c.fs (c.aS x) (c.ins x)=some (c.r x,c.outs x):=by
 have hx : ∃ y,(c.aS y=c.aS x∧c.ins y=c.ins x)∧c.pre y:=⟨x,⟨rfl,rfl⟩,h⟩;unfold Ct.fs;rw[dif_pos hx];obtain⟨h1,h2⟩:=c.inj _ _ hx.choose_spec.1.1 hx.choose_spec.1.2;rw[h1,h2]
theorem Ct.ok {P:Program}{G:Nat→Option (List T)}{f:FuncId}(c:Ct)(hc : ∀ args w,(callFunc f args).run P w = .ok (.enter f args) w)(h : ∀ x,c.pre x→qXf P G f (c.aS x) (c.ins x) (c.r x) (c.outs x)):FOk P G f c.fs:=by
 refine FOk.of hc (fun aS ins r outs hs=>?_);unfold Ct.fs at hs;split at hs
 ·rename_i hx;cases hs;have h1:=hx.choose_spec;generalize hx.choose=y at h1 ⊢;obtain⟨⟨rfl,rfl⟩,h3⟩:=h1;exact h y h3
 ·cases hs
theorem zAg {a b:UInt8}(h:qA a=qA b):a=b:=by
 have:=congrArg d8 h;rw[zD9,zD9] at this;exact Option.some.inj this
theorem zHt {a b:UInt32}(h:zW a=zW b):a=b:=by
 have:=congrArg d32 h;rw[zK1,zK1] at this;exact Option.some.inj this
theorem qCq {α γ:Type}{f:α→γ}(hf : ∀ a b,f a=f b→a=b) : ∀ {l m:List α},l.map f=m.map f→l=m
 | [],[],_=>rfl
 | [],_::_,h=>by simp at h
 | _::_,[],h=>by simp at h
 | a::l,b::m,h=>by
  simp only[List.map_cons,List.cons.injEq] at h;rw[hf _ _ h.1,qCq hf h.2]
theorem yC {l m:List UInt8}:(l.map qA=m.map qA)=(l=m):=propext ⟨qCq (fun _ _=>zAg),fun h=>by rw[h]⟩
theorem zG5 {l m:List UInt32}:(l.map zW=m.map zW)=(l=m):=propext ⟨qCq (fun _ _=>zHt),fun h=>by rw[h]⟩
theorem zRc {l m:List T}:(l.map V.t=m.map V.t)=(l=m):=propext ⟨qCq (fun _ _ h=>V.t.inj h),fun h=>by rw[h]⟩
theorem qOf {a b:UInt8}:(qA a=qA b)=(a=b):=propext ⟨zAg,fun h=>by rw[h]⟩
theorem qYp {a b:UInt32}:(zW a=zW b)=(a=b):=propext ⟨zHt,fun h=>by rw[h]⟩
theorem jKo {x:UInt32}{k:IntKind}{n:Nat}:qCv .shl (zW x) (.int k (no_index (@OfNat.ofNat Int n _)))=if n<32 then some (zW (x <<< UInt32.ofNat n)) else qCv .shl (zW x) (.int k (n:Int)):=by
 split
 ·exact qSw (by assumption)
 ·rfl
theorem jKr {x:UInt32}{k:IntKind}{n:Nat}:qCv .shr (zW x) (.int k (no_index (@OfNat.ofNat Int n _)))=if n<32 then some (zW (x >>> UInt32.ofNat n)) else qCv .shr (zW x) (.int k (n:Int)):=by
 split
 ·exact qSx (by assumption)
 ·rfl
theorem jFv {x:UInt32}{k:IntKind}{n:Nat}(h:n<32):qCv .shl (zW x) (.int k (n:Int))=some (zW (x <<< UInt32.ofNat n)):=qSw h
theorem jFz {x:UInt32}{k:IntKind}{n:Nat}(h:n<32):qCv .shr (zW x) (.int k (n:Int))=some (zW (x >>> UInt32.ofNat n)):=qSx h
theorem qEj {α:Type}{l:List α}{k:Nat}{d:α}(h:k<l.length):l.take (k+1)=l.take k++[l.getD k d]:=by
 rw[List.take_add_one];simp[List.getD,h]
theorem zU6 {x:Int}{m:Nat}(h:m≤64):(BitVec.ofInt 64 x &&& BitVec.ofInt 64 ((2^m-1:Nat):Int)).toNat=(x%((2^m:Nat):Int)).toNat:=by
 have h0:1≤2^m:=Nat.one_le_two_pow;have h2:2^m≤2^64:=Nat.pow_le_pow_right (n:=2) oM h;rw[BitVec.toNat_and,BitVec.toNat_ofInt,BitVec.toNat_ofInt];have h1:(((2^m-1:Nat):Int)%((2^64:Nat):Int)).toNat=2^m-1:=by
  rw[Int.emod_eq_of_lt oM oM];simp
 rw[h1,Nat.and_two_pow_sub_one_eq_mod];have hd:((2^m:Nat):Int) ∣ ((2^64:Nat):Int):=Int.natCast_dvd_natCast.2 (Nat.pow_dvd_pow 2 h);have e:x%((2^64:Nat):Int)%((2^m:Nat):Int)=x%((2^m:Nat):Int):=Int.emod_emod_of_dvd x hd;rw[←e];have hx0:0≤x%((2^64:Nat):Int):=Int.emod_nonneg _ oM;generalize x%((2^64:Nat):Int)=y at hx0;obtain⟨z,rfl⟩:=Int.eq_ofNat_of_zero_le hx0;rw[←Int.natCast_emod,Int.toNat_natCast,Int.toNat_natCast]
theorem qXh {x:Int}{m:Nat}(h:m≤63):IntKind.i64.wrap ((BitVec.ofInt 64 x &&& BitVec.ofInt 64 ((2^m-1:Nat):Int)).toNat:Int)=x%((2^m:Nat):Int):=by
 rw[zU6 oM];have h0:1≤2^m:=Nat.one_le_two_pow;have h2:2^m≤2^63:=Nat.pow_le_pow_right (n:=2) oM h;have h3:=Int.emod_nonneg x (b:=((2^m:Nat):Int)) oM;have h4:=Int.emod_lt_of_pos x (b:=((2^m:Nat):Int)) oM;rw[xX oM];omega
theorem jPr {x:Int}:qXp .and .i64 x .i64 1=some (.int .i64 (x%2)):=by
 have h := @qXh x 1 oM;rw[show ((2^1-1:Nat):Int)=1 from rfl,show ((2^1:Nat):Int)=2 from rfl] at h;have h2:=congrArg (fun z=>some (T.int IntKind.i64 z)) h;exact h2
theorem jPt {x:Int}:qXp .and .i64 x .i64 3=some (.int .i64 (x%4)):=by
 have h := @qXh x 2 oM;rw[show ((2^2-1:Nat):Int)=3 from rfl,show ((2^2:Nat):Int)=4 from rfl] at h;have h2:=congrArg (fun z=>some (T.int IntKind.i64 z)) h;exact h2
theorem jIb {x:Int}:qXp .and .i64 x .i64 15=some (.int .i64 (x%16)):=by
 have h := @qXh x 4 oM;rw[show ((2^4-1:Nat):Int)=15 from rfl,show ((2^4:Nat):Int)=16 from rfl] at h;have h2:=congrArg (fun z=>some (T.int IntKind.i64 z)) h;exact h2
theorem zPr {x:Int}:qXp .and .i64 x .i64 65535=some (.int .i64 (x%65536)):=by
 have h := @qXh x 16 oM;rw[show ((2^16-1:Nat):Int)=65535 from rfl,show ((2^16:Nat):Int)=65536 from rfl] at h;have h2:=congrArg (fun z=>some (T.int IntKind.i64 z)) h;exact h2
theorem jBj {x:Int}:qXp .and .u64 x .u64 31=some (.int .u64 (x%32)):=by
 have h := @zU6 x 5 oM;rw[show ((2^5-1:Nat):Int)=31 from rfl,show ((2^5:Nat):Int)=32 from rfl] at h;have h2:IntKind.u64.wrap ((BitVec.ofInt 64 x &&& BitVec.ofInt 64 31).toNat:Int)=x%32:=by
  rw[h,qSm];omega
 have h3:=congrArg (fun z=>some (T.int IntKind.u64 z)) h2;exact h3
theorem zLn {z:Nat}{es:List V}{wr full:Bool}:(Ob.live z es wr full).flat=qNy es:=Eq.trans (Eq.refl _) rfl
theorem zLk:qNy []=true:=Eq.trans (Eq.refl _) rfl
theorem qWx {c:V}{r:List V}:qNy (c::r)=(c.flat&&qNy r):=Eq.trans (Eq.refl _) rfl
theorem zLj:qRb []=true:=Eq.trans (Eq.refl _) rfl
theorem qKg {c:T}{r:List T}:qRb (c::r)=(c.flat&&qRb r):=Eq.trans (Eq.refl _) rfl
theorem zXa {ts:List T}:qNy (ts.map .t)=qRb ts:=by
 induction ts with
 | nil=>rfl
 | cons x r ih=>rw[List.map_cons,qWx,ih,qKg];rfl
theorem zW8 {l:List UInt8}:qRb (l.map qA)=true:=by
 induction l with
 | nil=>rfl
 | cons x r ih=>rw[List.map_cons,qKg,ih];rfl
theorem zW9 {l:List UInt32}:qRb (l.map zW)=true:=by
 induction l with
 | nil=>rfl
 | cons x r ih=>rw[List.map_cons,qKg,ih];rfl
theorem zQq {i j k:Nat}:(V.sl i j k).flat=true:=Eq.trans (Eq.refl _) rfl
theorem zLs {i j k:Nat}:(V.ref i j k).flat=true:=Eq.trans (Eq.refl _) rfl
theorem zQo {g i j k:Nat}:(V.bd g i j k).flat=true:=Eq.trans (Eq.refl _) rfl
theorem zQp:V.bq.flat=true:=Eq.trans (Eq.refl _) rfl
attribute [go_sem] zQp
attribute [go_sem] zQo
theorem zLr:V.nil.flat=true:=Eq.trans (Eq.refl _) rfl
theorem zLq {cs:List V}:(V.agg cs).flat=qNy cs:=Eq.trans (Eq.refl _) rfl
theorem zLt {cs:List V}:(V.tup cs).flat=qNy cs:=Eq.trans (Eq.refl _) rfl
theorem zQl {cs:List T}:(T.sl cs).flat=cs.isEmpty:=Eq.trans (Eq.refl _) rfl
theorem zLp {cs:List T}:(T.agg cs).flat=qRb cs:=Eq.trans (Eq.refl _) rfl
attribute [go_sem] zLn zLk qWx zLj qKg zXa zW8 zW9 zQq zLs zLr zLq zLt zQl zLp List.isEmpty_nil List.isEmpty_cons
attribute [go_sem ↓] jBj
attribute [go_sem ↓] jPr jPt jIb zPr
attribute [go_sem] jKo jKr jFv jFz qOf qYp
abbrev LkC (tab:Tab)(n:Nat)(c:Ct):Prop:=tab.look n=some c.fs
end Go.Eng
end
section
namespace Go.Eng
variable {tab:Tab} {gl:Gl} {fs:Fs} {hs:Hs} {Qx:qF0}
def upP (n:Nat)(P:Nat→Prop)(fI:Nat→Fs)(hI:Nat→Hs)(i:Nat)(Qx:qF0):qF0:=fun e fs' hs'=>match e with | .normal=>i<n∧P (i+1)∧qI fs' hs' (fI (i+1)) (hI (i+1)) | e=>Qx e fs' hs'
theorem zJn {n:Nat}{P:Nat→Prop}{fI:Nat→Fs}{hI:Nat→Hs}{i:Nat}:upP n P fI hI i Qx .normal fs hs=(i<n∧P (i+1)∧qI fs hs (fI (i+1)) (hI (i+1))):=Eq.trans (Eq.refl _) rfl
theorem zTm {n:Nat}{P:Nat→Prop}{fI:Nat→Fs}{hI:Nat→Hs}{i id:Nat}:upP n P fI hI i Qx (.exit id) fs hs=Qx (.exit id) fs hs:=Eq.trans (Eq.refl _) rfl
theorem jAh {n:Nat}{P:Nat→Prop}{fI:Nat→Fs}{hI:Nat→Hs}{i:Nat}:upP n P fI hI i Qx .ret fs hs=Qx .ret fs hs:=Eq.trans (Eq.refl _) rfl
attribute [go_sem] zJn zTm jAh
theorem qP8 {a:AC}(n:Nat)(P:Nat→Prop)(fI:Nat→Fs)(hI:Nat→Hs)(hP:P 0)(h0:qI fs hs (fI 0) (hI 0))(h : ∀ i,i≤n→P i→a.wp tab gl (fI i) (hI i) (upP n P fI hI i Qx)):qP7 tab gl a fs hs Qx:=by
 refine qJ2 (ι := { i:Nat // i≤n∧P i }) (fun i=>(fI i.1,hI i.1)) (fun i=>n-i.1) ⟨0,Nat.zero_le _,hP⟩ h0 (fun i=>?_);refine zX (fun e f g hq=>?_) (h i.1 i.2.1 i.2.2);cases e with
 | normal=>exact⟨⟨i.1+1,hq.1,hq.2.1⟩,by simp only;have:=hq.1;omega,hq.2.2⟩
 | exit id=>exact hq
 | ret=>exact hq
theorem zTd {a:Nat}{k':IntKind}{b:Int}(h:0≤b∧b≤32):qXp .shr .u32 (a:Int) k' b=some (.int .u32 ((a/2^b.toNat:Nat):Int)):=by
 change (if b<0 then none else some (T.int .u32 ((a:Int).fdiv (2^min b.toNat 32))))=_;rw[if_neg oM,show min b.toNat 32=b.toNat by omega,Int.fdiv_eq_ediv_of_nonneg _ (Int.pow_nonneg oM)]
 norm_cast
attribute [go_sem ↓] zTd
theorem zGt {a b:UInt8}:((a.toNat:Int)==(b.toNat:Int))=decide (a=b):=by
 by_cases h:a=b
 ·subst h;simp
 ·have : ¬ ((a.toNat:Int)=b.toNat):=fun e=>h (UInt8.toNat_inj.1 oM)
  simp[h,this]
theorem zPy {a b:UInt8}:qCv .eql (qA a) (qA b)=some (.bool (decide (a=b))):=by
 change some (T.bool ((a.toNat:Int)==(b.toNat:Int)))=_;rw[zGt]
theorem zP3 {a b:UInt8}:qCv .neq (qA a) (qA b)=some (.bool (!decide (a=b))):=by
 change some (T.bool (!((a.toNat:Int)==(b.toNat:Int))))=_;rw[zGt]
theorem zP2 {a b:UInt8}:qCv .lss (qA a) (qA b)=some (.bool (decide (a.toNat<b.toNat))):=by
 change some (T.bool (decide ((a.toNat:Int)<(b.toNat:Int))))=_;congr 2;simp
theorem zP0 {a b:UInt8}:qCv .gtr (qA a) (qA b)=some (.bool (decide (a.toNat>b.toNat))):=by
 change some (T.bool (decide ((a.toNat:Int)>(b.toNat:Int))))=_;congr 2;simp
theorem zP1 {a b:UInt8}:qCv .leq (qA a) (qA b)=some (.bool (decide (a.toNat≤b.toNat))):=by
 change some (T.bool (decide ((a.toNat:Int)≤(b.toNat:Int))))=_;congr 2;simp
theorem zPz {a b:UInt8}:qCv .geq (qA a) (qA b)=some (.bool (decide (a.toNat ≥ b.toNat))):=by
 change some (T.bool (decide ((a.toNat:Int) ≥ (b.toNat:Int))))=_;congr 2;simp
theorem zKi {a b:UInt8}:qCv .xor (qA a) (qA b)=some (qA (a ^^^ b)):=by
 change some (T.int .u8 (IntKind.u8.wrap ((BitVec.ofInt 8 (a.toNat:Int) ^^^ BitVec.ofInt 8 (b.toNat:Int)).toNat:Int)))=_;have e : ∀ x:UInt8,BitVec.ofInt 8 (x.toNat:Int)=x.toBitVec:=fun x=>BitVec.eq_of_toNat_eq sM
 rw[e,e,←UInt8.toBitVec_xor,qKa];have:=(a ^^^ b).toNat_lt;unfold qA;rw[UInt8.toNat_toBitVec];congr 2;omega
attribute [go_sem ↓] zPy zP3 zP2 zP0 zP1 zPz zKi
attribute [go_sem] UInt8.reduceToNat
theorem qXt {b:UInt8}:qHr .u64 [.t (qA b)] = .ret (.t (.int .u64 (b.toNat:Int)),[]):=by
 change Q.ret (V.t (.int .u64 (IntKind.u64.wrap (b.toNat:Int))),([]:Wr))=_;have:=b.toNat_lt;rw[qHv oM]
theorem qXr {b:UInt8}:qHr .i64 [.t (qA b)] = .ret (.t (.int .i64 (b.toNat:Int)),[]):=by
 change Q.ret (V.t (.int .i64 (IntKind.i64.wrap (b.toNat:Int))),([]:Wr))=_;have:=b.toNat_lt;rw[xX oM]
theorem zTb {a:Nat}{k':IntKind}(h:a<72057594037927936):qXp .shl .u64 (a:Int) k' 8=some (.int .u64 ((256*a:Nat):Int)):=by
 change (if (8:Int)<0 then none else some (T.int .u64 (IntKind.u64.wrap ((a:Int)*2^min (8:Int).toNat 64))))=_;rw[if_neg oM,show (a:Int)*2^min (8:Int).toNat 64=((256*a:Nat):Int) by
  rw[show min (8:Int).toNat 64=8 from rfl];omega,qHv oM]
theorem or8 {a x:Nat}(hx:x<256):(256*a) ||| x=256*a+x:=by
 have:=Nat.shiftLeft_add_eq_or_of_lt (i:=8) (b:=x) oM a;rw[Nat.shiftLeft_eq] at this;rw[Nat.mul_comm];exact this.symm
theorem zYi {a:Nat}{x:UInt8}(h:a<72057594037927936):qXp .or .u64 ((256*a:Nat):Int) .u64 (x.toNat:Int)=some (.int .u64 ((256*a+x.toNat:Nat):Int)):=by
 have hx:=x.toNat_lt;change some (T.int .u64 (IntKind.u64.wrap ((BitVec.ofInt 64 ((256*a:Nat):Int) ||| BitVec.ofInt 64 (x.toNat:Int)).toNat:Int)))=_;have e:(BitVec.ofInt 64 ((256*a:Nat):Int) ||| BitVec.ofInt 64 (x.toNat:Int)).toNat=256*a+x.toNat:=by
  rw[BitVec.toNat_or,BitVec.toNat_ofInt,BitVec.toNat_ofInt,Int.emod_eq_of_lt oM oM,Int.emod_eq_of_lt oM oM,Int.toNat_natCast,Int.toNat_natCast,or8 oM]
 rw[e,qHv oM]
attribute [go_sem ↓] qXt qXr zTb zYi
theorem zD0 {bs:List UInt8}:bsT bs = .sl (bs.map qA):=Eq.trans (Eq.refl _) rfl
theorem jP7 {l:List (List UInt8)}{i:Nat}(h:i<l.length):l[i]?=some (l.getD i []):=by simp[List.getD,h]
theorem jPm {l:List (List (List UInt8))}{i:Nat}(h:i<l.length):l[i]?=some (l.getD i []):=by simp[List.getD,h]
theorem zD1 {l:List (List UInt8)}{x:List UInt8}{r:List T}:List.map bsT l++T.sl (List.map qA x)::r=List.map bsT (l++[x])++r:=by simp[bsT]
theorem jAz {l:List (List UInt8)}:qPv 1 (l.map bsT)=true:=qZ5 (f:=bsT) (fun _=>rfl)
theorem zMs {l:List (List UInt8)}:qTh ((l.map bsT).map V.t)=true:=qX5 (f:=bsT) (fun _=>rfl)
theorem zWp {a b:List UInt8}(h:bsT a=bsT b):a=b:=by
 have:=congrArg dBs h;rw[bsT,bsT,zAl,zAl] at this;exact Option.some.inj this
theorem qFt {l m:List (List UInt8)}:(l.map bsT=m.map bsT)=(l=m):=propext ⟨qCq (fun _ _=>zWp),fun h=>by rw[h]⟩
theorem zPn {ts:List T}{r:List V}:qFg (ts.map .t++r)=(qFg r).map (ts ++ ·):=by
 induction ts with
 | nil=>simp[Option.map_id']
 | cons x l ih=>
  rw[List.map_cons,List.cons_append,qSp,ih,Option.map_map];rfl
attribute [go_sem] zPn
attribute [go_sem] zD0 zD1 jAz zMs
end Go.Eng
end
