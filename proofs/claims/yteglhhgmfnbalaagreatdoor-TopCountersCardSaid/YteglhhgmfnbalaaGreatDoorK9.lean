/- A part of an abstract machine, its walks, their tie. -/
import Derived.Test.YteglhhgmfnbalaaGreatDoorK8
import Derived.Conc.MuLone
import Derived.KernelRfl
set_option linter.all false
section
namespace Go.Eng
open List
def jGd (es:List V):List Nat:=
 match qFl es with
 |some _=>[]
 |none=>qPh es
def qQm:Nat->List Nat->List Nat->List Ob->Q (List Nat×List Ob)
 |_,[],ids,obs=>.ret (ids,obs)
 |0,_::_,_,_=>.fail
 |n+1,id::todo,ids,obs=>if ids.contains id then qQm n todo ids obs else
  .get id fun
   |.live z es true full=>(zVz es).bind λes'=>qQm n (todo++jGd es') (ids++[id]) (obs++[.live z es' true full])
   |_=>.fail
def jD5 (n:Nat)(vs:List V):Q (V×List Ob):=
 (rdL (rdV 4) vs).bind λus=>(qQm (40+n) (List.range n++qPh us) [] []).bind λq=>
  Q.assert ((qPh us).all (λi=>q.1.contains i)=true) (.ret (jD4 (qFn (λr=>q.1.idxOf r) us),q.2.map (Ob.ren λr=>q.1.idxOf r)))
def xO (fz:List Nat)(rs:List (Nat×Option (Nat×Bool)))(n:Nat)(R:V->List Ob->Prop):xV:=λe fs hs=>
 match e with
 |.exit _=>False
 |_=>(qYn fz).wp hs (λfw _=>((rsQ fs rs).bind λvs=>jD5 n vs).wp (zAv hs fw) (λp _=>R p.1 p.2))
def jKb (hm:Nat->Option Ob)(id:Nat)(o:Ob):Prop:=
 ∃z es es' full l,hm id=some (.live z es true full)/\o=.live z es' true full/\(zVz es).run hm=some (es',l)
theorem qQn {hm:Nat->Option Ob}:∀{n:Nat}{todo ids:List Nat}{obs:List Ob}{ids':List Nat}{obs':List Ob}{l:List Nat},(qQm n todo ids obs).run hm=some ((ids',obs'),l)->
  ids.Nodup->ids.length=obs.length->(∀(k id:Nat)(o:Ob),ids[k]?=some id->obs[k]?=some o->jKb hm id o)->(∀o∈obs,∀z es wr full,o=.live z es wr full->∀r∈jGd es,r∈ids\/r∈todo)->
   ids'.Nodup/\ids'.length=obs'.length/\(∀(k id:Nat)(o:Ob),ids'[k]?=some id->obs'[k]?=some o->jKb hm id o)/\(∀o∈obs',∀z es wr full,o=.live z es wr full->∀r∈jGd es,r∈ids')/\
    (∀r∈todo,r∈ids')/\∃s,ids'=ids++s
 |n,[],ids,obs,ids',obs',l,h,h1,h2,h3,h4=>by
  have h':(Q.ret (ids,obs):Q _).run hm=some ((ids',obs'),l):=by cases n<;>exact h
  obtain⟨e,_⟩:=qE h';cases e;refine⟨h1,h2,h3,λo ho z es wr full e r hr=>?_,sM,[],sM⟩;rcases h4 o ho z es wr full e r hr with h|h
  .exact h
  .simp at h
 |0,_::_,ids,obs,ids',obs',l,h,_,_,_,_=>by cases h
 |n+1,id::todo,ids,obs,ids',obs',l,h,h1,h2,h3,h4=>by
  simp only[qQm]at h;split at h
  .rename_i hc;have hc':id∈ids:=by simpa using hc
   obtain⟨g1,g2,g3,g4,g5,s,g6⟩:=qQn h h1 h2 h3 (λo ho z es wr full e r hr=>by
    rcases h4 o ho z es wr full e r hr with h|h
    .exact .inl h
    .rcases mem_cons.1 h with rfl|h
     .exact .inl hc'
     .exact .inr h)
   refine⟨g1,g2,g3,g4,λr hr=>?_,s,g6⟩;rcases mem_cons.1 hr with rfl|hr
   .rw[g6];simp[hc']
   .exact g5 r hr
  .rename_i hc;have hc':id ∉ ids:=by simpa using hc
   obtain⟨o,l',ho,hs2,_⟩:=yV h;cases o with
   |dead=>cases hs2
   |live z es wr full=>
    cases wr with
    |false=>cases hs2
    |true=>
     obtain⟨es',l1,l2,hp,hs3,_⟩:=qS hs2;obtain⟨g1,g2,g3,g4,g5,s,g6⟩:=qQn hs3 (by
       rw[nodup_append];refine⟨h1,sM,?_⟩;intro x hx y hy e;simp at hy;subst e hy;exact hc' hx) (by simp[h2]) (λk i o hk hok=>by
       rcases Nat.lt_or_ge k ids.length with hlt|hge
       .rw[getElem?_append_left hlt]at hk;rw[getElem?_append_left oM]at hok;exact h3 k i o hk hok
       .rw[getElem?_append_right hge]at hk;rw[getElem?_append_right oM]at hok;have e1:k-ids.length=0:=by
         have:=(List.getElem?_eq_some_iff.1 hk).1;simp at this;omega
        have e2:k-obs.length=0:=oM;rw[e1]at hk;rw[e2]at hok;simp at hk hok;subst hk hok;exact⟨z,es,es',full,l1,ho,rfl,hp⟩) (λo ho' z' es2 wr' full' e r hr=>by
       rcases mem_append.1 ho' with ho'|ho'
       .rcases h4 o ho' z' es2 wr' full' e r hr with h|h
        .exact .inl (by simp[h])
        .rcases mem_cons.1 h with rfl|h
         .exact .inl sM
         .exact .inr (by simp[h])
       .simp at ho';rw[ho']at e;cases e;exact .inr (by simp[hr]))
     refine⟨g1,g2,g3,g4,λr hr=>?_,id::s,by rw[g6];simp⟩;rcases mem_cons.1 hr with rfl|hr
     .rw[g6];simp
     .exact g5 r (by simp[hr])
theorem qPf {hm:Nat->Option Ob}:∀{m n s:Nat}{rest:List Nat}{obs:List Ob}{ids':List Nat}{obs':List Ob}{l:List Nat},(qQm n (List.range' s m++rest) (List.range s) obs).run hm=some ((ids',obs'),l)->∃t,ids'=List.range (s+m)++t
 |0,n,s,rest,obs,ids',obs',l,h=>by
  have key:∀{n:Nat}{todo ids:List Nat}{obs:List Ob}{ids':List Nat}{obs':List Ob}{l:List Nat},(qQm n todo ids obs).run hm=some ((ids',obs'),l)->∃s,ids'=ids++s:=by
   intro n
   induction n with
   |zero=>
    intro todo ids obs ids' obs' l h;cases todo with
    |nil=>obtain⟨e,_⟩:=qE (x:=(ids,obs)) h;cases e;exact⟨[],sM⟩
    |cons _ _=>cases h
   |succ n ih=>
    intro todo ids obs ids' obs' l h;cases todo with
    |nil=>obtain⟨e,_⟩:=qE (x:=(ids,obs)) h;cases e;exact⟨[],sM⟩
    |cons id todo=>
     simp only[qQm]at h;split at h
     .exact ih h
     .obtain⟨o,l',ho,hs2,_⟩:=yV h;cases o with
      |dead=>cases hs2
      |live z es wr full=>
       cases wr with
       |false=>cases hs2
       |true=>
        obtain⟨es',l1,l2,hp,hs3,_⟩:=qS hs2;obtain⟨s,hs⟩:=ih hs3;exact⟨id::s,by rw[hs];simp⟩
  obtain⟨t,ht⟩:=key h;exact⟨t,ht⟩
 |m+1,n,s,rest,obs,ids',obs',l,h=>by
  cases n with
  |zero=>rw[range'_succ]at h;cases h
  |succ n=>
   rw[range'_succ,cons_append]at h;simp only[qQm]at h;split at h
   .rename_i hc;simp at hc
   .obtain⟨o,l',ho,hs2,_⟩:=yV h;cases o with
    |dead=>cases hs2
    |live z es wr full=>
     cases wr with
     |false=>cases hs2
     |true=>
      obtain⟨es',l1,l2,hp,hs3,_⟩:=qS hs2;rw[<-range_succ,append_assoc]at hs3;obtain⟨t,ht⟩:=qPf hs3;exact⟨t,by rw[ht];congr 2;omega⟩
variable {cx:Cx}{β:Nat->Option BI}{F:Nat->Prop}{a:Act}{w:World}{fm:Nat->Option V}{hm:Nat->Option Ob}
theorem qWq {ids:List Nat}{v:V}{x:Value}(h:qR β F w v x):(∀r∈v.ids,r∈ids)->qR (qDv ids β) F w (v.ren (λr=>ids.idxOf r)) x:=by
 induction h with
 |t h=>intro _;exact .t h
 |nil=>intro _;exact .nil
 |ref id i f b sz room hb=>intro hr;exact .ref _ i f b sz room (by rw[qFz (hr id (by simp[V.ids]))];exact hb)
 |bd g id i f b sz room hb=>intro hr;exact .bd g _ i f b sz room (by rw[qFz (hr id (by simp[V.ids]))];exact hb)
 |bq b=>intro _;exact .bq b
 |ro cs a news ha hn h1 hF hw h=>intro _;exact .ro cs a news ha hn h1 hF hw h
 |sl id off len cap b sz room a hb hlc hr ha hs=>intro hi;exact .sl _ off len cap b sz room a (by rw[qFz (hi id (by simp[V.ids]))];exact hb) hlc hr ha hs
 |slv id sz room hb=>intro hi;exact .slv _ sz room (by rw[qFz (hi id (by simp[V.ids]))];exact hb)
 |agg cs vs hl h1 _ ih=>
  intro hr;simp only[V.ren,zJ];refine .agg _ vs (by simpa using hl) h1 (λi c u hc hu=>?_);rw[getElem?_map,Option.map_eq_some_iff]at hc;obtain⟨c',hc',rfl⟩:=hc;exact ih i c' u hc' hu (λr h=>hr r (by simp only[V.ids];exact kU (mem_of_getElem? hc') h))
 |tup cs vs hl _ ih=>
  intro hr;simp only[V.ren,zJ];refine .tup _ vs (by simpa using hl) (λi c u hc hu=>?_);rw[getElem?_map,Option.map_eq_some_iff]at hc;obtain⟨c',hc',rfl⟩:=hc;exact ih i c' u hc' hu (λr h=>hr r (by simp only[V.ids];exact kU (mem_of_getElem? hc') h))
 |fn f cs vs hl _ ih=>
  intro hr;simp only[V.ren,zJ];refine .fn f _ vs (by simpa using hl) (λi c u hc hu=>?_);rw[getElem?_map,Option.map_eq_some_iff]at hc;obtain⟨c',hc',rfl⟩:=hc;exact ih i c' u hc' hu (λr h=>hr r (by simp only[V.ids];exact kU (mem_of_getElem? hc') h))
theorem zLe {es:List V}:∀r∈qPh es,r∈jGd es:=by
 intro r hr;unfold jGd;split
 .rename_i ts h;rw[qE2 h,jDa]at hr;simp at hr
 .exact hr
theorem zEw {ids:List Nat}{es:List V}{sz:Nat}{c:Array Value}(h:vB β F w es sz c)(hi:∀r∈qPh es,r∈ids):vB (qDv ids β) F w (qFn (λr=>ids.idxOf r) es) sz c:=by
 intro i x hx;rw[zJ,getElem?_map,Option.map_eq_some_iff]at hx;obtain⟨x0,hx0,rfl⟩:=hx;obtain⟨h1,h2⟩:=h i x0 hx0;rw[qJv,zJ];refine⟨by simpa using h1,λj y hy=>?_⟩;rw[getElem?_map,Option.map_eq_some_iff]at hy;obtain⟨y0,hy0,rfl⟩:=hy;obtain⟨u,g1,g2,g3⟩:=h2 j y0 hy0;exact⟨u,g1,qWq g2 (λr hr=>hi r (kU (mem_of_getElem? hx0) (qWp hy0 r hr))),g3⟩
theorem zF1 {P:Program}{G:Gl}{tab:Tab}{f:FuncId}{fn:Func}{c:Code}{ac:AC}{hints:List (Nat×List Nat)}{rs:List (Nat×Option (Nat×Bool))}(fz:List Nat)(hf:P.funcs[f]?=some fn)(hb:fn.body=some c)(hann:ann P fn.ntmps hints c=some ac)(hmx:P.follows .mixedOrders=true)
  (ht:xQ P G tab) (hrs:qMb P fn.results.toList=some rs) {aS:List V} {ins:List Ob} {r:V} {outs:List Ob} (hn:aS.length<=fn.ntmps) (hi:ins.length<=100)
  (h:ac.wp tab G (qD 0 aS) (qD 0 ins) (xO fz rs ins.length (λr' outs'=>r'=r/\outs'=outs))):zJz P G f aS ins r outs:=by
 intro w β F vals env fits hargs;have hd0:∀k bi,β k=some bi->k<100:=by
  intro k bi h;rcases Nat.lt_or_ge k ins.length with h1|h1
  .omega
  .rw[fits.dom k h1]at h;cases h
 let cx:Cx := { P,w0:=w,F0:=F,inb:=λb=>∃k bi,β k=some bi/\bi.blk=some b,nt:=fn.ntmps,gl:=G,β0:=β,d0:=hd0 }
 have hlen:aS.length=vals.size:=by simpa using hargs.length
 have lookAs:∀t v,jB (qD 0 aS) t=some v->aS[t]?=some v:=by
  intro t v h;simpa [wI]using h
 have lookIns:∀t v,jB (qD 0 ins) t=some v->ins[t]?=some v:=by
  intro t v h;simpa [wI]using h
 have R0:Rel cx β F (jB (qD 0 aS)) (jB (qD 0 ins)) { tmps:=vals++Array.replicate (fn.ntmps-vals.size) undef,defers:=[] } w:=by
  refine⟨by simp[cx];omega,rfl,λt v hv=>?_,λid o ho=>?_,λid hn=>?_,λi j bi bj b oi oj h1 h2 h3 h4 _ _ _ _=>fits.inj i j bi bj b h1 h2 h3 h4,rfl,rfl,rfl,Nat.le_refl _,λ_ _ _=>rfl,λid z es full bi b h1 h2 h3=>.inr ⟨?_,id,bi,h2,h3⟩,λb hb=>?_,λb hb=>?_,env.Fw,λ_ _=>Iff.rfl,λid bi b h1 h2=>(fits.blt id bi b h1 h2).1,λg cs hg=>?_,λ_ _ h=>h,env.gs⟩
  .obtain⟨x,h1,h2⟩:=hargs.get' t v (lookAs t v hv);refine⟨x,?_,h2⟩;have hlt:t<vals.size:=by
    have:=(List.getElem?_eq_some_iff.1 (lookAs t v hv)).1;omega
   rw[Array.getElem?_append_left hlt];simpa using h1
  .obtain⟨bi,h1,h2,_⟩:=fits.ok id o (lookIns id o ho);exact⟨bi,h1,h2⟩
  .refine fits.dom id ?_;rcases Nat.lt_or_ge id ins.length with h1|h1
   .rw[wI]at hn;simp[h1]at hn
   .exact h1
  .have:=(List.getElem?_eq_some_iff.1 (lookIns id _ h1)).1;omega
  .obtain⟨k,bi,h1,h2⟩:=hb;exact(fits.blt k bi b h1 h2).2
  .obtain⟨k,bi,h1,h2⟩:=hb;exact(fits.blt k bi b h1 h2).1
  .exact(env.gl g cs hg).mono (λ_ _ h=>by cases h) (λ_ h=>h) (λ_ _=>rfl)
 refine calls_of_wp hf hb (AC.sound (cx:=cx) ht hmx hann h R0 (λe fs hs βR FR0 a w' hq R0'=>?_));have fin:((qYn fz).wp hs (λfw _=>((rsQ fs rs).bind λvs=>jD5 ins.length vs).wp (zAv hs fw) (λp _=>p.1=r/\p.2=outs)))->a.defers=[]/\∃v,(results fn a.tmps).run P w'=.ok v w'/\∃x β' F',Ending.returned v=.returned x/\qLw w β F ins r outs x β' F' w':=by
  rintro⟨fw,lf,hfz,hq⟩;obtain⟨FR,R,_⟩:=Rel.freezeAll hfz R0' (λid _=>.inl rfl);rw[<-qHf]at R;rw[Q.wp_bind]at hq;obtain⟨vs,l0,hvs,⟨r',outs'⟩,l,hrun,e1,e2⟩:=hq;obtain⟨xs,hxs,hall⟩:=qL5 (cx:=cx) R hrs hvs;refine⟨R.dfr,_,qIo hxs,?_⟩;simp only at e1 e2;subst e1 e2;unfold jD5 at hrun;obtain⟨us,l1,l2,hp,hrun,_⟩:=qS hrun;obtain⟨q,l3,l4,hqq,hrun,_⟩:=qS hrun;obtain⟨hsub,hrun⟩:=qM hrun;obtain⟨e,_⟩:=qE hrun;simp only[Prod.mk.injEq]at e;obtain⟨rfl,rfl⟩:=e;obtain⟨ids,obs⟩:=q;simp only at hsub⊢;obtain⟨t,htt⟩:=qPf (s:=0) (m:=ins.length) (n:=40+ins.length) (rest:=qPh us) (by simpa [range_eq_range']using hqq);obtain⟨hnd,hlo,hG,hin,_,_⟩:=qQn hqq sM rfl (by intro k id o h;simp at h) sM;have hidk:∀k,k<ins.length->ids[k]?=some k:=by
   intro k hk;rw[htt,getElem?_append_left (by simpa using hk)];simp[hk]
  have hlive:∀(k id:Nat),ids[k]?=some id->∃z es full,jB (zAv hs fw) id=some (.live z es true full):=by
   intro k id hk;have hkl:k<obs.length:=by rw[<-hlo];exact(List.getElem?_eq_some_iff.1 hk).1
   obtain⟨z,es,es',full,_,g1,_⟩:=hG k id obs[k] hk (by simp[hkl]);exact⟨z,es,full,g1⟩
  have hβk:∀k bi,β k=some bi->βR k=some bi:=R.ext0;have hklt:∀k bi,β k=some bi->k<ins.length:=by
   intro k bi h;rcases Nat.lt_or_ge k ins.length with h1|h1
   .exact h1
   .rw[fits.dom k h1]at h;cases h
  have hus:xU (qR βR FR w') us xs:=by
   obtain⟨g1,g2⟩:=qLm hp;refine qVt (by rw[g1];exact hall.length.symm) (λi c u hc hu=>?_);have hi:i<vs.length:=by rw[<-g1];exact(List.getElem?_eq_some_iff.1 hc).1
   obtain⟨li,m1⟩:=g2 i vs[i] c (by simp[hi]) hc;obtain⟨y,h1,h2⟩:=hall.get' i vs[i] (by simp[hi]);rw[hu]at h1;cases h1;exact qF3 R m1 h2
  have hren:xU (qR (qDv ids βR) FR w') (qFn (λr=>ids.idxOf r) us) xs:=by
   refine qVt (by rw[zJ];simpa using hus.length.symm) (λi c u hc hu=>?_);rw[zJ,getElem?_map,Option.map_eq_some_iff]at hc;obtain⟨c0,hc0,rfl⟩:=hc;obtain⟨y,h1,h2⟩:=hus.get' i c0 hc0;rw[hu]at h1;cases h1;refine qWq h2 (λr hr=>?_);have:=all_eq_true.1 hsub r (kU (mem_of_getElem? hc0) hr);simpa using this
  have hfits:zVp (qDv ids βR) FR w' (obs.map (Ob.ren λr=>ids.idxOf r)):=by
   refine⟨λk o ho=>?_,λk hk=>?_,λi j bi bj b h1 h2 h3 h4=>?_,λk bi b h1 h2=>?_⟩
   .rw[getElem?_map,Option.map_eq_some_iff]at ho;obtain⟨o',ho',rfl⟩:=ho;have hkl:k<ids.length:=by rw[hlo];exact(List.getElem?_eq_some_iff.1 ho').1
    obtain⟨z,es,es',full,lr,g1,g2,g3⟩:=hG k ids[k] o' (by simp[hkl]) ho';obtain⟨bi,hb,hok⟩:=R.hp _ _ g1;refine⟨bi,by simp[qDv,hkl,hb],?_,?_⟩
    .rw[g2];have l1:=qPn g3;have l2:(qFn (λr=>ids.idxOf r) es').length=es'.length:=by rw[zJ];simp
     have hii:∀r∈qPh es',r∈ids:=λr hr=>hin o' (mem_of_getElem? ho') z es' true full g2 r (zLe r hr)
     unfold qG9 at hok⊢;obtain⟨k1,k2,k3⟩:=hok;refine⟨k1,λh=>by rw[l2,l1];exact k2 h,?_⟩;cases hb:bi.blk with
     |none=>
      simp only[hb]at k3⊢;refine⟨?_,k3.2⟩;rw[k3.1]at l1;exact eq_nil_of_length_eq_zero (by rw[l2,l1];rfl)
     |some b=>
      simp only[hb]at k3⊢;obtain⟨c,e,fz,m1,m2,m3,m4,m5,m6,m7⟩:=k3;exact⟨c,e,fz,m1,m2,m3,by rw[l2,l1];exact m4,m5,zEw (qSk R g3 m6).2 hii,m7⟩
    .rw[g2];exact⟨z,_,full,rfl⟩
   .rw[length_map,<-hlo]at hk;simp[qDv,getElem?_eq_none hk]
   .unfold qDv at h1 h2;rw[Option.bind_eq_some_iff]at h1 h2;obtain⟨x,hx,h1⟩:=h1;obtain⟨y,hy,h2⟩:=h2;obtain⟨z1,e1,f1,m1⟩:=hlive i x hx;obtain⟨z2,e2,f2,m2⟩:=hlive j y hy;have:=R.inj x y bi bj b _ _ h1 h2 h3 h4 m1 m2 sM sM;subst this;have hi:i<ids.length:=(List.getElem?_eq_some_iff.1 hx).1;have hj:j<ids.length:=(List.getElem?_eq_some_iff.1 hy).1;exact qAi hnd hi hj (by rw[getElem?_eq_getElem hi]at hx;rw[getElem?_eq_getElem hj]at hy;rw[Option.some.inj hx,Option.some.inj hy])
   .unfold qDv at h1;rw[Option.bind_eq_some_iff]at h1;obtain⟨x,hx,h1⟩:=h1;obtain⟨z1,e1,f1,m1⟩:=hlive k x hx;exact⟨R.blt x bi b h1 h2,R.notF m1 h1 h2⟩
  refine⟨_,qDv ids βR,FR,rfl,hfits,qQy hren,λk hk=>?_,λk bi b hk h1 h2=>?_,λb hb=>R.F0 b hb,R.Fw,R.os,R.tape,R.output,R.size,λb hb hk=>R.ext b hb (λ⟨k,bi,h1,h2⟩=>hk k bi h1 h2)⟩
  .obtain⟨bi,h1,_⟩:=fits.ok k ins[k] (by simp[hk]);simp[qDv,hidk k hk,hβk k bi h1,h1]
  .unfold qDv at h1;rw[Option.bind_eq_some_iff]at h1;obtain⟨id,hid,h1⟩:=h1;obtain⟨z,es,full,hl⟩:=hlive k id hid;rcases R.old id z es full bi b hl h1 h2 with h|⟨_,k0,bi0,g1,g2⟩
   .exact h
   .exfalso;have hk0:=hklt k0 bi0 g1;obtain⟨z0,es0,full0,hl0⟩:=hlive k0 k0 (hidk k0 hk0);have e:=R.inj id k0 bi bi0 b _ _ h1 (hβk k0 bi0 g1) h2 g2 hl hl0 sM sM;subst e;have hi1:k<ids.length:=(List.getElem?_eq_some_iff.1 hid).1;have hi2:id<ids.length:=(List.getElem?_eq_some_iff.1 (hidk id hk0)).1;have:=qAi hnd hi1 hi2 (by
     have a1:=hid;have a2:=hidk id hk0;rw[getElem?_eq_getElem hi1]at a1;rw[getElem?_eq_getElem hi2]at a2;rw[Option.some.inj a1,Option.some.inj a2])
    omega
 cases e with
 |normal=>exact fin hq
 |ret=>exact fin hq
 |exit id=>exact hq.elim
def zE4 (tab:Tab)(gl:Gl)(a:AC):Nat->Fs->Hs->xV->Prop
 |0,_,_,_=>False
 |n+1,fs,hs,Qx=>a.wp tab gl fs hs (λe fs' hs'=>match e with|.normal=>zE4 tab gl a n fs' hs' Qx|e=>Qx e fs' hs')
theorem qJ {tab:Tab}{gl:Gl}{a:AC}(n:Nat){fs:Fs}{hs:Hs}{Qx:xV}(h:zE4 tab gl a n fs hs Qx):qYv tab gl a fs hs Qx:=by
 refine qLk (ι := { p:Nat×Fs×Hs // zE4 tab gl a p.1 p.2.1 p.2.2 Qx }) (λi=>i.1.2) (λi=>i.1.1) ⟨(n,fs,hs),h⟩ qL.refl (λi=>?_);obtain⟨⟨m,f,g⟩,hi⟩:=i;cases m with
 |zero=>exact hi.elim
 |succ m=>
  refine zX (λe f' g' hq=>?_) hi;cases e with
  |normal=>exact⟨⟨(m,f',g'),hq⟩,Nat.lt_succ_self m,qL.refl⟩
  |exit id=>exact hq
  |ret=>exact hq
end Go.Eng
end
section
namespace Go.Eng
open List
variable {tab:Tab}{gl:Gl}{fs:Fs}{hs:Hs}{Qx:xV}
theorem jHl {g:V->Q V}:rdL g []=.ret []:=eR
theorem zCg {g:V->Q V}{c:V}{r:List V}:rdL g (c::r)=(g c).bind λx=>(rdL g r).bind λy=>.ret (x::y):=eR
theorem jHr {n:Nat}{x:T}:rdV n (.t x)=.ret (.t x):=by cases n<;>rfl
theorem jHp {n:Nat}:rdV n .nil=.ret .nil:=by cases n<;>rfl
theorem jO3 {n:Nat}{cs:List T}:rdV n (.ro cs)=.ret (.ro cs):=by cases n<;>rfl
theorem jHq {n id i f:Nat}:rdV n (.ref id i f)=.ret (.ref id i f):=by cases n<;>rfl
theorem jO0 {n g id i f:Nat}:rdV n (.bd g id i f)=.ret (.bd g id i f):=by cases n<;>rfl
theorem jO1 {n:Nat}:rdV n .bq=.ret .bq:=by cases n<;>rfl
attribute [go_sem] jO1
attribute [go_sem] jO0
theorem jHs {n:Nat}{cs:List V}:rdV n (.tup cs)=.ret (.tup cs):=by cases n<;>rfl
theorem jHo {n:Nat}{cs:List V}:rdV (n+1) (.agg cs)=(rdL (rdV n) cs).bind λp=>.ret (V.mk p):=eR
theorem jO2 {n:Nat}{f:FuncId}{cs:List V}:rdV (n+1) (.fn f cs)=(rdL (rdV n) cs).bind λp=>.ret (.fn f p):=eR
theorem jO4 {n id off len:Nat}:rdV (n+1) (.sl id off len)=.get id fun
  |.live _ _ false _=>(zN (n+1) (.sl id off len)).bind λp=>Q.assert (p.2=[]) (.ret p.1)
  |_=>.ret (.sl id off len):=eR
theorem zZi {es:List V}:zVz es=match qFl es with|some _=>.ret es|none=>rdL (rdV 4) es:=eR
theorem zNt {α:Type}{q:Q α}:(q.bind λx=>Q.ret x)=q:=by
 induction q with
 |ret a=>rfl
 |fail=>rfl
 |get id k ih=>simp only[Q.bind,ih]
 |free id k ih=>simp only[Q.bind,ih]
theorem jOz {n:Nat}{ts:List T}:rdL (rdV n) (ts.map .t)=.ret (ts.map .t):=by
 induction ts with
 |nil=>rfl
 |cons x r ih=>simp[rdL,jHr,ih,Q.bind]
theorem jHk {g:V->Q V}{a b:List V}:rdL g (a++b)=(rdL g a).bind λx=>(rdL g b).bind λy=>.ret (x++y):=by
 induction a with
 |nil=>simp[rdL,Q.bind,zNt]
 |cons c r ih=>simp only[cons_append,rdL,ih,qF1,Q.bind]
section
variable {ρ:Nat->Nat}{vt ko:List Nat}
theorem jQx:vEq ρ vt ko .nil .nil=True:=by simp[vEq]
theorem jQz {x:T}:vEq ρ vt ko .nil (.t x)=(x=.sl []):=by simp[vEq]
theorem jQy {id off len:Nat}:vEq ρ vt ko .nil (.sl id off len)=((vt.contains id=true/\off=0)/\len=0):=by simp only[vEq]
theorem jQt {cs cs':List V}:vEq ρ vt ko (.agg cs) (.agg cs')=zCz ρ vt ko cs cs':=by simp only[vEq]
theorem jQu {cs:List V}{ts:List T}:vEq ρ vt ko (.agg cs) (.t (.agg ts))=zCz ρ vt ko cs (ts.map .t):=by simp only[vEq]
theorem jQw {f f':FuncId}{cs cs':List V}:vEq ρ vt ko (.fn f cs) (.fn f' cs')=(f=f'/\zCz ρ vt ko cs cs'):=by simp only[vEq]
theorem jQ4 {x y:T}:vEq ρ vt ko (.t x) (.t y)=(x=y):=by
 have:vEq ρ vt ko (.t x) (.t y)=(V.t x=(V.t y).ren ρ/\((V.t y).ids.all λi=>ko.contains i)=true):=by cases y<;>simp only[vEq]
 rw[this];simp[V.ren,V.ids]
theorem jQ2 {i j k i' j' k':Nat}:vEq ρ vt ko (.ref i j k) (.ref i' j' k')=((i=ρ i'/\j=j'/\k=k')/\ko.contains i'=true):=by
 simp[vEq,V.ren,V.ids]
theorem jQ1:vEq ρ vt ko .bq .bq=True:=by
 simp[vEq,V.ren,V.ids]
attribute [go_sem] jQ1
theorem jQv {g i j k g' i' j' k':Nat}:vEq ρ vt ko (.bd g i j k) (.bd g' i' j' k')=((g=g'/\i=ρ i'/\j=j'/\k=k')/\ko.contains i'=true):=by
 simp[vEq,V.ren,V.ids]
attribute [go_sem] jQv
theorem jQ3 {i j k i' j' k':Nat}:vEq ρ vt ko (.sl i j k) (.sl i' j' k')=((i=ρ i'/\j=j'/\k=k')/\ko.contains i'=true):=by
 simp[vEq,V.ren,V.ids]
theorem jQ0 {cs cs':List T}:vEq ρ vt ko (.ro cs) (.ro cs')=(cs=cs'):=by
 simp[vEq,V.ren,V.ids]
theorem jBe:zCz ρ vt ko [] []=True:=by simp only[zCz]
theorem zU4 {c c':V}{r r':List V}:zCz ρ vt ko (c::r) (c'::r')=(vEq ρ vt ko c c'/\zCz ρ vt ko r r'):=by simp only[zCz]
theorem zXe {u es':List V}:jF4 ρ vt ko u es'=match qFl u with
 |some _=>u=qFn ρ es'/\((qPh es').all λi=>ko.contains i)=true
 |none=>zCz ρ vt ko u es':=eR
theorem zOi {v v':V}:zOg hs ρ vt ko (some v) v'=(rdV 4 v).wp hs (λu _=>vEq ρ vt ko u v'):=eR
theorem zOh {v':V}:zOg hs ρ vt ko none v'=False:=eR
theorem zMv:qMp fs hs ρ vt ko []=True:=eR
theorem zG8 {t:Nat}{v':V}{r:Fs}:qMp fs hs ρ vt ko ((t,v')::r)=(zOg hs ρ vt ko (jB fs t) v'/\qMp fs hs ρ vt ko r):=eR
theorem zV2:zVq hs ρ vt ko []=True:=eR
theorem zPm {i:Nat}{o':Ob}{r:Hs}:zVq hs ρ vt ko ((i,o')::r)=(obC hs ρ vt ko (jB hs (ρ i)) o'/\zVq hs ρ vt ko r):=eR
theorem zY3 {z z':Nat}{es es':List V}{wr wr' full full':Bool}:obC hs ρ vt ko (some (.live z es wr full)) (.live z' es' wr' full') =
  (z=z'/\wr=wr'/\(full'=true->full=true)/\(zVz es).wp hs (λu _=>jF4 ρ vt ko u es')):=eR
theorem zY2 {o:Ob}:obC hs ρ vt ko (some o) .dead=True:=by cases o<;>rfl
end
theorem zXy {es:List V}:jGd es=match qFl es with|some _=>[]|none=>qPh es:=eR
theorem zRq {n:Nat}{ids:List Nat}{obs:List Ob}:qQm n [] ids obs=.ret (ids,obs):=by cases n<;>rfl
theorem zNg {n id:Nat}{todo ids:List Nat}{obs:List Ob}:qQm (n+1) (id::todo) ids obs=if ids.contains id then qQm n todo ids obs else
  .get id fun
   |.live z es true full=>(zVz es).bind λes'=>qQm n (todo++jGd es') (ids++[id]) (obs++[.live z es' true full])
   |_=>.fail:=eR
theorem zZ5 {n:Nat}{vs:List V}:jD5 n vs=(rdL (rdV 4) vs).bind λus=>(qQm (40+n) (List.range n++qPh us) [] []).bind λq=>
  Q.assert ((qPh us).all (λi=>q.1.contains i)=true) (.ret (jD4 (qFn (λr=>q.1.idxOf r) us),q.2.map (Ob.ren λr=>q.1.idxOf r))):=eR
theorem zIl {fz:List Nat}{rs:List (Nat×Option (Nat×Bool))}{n:Nat}{R:V->List Ob->Prop}:xO fz rs n R .normal fs hs=(qYn fz).wp hs (λfw _=>((rsQ fs rs).bind λvs=>jD5 n vs).wp (zAv hs fw) (λp _=>R p.1 p.2)):=eR
theorem zZ1 {fz:List Nat}{rs:List (Nat×Option (Nat×Bool))}{n:Nat}{R:V->List Ob->Prop}:xO fz rs n R .ret fs hs=(qYn fz).wp hs (λfw _=>((rsQ fs rs).bind λvs=>jD5 n vs).wp (zAv hs fw) (λp _=>R p.1 p.2)):=eR
def unK (tab:Tab)(gl:Gl)(a:AC)(n:Nat)(Qx:xV):xV:=λe fs' hs'=>match e with|.normal=>zE4 tab gl a n fs' hs' Qx|e=>Qx e fs' hs'
theorem qF {a:AC}{n:Nat}:zE4 tab gl a (n+1) fs hs Qx=a.wp tab gl fs hs (unK tab gl a n Qx):=eR
theorem zOp {a:AC}{n:Nat}:unK tab gl a n Qx .normal fs hs=zE4 tab gl a n fs hs Qx:=eR
theorem jA8 {a:AC}{n id:Nat}:unK tab gl a n Qx (.exit id) fs hs=Qx (.exit id) fs hs:=eR
theorem jJb {a:AC}{n:Nat}:unK tab gl a n Qx .ret fs hs=Qx .ret fs hs:=eR
@[congr] theorem jGo {a:AC}{n:Nat}{fs':Fs}{hs':Hs}(h1:fs=fs')(h2:hs=hs'):zE4 tab gl a n fs hs Qx=zE4 tab gl a n fs' hs' Qx:=by rw[h1,h2]
theorem zE3 {ι:Type}{I:ι->Fs×Hs}{μ:ι->Nat}{i:ι}:zYi I μ i Qx .normal fs hs=∃j,μ j<μ i/\qL fs hs (I j).1 (I j).2:=eR
theorem zNp {ι:Type}{I:ι->Fs×Hs}{μ:ι->Nat}{i:ι}{id:Nat}:zYi I μ i Qx (.exit id) fs hs=Qx (.exit id) fs hs:=eR
theorem zSe {ι:Type}{I:ι->Fs×Hs}{μ:ι->Nat}{i:ι}:zYi I μ i Qx .ret fs hs=Qx .ret fs hs:=eR
attribute [go_sem] jHl zCg jHr jHp jO3 jHq jHs jHo jO2 jO4 zZi jOz jHk jQx jQz jQy jQt jQu jQw jQ4 jQ2 jQ3 jQ0 jBe zU4 zXe zOi zOh
 zMv zG8 zV2 zPm zY3 zY2 zXy zRq zNg zZ5 zIl zZ1 zOp jA8 jJb zE3 zNp zSe
theorem jUa {p:Prop}[Decidable p](h:p):decide p=true:=decide_eq_true h
theorem jT9 {p:Prop}[Decidable p](h:¬ p):decide p=false:=decide_eq_false h
theorem jMp {a b:Int}(h:a=b):(a==b)=true:=by simp[h]
theorem jMo {a b:Int}(h:¬ a=b):(a==b)=false:=by simp[h]
theorem jMr {a b:Int}(h:¬ a=b):(a != b)=true:=by simp[h]
theorem jMq {a b:Int}(h:a=b):(a != b)=false:=by simp[h]
attribute [go_sem low] jUa jT9 jX8 jMp jMo jMr jMq
theorem zE6 {α γ:Type}{f:α->γ}{l:List α}{x:α}{r:List γ}:List.map f l++f x::r=List.map f (l++[x])++r:=sM
theorem zIc {α γ:Type}{f:α->γ}{l r:List α}:List.map f l++List.map f r=List.map f (l++r):=sM
theorem zQu {α γ:Type}{f:α->γ}{l:List α}{n:Nat}:List.drop n (List.map f l)=List.map f (List.drop n l):=sM
theorem zUy {α γ:Type}{f:α->γ}{l:List α}{n:Nat}:List.take n (List.map f l)=List.map f (List.take n l):=sM
theorem jAx {α γ:Type}{f:α->γ}{l:List α}{n:Nat}{x:α}:List.set (List.map f l) n (f x)=List.map f (List.set l n x):=by
 rw[map_set]
theorem zXs {α γ:Type}{f:α->γ}{l:List α}{n:Nat}:(List.map f l)[n]?=(l[n]?).map f:=getElem?_map
theorem jWo {n:Nat}{x:T}:List.replicate n (V.t x)=List.map V.t (List.replicate n x):=sM
theorem jWn {n:Nat}{x:UInt8}:List.replicate n (qA x)=List.map qA (List.replicate n x):=sM
theorem jWp {n:Nat}{x:UInt32}:List.replicate n (jG x)=List.map jG (List.replicate n x):=sM
theorem yE8 {α:Type}{x:α}:List.replicate 0 x=[]:=eR
theorem yE9 {α:Type}{x:α}:List.replicate 1 x=[x]:=eR
theorem yFa {α:Type}{x:α}:List.replicate 2 x=[x,x]:=eR
theorem yFb {α:Type}{x:α}:List.replicate 3 x=[x,x,x]:=eR
theorem yFc {α:Type}{x:α}:List.replicate 4 x=[x,x,x,x]:=eR
theorem yFd {α:Type}{x:α}:List.replicate 5 x=[x,x,x,x,x]:=eR
theorem yFe {α:Type}{x:α}:List.replicate 6 x=[x,x,x,x,x,x]:=eR
theorem yFf {α:Type}{x:α}:List.replicate 7 x=[x,x,x,x,x,x,x]:=eR
theorem yFg {α:Type}{x:α}:List.replicate 8 x=[x,x,x,x,x,x,x,x]:=eR
theorem jFz {es:List T}:qDm (.t (.sl es))=.ret (es.map .t):=eR
theorem zQw:qDm .nil=.ret []:=eR
theorem zXc {id off len:Nat}:qDm (.sl id off len)=.get id fun
  |.live _ es _ _=>Q.assert (off+len<=es.length) (.ret ((es.drop off).take len))
  |.dead=>.fail:=eR
theorem jYp {z:Nat}{ts:List T}:zOk z (ts.map .t)=qZ3 z ts:=by
 induction ts with
 |nil=>rfl
 |cons x r ih=>
  have:zOk z (V.t x::r.map .t)=((V.t x).cells.length==z&&zOk z (r.map .t)):=rfl;rw[map_cons,this,ih];have:qZ3 z (x::r)=(x.cells.length==z&&qZ3 z r):=rfl;rw[this,qNa,length_map]
theorem jJz {z:Nat}:zOk z []=true:=eR
theorem jBx {z:Nat}{x:V}{r:List V}:zOk z (x::r)=(x.cells.length==z&&zOk z r):=eR
theorem zZ7:jJ7 []=true:=eR
theorem jPe {b:UInt8}{r:List T}:jJ7 (qA b::r)=jJ7 r:=eR
theorem jBw {z:Nat}:qZ3 z []=true:=eR
theorem zVn {z:Nat}{x:T}{r:List T}:qZ3 z (x::r)=(x.cells.length==z&&qZ3 z r):=eR
theorem zDw {α:Type}{z:Nat}{f:α->T}(h:∀x,(f x).cells.length=z){l:List α}:qZ3 z (l.map f)=true:=by
 simp[qZ3,h]
theorem jSn {l:List UInt8}:qZ3 1 (l.map qA)=true:=zDw (f:=qA) (λ_=>rfl)
theorem jSo {l:List UInt32}:qZ3 1 (l.map jG)=true:=zDw (f:=jG) (λ_=>rfl)
theorem zM5 {es:List V}:qE3 es=match qFl es with|some _=>.ret (es,[])|none=>qDk (zN 3) es:=eR
theorem zCs {α:Type}{l xs:List α}:zY l 0 xs=xs++l.drop xs.length:=by simp[zY]
theorem zCr {α:Type}{x:α}{l xs:List α}{i:Nat}:zY (x::l) (i+1) xs=x::zY l i xs:=by
 simp[zY,show i+1+xs.length=i+xs.length+1 by omega]
def zQ3 (b:Bool)(z:List V)(pl:List (Nat×Nat))(vs:List V):Option (List V):=if b then qYs z pl vs else none
@[congr] theorem jF6 {b b':Bool}{z:List V}{pl:List (Nat×Nat)}{vs:List V}(h:b=b'):zQ3 b z pl vs=zQ3 b' z pl vs:=by rw[h]
theorem zM9 {z:List V}{pl:List (Nat×Nat)}{vs:List V}:zQ3 true z pl vs=qYs z pl vs:=eR
theorem zQ4 {z:List V}:qYs z [] []=some z:=eR
theorem zNa {z:List V}{off n:Nat}{pl:List (Nat×Nat)}{v:V}{vs:List V}:qYs z ((off,n)::pl) (v::vs)=zQ3 (decide (v.cells.length=n/\off+n<=z.length)&&v.plain) (zY z off v.cells) pl vs:=by
 simp only[qYs,zQ3,Bool.and_eq_true,decide_eq_true_eq,and_assoc]
def zEp (b:Bool)(z:Nat)(es:List V)(ix:List Nat)(vs:List V):Option (List V):=if b then qYr z es ix vs else none
@[congr] theorem jC3 {b b':Bool}{z:Nat}{es:List V}{ix:List Nat}{vs:List V}(h:b=b'):zEp b z es ix vs=zEp b' z es ix vs:=by rw[h]
theorem zH0 {z:Nat}{es:List V}{ix:List Nat}{vs:List V}:zEp true z es ix vs=qYr z es ix vs:=eR
theorem zQ2 {z:Nat}{es:List V}:qYr z es [] []=some es:=eR
theorem zM8 {z i:Nat}{es:List V}{ix:List Nat}{v:V}{vs:List V}:qYr z es (i::ix) (v::vs)=zEp (decide (v.cells.length=z/\i<es.length)&&v.plain) z (es.set i v) ix vs:=by
 simp only[qYr,zEp,Bool.and_eq_true,decide_eq_true_eq,and_assoc]
theorem zY7:qWx []=true:=eR
theorem zSw {x:V}{r:List V}:qWx (x::r)=(x.single&&qWx r):=eR
theorem zY5 {a b:List V}:qWx (a++b)=(qWx a&&qWx b):=by simp[qWx]
theorem zB9 {α:Type}{f:α->T}(h:∀x,(V.t (f x)).single=true){l:List α}:qWx ((l.map f).map V.t)=true:=by
 simp only[qWx,all_eq_true];intro x hx;simp only[map_map,mem_map,Function.comp]at hx;obtain⟨a,_,rfl⟩:=hx;exact h a
theorem jOh {l:List UInt8}:qWx ((l.map qA).map V.t)=true:=zB9 (f:=qA) (λ_=>rfl)
theorem jOi {l:List UInt32}:qWx ((l.map jG).map V.t)=true:=zB9 (f:=jG) (λ_=>rfl)
theorem zN9 {k:IntKind}{n:Int}:(V.t (T.int k n)).single=true:=eR
theorem zIu {n:UInt8}:(V.t (qA n)).single=true:=eR
theorem zOe {n:UInt32}:(V.t (jG n)).single=true:=eR
theorem zIt {n:Bool}:(V.t (T.bool n)).single=true:=eR
theorem zOc {n:ByteArray}:(V.t (T.str n)).single=true:=eR
theorem zOd {n:List T}:(V.t (T.sl n)).single=true:=eR
theorem zIw {n:List T}:(V.t (T.agg n)).single=false:=eR
theorem zN8 {n:List V}:(V.agg n).single=false:=eR
theorem zUp {i j k:Nat}:(V.sl i j k).single=true:=eR
theorem zOb {i j k:Nat}:(V.ref i j k).single=true:=eR
theorem zUn {g i j k:Nat}:(V.bd g i j k).single=true:=eR
theorem zUo:V.bq.single=true:=eR
attribute [go_sem] zUo
attribute [go_sem] zUn
theorem zOa:V.nil.single=true:=eR
theorem zOf {n b:Nat}:qDy n b=(n<=9223372036854775807/\n*b<=140737488355328):=eR
theorem yEi {l:List UInt8}{i:Nat}(h:i<l.length):l[i]?=some (l.getD i 0):=by simp[List.getD,h]
theorem jUm {l:List UInt32}{i:Nat}(h:i<l.length):l[i]?=some (l.getD i 0):=by simp[List.getD,h]
theorem jN4 {a b:Nat}:(a:Int)+(b:Int)=((a+b:Nat):Int):=rfl
theorem jGt {a n:Nat}:(a:Int)+(no_index (@OfNat.ofNat Int n _))=((a + @OfNat.ofNat Nat n (instOfNatNat n):Nat):Int):=rfl
theorem zYu {a n:Nat}:(no_index (@OfNat.ofNat Int n _))+(a:Int)=((@OfNat.ofNat Nat n (instOfNatNat n)+a:Nat):Int):=rfl
theorem jN6 {a b:Nat}:(a:Int)*(b:Int)=((a*b:Nat):Int):=rfl
theorem jGv {a n:Nat}:(no_index (@OfNat.ofNat Int n _))*(a:Int)=((@OfNat.ofNat Nat n (instOfNatNat n)*a:Nat):Int):=rfl
theorem jGx {a n:Nat}:(a:Int)*(no_index (@OfNat.ofNat Int n _))=((a * @OfNat.ofNat Nat n (instOfNatNat n):Nat):Int):=rfl
theorem jG0 {a n:Nat}:(a:Int).tmod (no_index (@OfNat.ofNat Int n _))=((a % @OfNat.ofNat Nat n (instOfNatNat n):Nat):Int):=rfl
theorem jGz {a n:Nat}:(a:Int).tdiv (no_index (@OfNat.ofNat Int n _))=((a / @OfNat.ofNat Nat n (instOfNatNat n):Nat):Int):=rfl
theorem jGu {a n:Nat}:(a:Int).fdiv (no_index (@OfNat.ofNat Int n _))=((a / @OfNat.ofNat Nat n (instOfNatNat n):Nat):Int):=by
 rw[Int.fdiv_eq_ediv_of_nonneg _ (by exact Int.natCast_nonneg n)];rfl
theorem jN7 {a b:Nat}(h:b<=a):(a:Int)-(b:Int)=((a-b:Nat):Int):=oM
theorem jGy {a n:Nat}(h:@OfNat.ofNat Nat n (instOfNatNat n)<=a):(a:Int)-(no_index (@OfNat.ofNat Int n _))=((a - @OfNat.ofNat Nat n (instOfNatNat n):Nat):Int):=by
 have:(@OfNat.ofNat Int n _:Int)=((@OfNat.ofNat Nat n (instOfNatNat n):Nat):Int):=rfl;rw[this];omega
theorem jGw {a n:Nat}(h:a <= @OfNat.ofNat Nat n (instOfNatNat n)):(no_index (@OfNat.ofNat Int n _))-(a:Int)=((@OfNat.ofNat Nat n (instOfNatNat n)-a:Nat):Int):=by
 have:(@OfNat.ofNat Int n _:Int)=((@OfNat.ofNat Nat n (instOfNatNat n):Nat):Int):=rfl;rw[this];omega
theorem jN5 {n:Nat}:(no_index (@OfNat.ofNat Int n _)).toNat=@OfNat.ofNat Nat n (instOfNatNat n):=rfl
attribute [go_sem] zY7 zSw zY5 jOh jOi zN9 zIu zOe zIt zOc zOd zIw zN8 zUp zOb zOa
attribute [go_sem] zM5 zCs zCr zM9 zQ4 zNa zH0 zQ2 zM8
attribute [go_sem] yE8 yE9 yFa yFb yFc yFd yFe yFf yFg drop_replicate jFz zQw zXc jYp jJz jBx zZ7 jPe jBw zVn jSn jSo zOf jWo jWn jWp
attribute [go_sem] idxOf_cons idxOf_nil cond_true cond_false Ob.live.injEq
theorem yFu {n:Int}(h : -9223372036854775808<=n/\n<9223372036854775808):IntKind.i64.wrap n=n:=xP h
theorem yFw {n:Int}(h:0<=n/\n<18446744073709551616):IntKind.u64.wrap n=n:=qIy h
theorem yFv {n:Int}(h:0<=n/\n<4294967296):IntKind.u32.wrap n=n:=zJx h
theorem jP6 {a:Nat}{k k':IntKind}{b:Int}(h:0<=b/\b<=64)(hk:k.bits=64):qLz .shr k (a:Int) k' b=some (.int k ((a/2^b.toNat:Nat):Int)):=by
 change (if b<0 then none else some (T.int k ((a:Int).fdiv (2^min b.toNat k.bits))))=_;rw[if_neg oM,hk,show min b.toNat 64=b.toNat by omega,Int.fdiv_eq_ediv_of_nonneg _ (Int.pow_nonneg oM)]
 norm_cast
theorem jIy {a:Nat}{k':IntKind}{b:Int}(h:0<=b/\b<=64):qLz .shr .u64 (a:Int) k' b=some (.int .u64 ((a/2^b.toNat:Nat):Int)):=jP6 h rfl
theorem zUm {a:Nat}{k':IntKind}{b:Int}(h:0<=b/\b<=64):qLz .shr .i64 (a:Int) k' b=some (.int .i64 ((a/2^b.toNat:Nat):Int)):=jP6 h rfl
theorem jQo {m:Nat}:T.int .u8 (IntKind.u8.wrap (m:Int))=qA (UInt8.ofNat m):=by
 unfold qA;congr 1
attribute [go_sem ↓] jIy zUm
end Go.Eng
end
section
namespace Go.Eng
open List
structure Ct where
 α:Type
 aS:α->List V
 ins:α->List Ob
 pre:α->Prop
 r:α->V
 outs:α->List Ob
 inj:∀x y,aS x=aS y->ins x=ins y->r x=r y/\outs x=outs y
open Classical in
noncomputable def Ct.fs (c:Ct):FnS:=λaS ins=>if h:∃x,(c.aS x=aS/\c.ins x=ins)/\c.pre x then some (c.r h.choose,c.outs h.choose) else none
theorem Ct.eq (c:Ct)(x:c.α)(h:c.pre x):c.fs (c.aS x) (c.ins x)=some (c.r x,c.outs x):=by
 have hx:∃y,(c.aS y=c.aS x/\c.ins y=c.ins x)/\c.pre y:=⟨x,⟨rfl,rfl⟩,h⟩;unfold Ct.fs;rw[dif_pos hx];obtain⟨h1,h2⟩:=c.inj _ _ hx.choose_spec.1.1 hx.choose_spec.1.2;rw[h1,h2]
theorem Ct.ok {P:Program}{G:Nat->Option (List T)}{f:FuncId}(c:Ct)(hc:∀args w,(callFunc f args).run P w=.ok (.enter f args) w)(h:∀x,c.pre x->zJz P G f (c.aS x) (c.ins x) (c.r x) (c.outs x)):FOk P G f c.fs:=by
 refine FOk.of hc (λaS ins r outs hs=>?_);unfold Ct.fs at hs;split at hs
 .rename_i hx;cases hs;have h1:=hx.choose_spec;generalize hx.choose=y at h1⊢;obtain⟨⟨rfl,rfl⟩,h3⟩:=h1;exact h y h3
 .cases hs
theorem zD9 {a b:UInt8}(h:qA a=qA b):a=b:=by
 have:=congrArg d8 h;rw[zHt,zHt]at this;exact Option.some.inj this
theorem zMo {a b:UInt32}(h:jG a=jG b):a=b:=by
 have:=congrArg d32 h;rw[zQq,zQq]at this;exact Option.some.inj this
theorem qBv {α γ:Type}{f:α->γ}(hf:∀a b,f a=f b->a=b):∀{l m:List α},l.map f=m.map f->l=m
 |[],[],_=>rfl
 |[],_::_,h=>by simp at h
 |_::_,[],h=>by simp at h
 |a::l,b::m,h=>by
  simp only[map_cons,List.cons.injEq]at h;rw[hf _ _ h.1,qBv hf h.2]
theorem jC {l m:List UInt8}:(l.map qA=m.map qA)=(l=m):=propext ⟨qBv (λ_ _=>zD9),λh=>by rw[h]⟩
theorem zLk {l m:List UInt32}:(l.map jG=m.map jG)=(l=m):=propext ⟨qBv (λ_ _=>zMo),λh=>by rw[h]⟩
theorem zYo {l m:List T}:(l.map V.t=m.map V.t)=(l=m):=propext ⟨qBv (λ_ _ h=>V.t.inj h),λh=>by rw[h]⟩
theorem qQb {a b:UInt8}:(qA a=qA b)=(a=b):=propext ⟨zD9,λh=>by rw[h]⟩
theorem zI0 {a b:UInt32}:(jG a=jG b)=(a=b):=propext ⟨zMo,λh=>by rw[h]⟩
theorem jW5 {x:UInt32}{k:IntKind}{n:Nat}:qJu .shl (jG x) (.int k (no_index (@OfNat.ofNat Int n _)))=if n<32 then some (jG (x <<< UInt32.ofNat n)) else qJu .shl (jG x) (.int k (n:Int)):=by
 split
 .exact qV1 (by assumption)
 .rfl
theorem jW6 {x:UInt32}{k:IntKind}{n:Nat}:qJu .shr (jG x) (.int k (no_index (@OfNat.ofNat Int n _)))=if n<32 then some (jG (x >>> UInt32.ofNat n)) else qJu .shr (jG x) (.int k (n:Int)):=by
 split
 .exact qV2 (by assumption)
 .rfl
theorem jP3 {x:UInt32}{k:IntKind}{n:Nat}(h:n<32):qJu .shl (jG x) (.int k (n:Int))=some (jG (x <<< UInt32.ofNat n)):=qV1 h
theorem jP5 {x:UInt32}{k:IntKind}{n:Nat}(h:n<32):qJu .shr (jG x) (.int k (n:Int))=some (jG (x >>> UInt32.ofNat n)):=qV2 h
theorem qLr {α:Type}{l:List α}{k:Nat}{d:α}(h:k<l.length):l.take (k+1)=l.take k++[l.getD k d]:=by
 rw[take_add_one];simp[List.getD,h]
theorem jDo {x:Int}{m:Nat}(h:m<=64):(BitVec.ofInt 64 x &&& BitVec.ofInt 64 ((2^m-1:Nat):Int)).toNat=(x%((2^m:Nat):Int)).toNat:=by
 have h0:1<=2^m:=Nat.one_le_two_pow;have h2:2^m<=2^64:=Nat.pow_le_pow_right (n:=2) oM h;rw[BitVec.toNat_and,BitVec.toNat_ofInt,BitVec.toNat_ofInt];have h1:(((2^m-1:Nat):Int)%((2^64:Nat):Int)).toNat=2^m-1:=by
  rw[Int.emod_eq_of_lt oM oM];simp
 rw[h1,Nat.and_two_pow_sub_one_eq_mod];have hd:((2^m:Nat):Int) ∣ ((2^64:Nat):Int):=Int.natCast_dvd_natCast.2 (Nat.pow_dvd_pow 2 h);have e:x%((2^64:Nat):Int)%((2^m:Nat):Int)=x%((2^m:Nat):Int):=Int.emod_emod_of_dvd x hd;rw[<-e];have hx0:0<=x%((2^64:Nat):Int):=Int.emod_nonneg _ oM;generalize x%((2^64:Nat):Int)=y at hx0;obtain⟨z,rfl⟩:=Int.eq_ofNat_of_zero_le hx0;rw[<-Int.natCast_emod,Int.toNat_natCast,Int.toNat_natCast]
theorem zA3 {x:Int}{m:Nat}(h:m<=63):IntKind.i64.wrap ((BitVec.ofInt 64 x &&& BitVec.ofInt 64 ((2^m-1:Nat):Int)).toNat:Int)=x%((2^m:Nat):Int):=by
 rw[jDo oM];have h0:1<=2^m:=Nat.one_le_two_pow;have h2:2^m<=2^63:=Nat.pow_le_pow_right (n:=2) oM h;have h3:=Int.emod_nonneg x (b:=((2^m:Nat):Int)) oM;have h4:=Int.emod_lt_of_pos x (b:=((2^m:Nat):Int)) oM;rw[xP oM];omega
theorem yC2 {x:Int}:qLz .and .i64 x .i64 1=some (.int .i64 (x%2)):=by
 have h:=@zA3 x 1 oM;rw[show((2^1-1:Nat):Int)=1 from rfl,show((2^1:Nat):Int)=2 from rfl]at h;have h2:=congrArg (λz=>some (T.int IntKind.i64 z)) h;exact h2
theorem yD4 {x:Int}:qLz .and .i64 x .i64 3=some (.int .i64 (x%4)):=by
 have h:=@zA3 x 2 oM;rw[show((2^2-1:Nat):Int)=3 from rfl,show((2^2:Nat):Int)=4 from rfl]at h;have h2:=congrArg (λz=>some (T.int IntKind.i64 z)) h;exact h2
theorem jTg {x:Int}:qLz .and .i64 x .i64 15=some (.int .i64 (x%16)):=by
 have h:=@zA3 x 4 oM;rw[show((2^4-1:Nat):Int)=15 from rfl,show((2^4:Nat):Int)=16 from rfl]at h;have h2:=congrArg (λz=>some (T.int IntKind.i64 z)) h;exact h2
theorem zV9 {x:Int}:qLz .and .i64 x .i64 65535=some (.int .i64 (x%65536)):=by
 have h:=@zA3 x 16 oM;rw[show((2^16-1:Nat):Int)=65535 from rfl,show((2^16:Nat):Int)=65536 from rfl]at h;have h2:=congrArg (λz=>some (T.int IntKind.i64 z)) h;exact h2
theorem jKi {x:Int}:qLz .and .u64 x .u64 31=some (.int .u64 (x%32)):=by
 have h:=@jDo x 5 oM;rw[show((2^5-1:Nat):Int)=31 from rfl,show((2^5:Nat):Int)=32 from rfl]at h;have h2:IntKind.u64.wrap ((BitVec.ofInt 64 x &&& BitVec.ofInt 64 31).toNat:Int)=x%32:=by
  rw[h,qVn];omega
 have h3:=congrArg (λz=>some (T.int IntKind.u64 z)) h2;exact h3
theorem zRc {z:Nat}{es:List V}{wr full:Bool}:(Ob.live z es wr full).flat=qPc es:=eR
theorem zQ9:qPc []=true:=eR
theorem zAe {c:V}{r:List V}:qPc (c::r)=(c.flat&&qPc r):=eR
theorem zQ8:qT6 []=true:=eR
theorem qL3 {c:T}{r:List T}:qT6 (c::r)=(c.flat&&qT6 r):=eR
theorem jF9 {ts:List T}:qPc (ts.map .t)=qT6 ts:=by
 induction ts with
 |nil=>rfl
 |cons x r ih=>rw[map_cons,zAe,ih,qL3];rfl
theorem jF7 {l:List UInt8}:qT6 (l.map qA)=true:=by
 induction l with
 |nil=>rfl
 |cons x r ih=>rw[map_cons,qL3,ih];rfl
theorem jF8 {l:List UInt32}:qT6 (l.map jG)=true:=by
 induction l with
 |nil=>rfl
 |cons x r ih=>rw[map_cons,qL3,ih];rfl
theorem zXn {i j k:Nat}:(V.sl i j k).flat=true:=eR
theorem zRh {i j k:Nat}:(V.ref i j k).flat=true:=eR
theorem zXl {g i j k:Nat}:(V.bd g i j k).flat=true:=eR
theorem zXm:V.bq.flat=true:=eR
attribute [go_sem] zXm
attribute [go_sem] zXl
theorem zRg:V.nil.flat=true:=eR
theorem zRf {cs:List V}:(V.agg cs).flat=qPc cs:=eR
theorem zRi {cs:List V}:(V.tup cs).flat=qPc cs:=eR
theorem zXi {cs:List T}:(T.sl cs).flat=cs.isEmpty:=eR
theorem zRe {cs:List T}:(T.agg cs).flat=qT6 cs:=eR
attribute [go_sem] zRc zQ9 zAe zQ8 qL3 jF9 jF7 jF8 zXn zRh zRg zRf zRi zXi zRe isEmpty_nil isEmpty_cons
attribute [go_sem ↓] jKi
attribute [go_sem ↓] yC2 yD4 jTg zV9
attribute [go_sem] jW5 jW6 jP3 jP5 qQb zI0
abbrev LkC (tab:Tab)(n:Nat)(c:Ct):Prop:=tab.look n=some c.fs
end Go.Eng
end
section
namespace Go.Eng
open List
variable {tab:Tab}{gl:Gl}{fs:Fs}{hs:Hs}{Qx:xV}
def upP (n:Nat)(P:Nat->Prop)(fI:Nat->Fs)(hI:Nat->Hs)(i:Nat)(Qx:xV):xV:=λe fs' hs'=>match e with|.normal=>i<n/\P (i+1)/\qL fs' hs' (fI (i+1)) (hI (i+1))|e=>Qx e fs' hs'
theorem zOs {n:Nat}{P:Nat->Prop}{fI:Nat->Fs}{hI:Nat->Hs}{i:Nat}:upP n P fI hI i Qx .normal fs hs=(i<n/\P (i+1)/\qL fs hs (fI (i+1)) (hI (i+1))):=eR
theorem jBb {n:Nat}{P:Nat->Prop}{fI:Nat->Fs}{hI:Nat->Hs}{i id:Nat}:upP n P fI hI i Qx (.exit id) fs hs=Qx (.exit id) fs hs:=eR
theorem jJd {n:Nat}{P:Nat->Prop}{fI:Nat->Fs}{hI:Nat->Hs}{i:Nat}:upP n P fI hI i Qx .ret fs hs=Qx .ret fs hs:=eR
attribute [go_sem] zOs jBb jJd
theorem zAi {a:AC}(n:Nat)(P:Nat->Prop)(fI:Nat->Fs)(hI:Nat->Hs)(hP:P 0)(h0:qL fs hs (fI 0) (hI 0))(h:∀i,i<=n->P i->a.wp tab gl (fI i) (hI i) (upP n P fI hI i Qx)):qYv tab gl a fs hs Qx:=by
 refine qLk (ι := { i:Nat // i<=n/\P i }) (λi=>(fI i.1,hI i.1)) (λi=>n-i.1) ⟨0,Nat.zero_le _,hP⟩ h0 (λi=>?_);refine zX (λe f g hq=>?_) (h i.1 i.2.1 i.2.2);cases e with
 |normal=>exact⟨⟨i.1+1,hq.1,hq.2.1⟩,by simp only;have:=hq.1;omega,hq.2.2⟩
 |exit id=>exact hq
 |ret=>exact hq
theorem jA0 {a:Nat}{k':IntKind}{b:Int}(h:0<=b/\b<=32):qLz .shr .u32 (a:Int) k' b=some (.int .u32 ((a/2^b.toNat:Nat):Int)):=by
 change (if b<0 then none else some (T.int .u32 ((a:Int).fdiv (2^min b.toNat 32))))=_;rw[if_neg oM,show min b.toNat 32=b.toNat by omega,Int.fdiv_eq_ediv_of_nonneg _ (Int.pow_nonneg oM)]
 norm_cast
attribute [go_sem ↓] jA0
theorem zKe {a b:UInt8}:((a.toNat:Int)==(b.toNat:Int))=decide (a=b):=by
 by_cases h:a=b
 .subst h;simp
 .have:¬ ((a.toNat:Int)=b.toNat):=λe=>h (UInt8.toNat_inj.1 oM)
  simp[h,this]
theorem zWf {a b:UInt8}:qJu .eql (qA a) (qA b)=some (.bool (decide (a=b))):=by
 change some (T.bool ((a.toNat:Int)==(b.toNat:Int)))=_;rw[zKe]
theorem zWk {a b:UInt8}:qJu .neq (qA a) (qA b)=some (.bool (!decide (a=b))):=by
 change some (T.bool (!((a.toNat:Int)==(b.toNat:Int))))=_;rw[zKe]
theorem zWj {a b:UInt8}:qJu .lss (qA a) (qA b)=some (.bool (decide (a.toNat<b.toNat))):=by
 change some (T.bool (decide ((a.toNat:Int)<(b.toNat:Int))))=_;congr 2;simp
theorem zWh {a b:UInt8}:qJu .gtr (qA a) (qA b)=some (.bool (decide (a.toNat>b.toNat))):=by
 change some (T.bool (decide ((a.toNat:Int)>(b.toNat:Int))))=_;congr 2;simp
theorem zWi {a b:UInt8}:qJu .leq (qA a) (qA b)=some (.bool (decide (a.toNat<=b.toNat))):=by
 change some (T.bool (decide ((a.toNat:Int)<=(b.toNat:Int))))=_;congr 2;simp
theorem zWg {a b:UInt8}:qJu .geq (qA a) (qA b)=some (.bool (decide (a.toNat ≥ b.toNat))):=by
 change some (T.bool (decide ((a.toNat:Int) ≥ (b.toNat:Int))))=_;congr 2;simp
theorem zP3 {a b:UInt8}:qJu .xor (qA a) (qA b)=some (qA (a ^^^ b)):=by
 change some (T.int .u8 (IntKind.u8.wrap ((BitVec.ofInt 8 (a.toNat:Int) ^^^ BitVec.ofInt 8 (b.toNat:Int)).toNat:Int)))=_;have e:∀x:UInt8,BitVec.ofInt 8 (x.toNat:Int)=x.toBitVec:=λx=>BitVec.eq_of_toNat_eq sM
 rw[e,e,<-UInt8.toBitVec_xor,qP9];have:=(a ^^^ b).toNat_lt;unfold qA;rw[UInt8.toNat_toBitVec];congr 2;omega
attribute [go_sem ↓] zWf zWk zWj zWh zWi zWg zP3
attribute [go_sem] UInt8.reduceToNat
theorem zBe {b:UInt8}:qIq .u64 [.t (qA b)]=.ret (.t (.int .u64 (b.toNat:Int)),[]):=by
 change Q.ret (V.t (.int .u64 (IntKind.u64.wrap (b.toNat:Int))),([]:Wr))=_;have:=b.toNat_lt;rw[qIy oM]
theorem zBc {b:UInt8}:qIq .i64 [.t (qA b)]=.ret (.t (.int .i64 (b.toNat:Int)),[]):=by
 change Q.ret (V.t (.int .i64 (IntKind.i64.wrap (b.toNat:Int))),([]:Wr))=_;have:=b.toNat_lt;rw[xP oM]
theorem jAz {a:Nat}{k':IntKind}(h:a<72057594037927936):qLz .shl .u64 (a:Int) k' 8=some (.int .u64 ((256*a:Nat):Int)):=by
 change (if(8:Int)<0 then none else some (T.int .u64 (IntKind.u64.wrap ((a:Int)*2^min (8:Int).toNat 64))))=_;rw[if_neg oM,show(a:Int)*2^min (8:Int).toNat 64=((256*a:Nat):Int) by
  rw[show min (8:Int).toNat 64=8 from rfl];omega,qIy oM]
theorem or8 {a x:Nat}(hx:x<256):(256*a) ||| x=256*a+x:=by
 have:=Nat.shiftLeft_add_eq_or_of_lt (i:=8) (b:=x) oM a;rw[Nat.shiftLeft_eq]at this;rw[Nat.mul_comm];exact this.symm
theorem jG5 {a:Nat}{x:UInt8}(h:a<72057594037927936):qLz .or .u64 ((256*a:Nat):Int) .u64 (x.toNat:Int)=some (.int .u64 ((256*a+x.toNat:Nat):Int)):=by
 have hx:=x.toNat_lt;change some (T.int .u64 (IntKind.u64.wrap ((BitVec.ofInt 64 ((256*a:Nat):Int) ||| BitVec.ofInt 64 (x.toNat:Int)).toNat:Int)))=_;have e:(BitVec.ofInt 64 ((256*a:Nat):Int) ||| BitVec.ofInt 64 (x.toNat:Int)).toNat=256*a+x.toNat:=by
  rw[BitVec.toNat_or,BitVec.toNat_ofInt,BitVec.toNat_ofInt,Int.emod_eq_of_lt oM oM,Int.emod_eq_of_lt oM oM,Int.toNat_natCast,Int.toNat_natCast,or8 oM]
 rw[e,qIy oM]
attribute [go_sem ↓] zBe zBc jAz jG5
theorem qG {bs:List UInt8}:bsT bs=.sl (bs.map qA):=eR
theorem yEk {l:List (List UInt8)}{i:Nat}(h:i<l.length):l[i]?=some (l.getD i []):=by simp[List.getD,h]
theorem yEj {l:List (List (List UInt8))}{i:Nat}(h:i<l.length):l[i]?=some (l.getD i []):=by simp[List.getD,h]
theorem zHj {l:List (List UInt8)}{x:List UInt8}{r:List T}:List.map bsT l++T.sl (List.map qA x)::r=List.map bsT (l++[x])++r:=by simp[bsT]
theorem jJy {l:List (List UInt8)}:qZ3 1 (l.map bsT)=true:=zDw (f:=bsT) (λ_=>rfl)
theorem zSv {l:List (List UInt8)}:qWx ((l.map bsT).map V.t)=true:=zB9 (f:=bsT) (λ_=>rfl)
theorem jFe {a b:List UInt8}(h:bsT a=bsT b):a=b:=by
 have:=congrArg dBs h;rw[bsT,bsT,zEj,zEj]at this;exact Option.some.inj this
theorem qC0 {l m:List (List UInt8)}:(l.map bsT=m.map bsT)=(l=m):=propext ⟨qBv (λ_ _=>jFe),λh=>by rw[h]⟩
theorem zV6 {ts:List T}{r:List V}:qFl (ts.map .t++r)=(qFl r).map (ts ++ ·):=by
 induction ts with
 |nil=>simp[Option.map_id']
 |cons x l ih=>
  rw[map_cons,cons_append,qVu,ih,Option.map_map];rfl
attribute [go_sem] zV6
attribute [go_sem] qG zHj jJy zSv
end Go.Eng
end
section
namespace Go.Eng
open List
theorem zJ1 {ts:List T}{i:Nat}{v:V}(h:i<ts.length)(hv:∀x,v≠ .t x):qFl ((ts.map .t).set i v)=none:=by
 induction ts generalizing i with
 |nil=>simp at h
 |cons x r ih=>
  cases i with
  |zero=>
   rw[map_cons,set_cons_zero];cases v with
   |t y=>exact absurd rfl (hv y)
   |_=>rfl
  |succ i=>
   rw[map_cons,set_cons_succ,qVu,ih (by simpa using h)];rfl
theorem zHa {ts:List T}{i id off len:Nat}(h:i<ts.length):qFl ((ts.map .t).set i (.sl id off len))=none:=zJ1 h sM
theorem zD4 {ts:List T}{i:Nat}{cs:List V}(h:i<ts.length):qFl ((ts.map .t).set i (.agg cs))=none:=zJ1 h sM
theorem jHm {n:Nat}{ts:List T}{i:Nat}{v:V}(h:i<ts.length):rdL (rdV n) ((ts.map .t).set i v)=(rdV n v).bind λx=>.ret ((ts.map .t).set i x):=by
 induction ts generalizing i with
 |nil=>simp at h
 |cons x r ih=>
  cases i with
  |zero=>rw[map_cons,set_cons_zero,zCg,jOz];rfl
  |succ i=>
   rw[map_cons,set_cons_succ,zCg,jHr,ih (by simpa using h),qU5,qF1];rfl
theorem zQj {n:Nat}{ts:List T}:qDk (zN n) (ts.map .t)=.ret (ts.map .t,[]):=by
 induction ts with
 |nil=>rfl
 |cons x r ih=>rw[map_cons,qL0,zQn,qU5,ih,qU5];rfl
theorem zQi {n:Nat}{ts:List T}{i:Nat}{v:V}(h:i<ts.length):qDk (zN n) ((ts.map .t).set i v)=(zN n v).bind λp=>.ret ((ts.map .t).set i p.1,p.2):=by
 induction ts generalizing i with
 |nil=>simp at h
 |cons x r ih=>
  cases i with
  |zero=>
   rw[map_cons,set_cons_zero,qL0,zQj];simp[Q.bind]
  |succ i=>
   rw[map_cons,set_cons_succ,qL0,zQn,qU5,ih (by simpa using h),qF1];rfl
theorem zY8 {es:List V}{i:Nat}{v:V}(h:qWx es=true)(hv:v.single=true):qWx (es.set i v)=true:=by
 simp only[qWx,all_eq_true]at *;intro x hx;rcases mem_or_eq_of_mem_set hx with h1|rfl
 .exact h x h1
 .exact hv
theorem zIi {l:List (List UInt8)}{i id off len:Nat}:qWx (((l.map bsT).map V.t).set i (.sl id off len))=true:=zY8 zSv rfl
theorem jKz {l:List (List UInt8)}{i:Nat}{x:List UInt8}:List.set (List.map bsT l) i (T.sl (List.map qA x))=List.map bsT (l.set i x):=by
 rw[map_set];rfl
attribute [go_sem] zHa zD4 jHm zQj zQi zIi jKz
theorem qEg {tab:Tab}{gl:Gl}{a:AC}{fs fs':Fs}{hs hs':Hs}{Qx:xV}(h:qL fs hs fs' hs')(hl:qYv tab gl a fs' hs' Qx):qYv tab gl a fs hs Qx:=by
 obtain⟨ι,I,μ,i0,h0,hr⟩:=hl;exact⟨ι,I,μ,i0,h.trans h0,hr⟩
end Go.Eng
end
section
set_option maxRecDepth 20000
namespace Go.Eng
open List
open Go.MuLone
theorem yFt {P:Program}{G:Gl}{tab:Tab}{f:FuncId}{fn:Func}{c:Code}{ac:AC}{hints:List (Nat×List Nat)}{rs:List (Nat×Option (Nat×Bool))}(hf:P.funcs[f]?=some fn)(hname:(fn.name == "runtime.NumGoroutine")=false)(hb:fn.body=some c)(hann:ann P fn.ntmps hints c=some ac)(hmx:P.follows .mixedOrders=true)
  (ht:xQ P G tab) (hrs:qMb P fn.results.toList=some rs) (ct:Ct) (hn:∀x,(ct.aS x).length<=fn.ntmps) (hi:∀x,(ct.ins x).length<=100)
  (h:∀x,ct.pre x->ac.wp tab G (qD 0 (ct.aS x)) (qD 0 (ct.ins x)) (qZ rs (ct.ins x).length (λr' o'=>r'=ct.r x/\o'=ct.outs x))):FOk P G f ct.fs:=
 ct.ok (λargs w=>run_callFunc_enter hf hname hb args w) (λx hx=>zUs hf hb hann hmx ht hrs (hn x) (hi x) (h x hx))
theorem yFr {P:Program}{G:Gl}{tab:Tab}{f:FuncId}{fn:Func}{c:Code}{ac:AC}{hints:List (Nat×List Nat)}{rs:List (Nat×Option (Nat×Bool))}(fz:List Nat)(hf:P.funcs[f]?=some fn)(hname:(fn.name == "runtime.NumGoroutine")=false)(hb:fn.body=some c)(hann:ann P fn.ntmps hints c=some ac)(hmx:P.follows .mixedOrders=true)
  (ht:xQ P G tab) (hrs:qMb P fn.results.toList=some rs) (ct:Ct) (hn:∀x,(ct.aS x).length<=fn.ntmps) (hi:∀x,(ct.ins x).length<=100)
  (h:∀x,ct.pre x->ac.wp tab G (qD 0 (ct.aS x)) (qD 0 (ct.ins x)) (xO fz rs (ct.ins x).length (λr' o'=>r'=ct.r x/\o'=ct.outs x))):FOk P G f ct.fs:=
 ct.ok (λargs w=>run_callFunc_enter hf hname hb args w) (λx hx=>zF1 fz hf hb hann hmx ht hrs (hn x) (hi x) (h x hx))
end Go.Eng
end
section
set_option maxRecDepth 20000
namespace Go.Eng
open List
open Go.MuLone
structure ECt where
 α:Type
 β:Type
 d:β:=by exact default
 aS:α->List V
 ins:α->List Ob:=λ_=>[]
 pre:α->Prop
 r:β->V
 outs:β->List Ob:=λ_=>[]
 R:α->β->Prop
 inj:∀x y,aS x=aS y->ins x=ins y->x=y:=by simp only[Prod.forall,qBa,qL2,Prod.mk.injEq];intros;assumption
structure EF (E:ECt) where
 F:E.α->E.β
 ok:∀x,E.pre x->E.R x (F x)
def ECt.ct (E:ECt)(G:EF E):Ct:=⟨E.α,E.aS,E.ins,E.pre,λx=>E.r (G.F x),λx=>E.outs (G.F x),λx y h h'=>by rw[E.inj x y h h'];exact⟨rfl,rfl⟩⟩
noncomputable def ECt.fs (E:ECt)(G:EF E):FnS:=(E.ct G).fs
theorem ECt.eq (E:ECt)(G:EF E)(x:E.α)(h:E.pre x):∃y,E.R x y/\E.fs G (E.aS x) (E.ins x)=some (E.r y,E.outs y):=⟨G.F x,G.ok x h,(E.ct G).eq x h⟩
theorem fnQ (E:ECt){g:EF E}(x:E.α)(h:E.pre x){e:E.β}(hr:∀y,E.R x y->y=e:=by exact λ_ h=>h):E.fs g (E.aS x) (E.ins x)=some (E.r e,E.outs e):=by
 obtain⟨y,h1,h2⟩:=E.eq g x h;cases hr y h1;exact h2
theorem EF.ok_of {P:Program}{G:Gl}{f:FuncId}(E:ECt)(hc:∀args w,(callFunc f args).run P w=.ok (.enter f args) w)
  (h:∀x,E.pre x->∃y,E.R x y/\zJz P G f (E.aS x) (E.ins x) (E.r y) (E.outs y)):∃g:EF E,FOk P G f (E.fs g):=by
 classical
 refine⟨⟨λx=>if hx:E.pre x then(h x hx).choose else E.d,λx hx=>?_⟩,(E.ct _).ok hc (λx hx=>?_)⟩
 .simp only[dif_pos hx];exact(h x hx).choose_spec.1
 .show zJz P G f (E.aS x) (E.ins x) (E.r _) (E.outs _);simp only[dif_pos (show E.pre x from hx)];exact(h x hx).choose_spec.2
def ECt.K (E:ECt)(x:E.α)(r:V)(o:List Ob):Prop:=∃y,E.R x y/\r=E.r y/\o=E.outs y
theorem jH4 {rs:List (Nat×Option (Nat×Bool))}{n:Nat}{κ:Type}{A:κ->V->List Ob->Prop}{e:AE}{fs:Fs}{hs:Hs}(h:qZ rs n (λr o=>∃y,A y r o) e fs hs):∃y,qZ rs n (A y) e fs hs:=by
 cases e with
 |exit id=>exact h.elim
 |normal=>obtain⟨p,l,h1,y,h2⟩:=h;exact⟨y,p,l,h1,h2⟩
 |ret=>obtain⟨p,l,h1,y,h2⟩:=h;exact⟨y,p,l,h1,h2⟩
theorem jH3 {fz:List Nat}{rs:List (Nat×Option (Nat×Bool))}{n:Nat}{κ:Type}{A:κ->V->List Ob->Prop}{e:AE}{fs:Fs}{hs:Hs}(h:xO fz rs n (λr o=>∃y,A y r o) e fs hs):∃y,xO fz rs n (A y) e fs hs:=by
 cases e with
 |exit id=>exact h.elim
 |normal=>
  obtain⟨p,l,h1,p2,l2,h2,y,h3⟩:=h;exact⟨y,p,l,h1,p2,l2,h2,h3⟩
 |ret=>
  obtain⟨p,l,h1,p2,l2,h2,y,h3⟩:=h;exact⟨y,p,l,h1,p2,l2,h2,h3⟩
theorem jC1 {α:Type}{R A:α->Prop}(h:∃y,R y/\A y):∃z : { y // R y },A z.1:=let ⟨y,h1,h2⟩:=h;⟨⟨y,h1⟩,h2⟩
theorem jXh {P:Program}{G:Gl}{tab:Tab}{f:FuncId}(fn:Func)(hints:List (Nat×List Nat))(ac:AC)(rs:List (Nat×Option (Nat×Bool)))(ht:xQ P G tab)(E:ECt)
  (h:∀x,E.pre x->ac.wp tab G (qD 0 (E.aS x)) (qD 0 (E.ins x)) (qZ rs (E.ins x).length (E.K x)))
  (hf:P.funcs[f]?=some fn:=by kernel_rfl) (hname:(fn.name == "runtime.NumGoroutine")=false:=by kernel_rfl) (hb:fn.body=some (fn.body.getD .skip):=by kernel_rfl) (hann:ann P fn.ntmps hints (fn.body.getD .skip)=some ac:=by kernel_rfl) (hmx:P.follows .mixedOrders=true:=by kernel_rfl)
  (hrs:qMb P fn.results.toList=some rs:=by kernel_rfl) (hst:ac.strict=true:=by kernel_rfl) (hn:∀x,(E.aS x).length<=fn.ntmps:=by exact λ_=>Nat.le_of_ble_eq_true (by kernel_rfl)) (hi:∀x,(E.ins x).length<=100:=by exact λ_=>Nat.le_of_ble_eq_true (by kernel_rfl)):∃g:EF E,FOk P G f (E.fs g):=
 EF.ok_of E (λargs w=>run_callFunc_enter hf hname hb args w) (λx hx=>by
  obtain⟨z,hz⟩:=zGu (Q:=λz : { y // E.R x y }=>qZ rs (E.ins x).length (λr o=>r=E.r z.1/\o=E.outs z.1)) hst (zX (λe f g hq=>by
   obtain⟨y,hy⟩:=jH4 hq;have:∃y,E.R x y/\qZ rs (E.ins x).length (λr o=>r=E.r y/\o=E.outs y) e f g:=by
    cases e with
    |exit id=>exact hy.elim
    |normal=>obtain⟨p,l,h1,h2,h3⟩:=hy;exact⟨y,h2,p,l,h1,h3⟩
    |ret=>obtain⟨p,l,h1,h2,h3⟩:=hy;exact⟨y,h2,p,l,h1,h3⟩
   exact jC1 this) (h x hx))
  exact⟨z.1,z.2,zUs hf hb hann hmx ht hrs (hn x) (hi x) hz⟩)
theorem jXi {P:Program}{G:Gl}{tab:Tab}{f:FuncId}(fz:List Nat)(fn:Func)(hints:List (Nat×List Nat))(ac:AC)(rs:List (Nat×Option (Nat×Bool)))(ht:xQ P G tab)(E:ECt)
  (h:∀x,E.pre x->ac.wp tab G (qD 0 (E.aS x)) (qD 0 (E.ins x)) (xO fz rs (E.ins x).length (E.K x)))
  (hf:P.funcs[f]?=some fn:=by kernel_rfl) (hname:(fn.name == "runtime.NumGoroutine")=false:=by kernel_rfl) (hb:fn.body=some (fn.body.getD .skip):=by kernel_rfl) (hann:ann P fn.ntmps hints (fn.body.getD .skip)=some ac:=by kernel_rfl) (hmx:P.follows .mixedOrders=true:=by kernel_rfl)
  (hrs:qMb P fn.results.toList=some rs:=by kernel_rfl) (hst:ac.strict=true:=by kernel_rfl) (hn:∀x,(E.aS x).length<=fn.ntmps:=by exact λ_=>Nat.le_of_ble_eq_true (by kernel_rfl)) (hi:∀x,(E.ins x).length<=100:=by exact λ_=>Nat.le_of_ble_eq_true (by kernel_rfl)):∃g:EF E,FOk P G f (E.fs g):=
 EF.ok_of E (λargs w=>run_callFunc_enter hf hname hb args w) (λx hx=>by
  obtain⟨z,hz⟩:=zGu (Q:=λz : { y // E.R x y }=>xO fz rs (E.ins x).length (λr o=>r=E.r z.1/\o=E.outs z.1)) hst (zX (λe f g hq=>by
   obtain⟨y,hy⟩:=jH3 hq;have:∃y,E.R x y/\xO fz rs (E.ins x).length (λr o=>r=E.r y/\o=E.outs y) e f g:=by
    cases e with
    |exit id=>exact hy.elim
    |normal=>obtain⟨p,l,h1,p2,l2,h2,h3,h4⟩:=hy;exact⟨y,h3,p,l,h1,p2,l2,h2,h4⟩
    |ret=>obtain⟨p,l,h1,p2,l2,h2,h3,h4⟩:=hy;exact⟨y,h3,p,l,h1,p2,l2,h2,h4⟩
   exact jC1 this) (h x hx))
  exact⟨z.1,z.2,zF1 fz hf hb hann hmx ht hrs (hn x) (hi x) hz⟩)
theorem qT3:(∀b:Bool,((!b)=true)=(b=false))/\(∀b:Bool,((!b)=false)=(b=true))/\(∀(p:Prop)[Decidable p],(decide p=true)=p)/\(∀(p:Prop)[Decidable p],(decide p=false)=¬ p)/\(∀p:Prop,(¬ ¬ p)=p)/\
  (∀a b:Int,((a==b)=true)=(a=b))/\(∀a b:Int,((a==b)=false)=¬ (a=b))/\(∀a b:Int,((a != b)=true)=¬ (a=b))/\(∀a b:Int,((a != b)=false)=(a=b)):=by
 refine⟨sM,sM,sM,sM,sM,sM,sM,sM,sM⟩
abbrev LkE (tab:Tab)(n:Nat)(E:ECt)(g:EF E):Prop:=tab.look n=some (E.fs g)
end Go.Eng
end
