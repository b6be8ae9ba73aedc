/- A part of an abstract machine, its walks, their tie. -/
import Derived.Test.YteglhhgmfnbalaaGreatDoorK5
set_option linter.all false
section
namespace Go.Eng
open List
variable {β:Nat->Option BI}{F:Nat->Prop}{w:World}{cx:Cx}{fm:Nat->Option V}{hm:Nat->Option Ob}{a:Act}
theorem jC5 (R:Rel cx β F fm hm a w):zPk cx.gl F w:=by
 refine⟨R.Fw,λg cs hg=>?_,R.gs⟩;have:=R.gl g cs hg;cases this with
 |ro _ a news ha hn h1 hF hw h=>exact .ro cs _ news ha hn h1 hF hw h
def zJy (β:Nat->Option BI)(F:Nat->Prop)(w:World)(hm:Nat->Option Ob)(g:V->Q (V×List Nat)):Prop:=
 ∀{v v':V}{fz l fz':List Nat}{x:Value},(g v).run hm=some ((v',fz),l)->qR β F w v x->(∀i∈fz,i∈fz')->qR β (qT1 β F fz') w v' x
theorem qR0 (R:Rel cx β F fm hm a w){n:Nat}:zJy β F w hm (zN n):=λh hx hs=>wG R h hx hs
theorem zQl (R:Rel cx β F fm hm a w):zJy β F w hm qV8:=by
 intro v v' fz l fz' x h hx hs;unfold qV8 at h;split at h
 .obtain⟨h1,_⟩:=qE h;cases h1;exact hx.mono (λ_ _ h=>h) (λ_ h=>.inl h) (λ_ _=>rfl)
 .exact wG R h hx hs
theorem zHp {g:V->Q (V×List Nat)}(hg:zJy β F w hm g){vs aS:List V}{fz l fz':List Nat}(h:(qDk g vs).run hm=some ((aS,fz),l))(hsub:∀i∈fz,i∈fz'){vals:List Value}(hv:xU (qR β F w) vs vals){ids:List Nat}(hr:∀r∈qA4 aS,r∈ids) :
  xU (qR (qDv ids β) (qT1 β F fz') w) (qFn (λr=>ids.idxOf r) aS) vals:=by
 obtain⟨g1,g2⟩:=vF h;rw[zJ];have hlen:=hv.length;have key:∀(as0:List V)(vals0:List Value),as0.length=vals0.length->(∀(i:Nat)(c:V)(u:Value),as0[i]?=some c->vals0[i]?=some u->qR (qDv ids β) (qT1 β F fz') w (c.ren λr=>ids.idxOf r) u)->
   xU (qR (qDv ids β) (qT1 β F fz') w) (as0.map (V.ren λr=>ids.idxOf r)) vals0:=by
  intro as0
  induction as0 with
  |nil=>intro vals0 hl _;cases vals0 with
   |nil=>exact .nil
   |cons _ _=>simp at hl
  |cons c r ih=>intro vals0 hl h;cases vals0 with
   |nil=>simp at hl
   |cons u vals0=>
    exact .cons (h 0 c u rfl rfl) (ih vals0 (by simpa using hl) (λi c u hc hu=>h (i+1) c u (by simpa using hc) (by simpa using hu)))
 refine key aS vals (by rw[g1,hlen]) (λi c u hc hu=>?_);have hi:i<vs.length:=by rw[<-g1];exact(List.getElem?_eq_some_iff.1 hc).1
 obtain⟨fzi,li,m1,m2⟩:=g2 i vs[i] c (by simp[hi]) hc;obtain⟨x,hx,hrx⟩:=hv.get i u hu;have:x=vs[i]:=by rw[getElem?_eq_getElem hi]at hx;exact(Option.some.inj hx).symm
 subst this;exact zAr (hg m1 hrx (λj hj=>hsub j (m2 j hj))) (λr hr'=>hr r (qFe (mem_of_getElem? hc) hr'))
theorem qVe (R:Rel cx β F fm hm a w){n:Nat}{g:V->Q (V×List Nat)}(hg:zJy β F w hm g){vs aS:List V}{fz0 l1:List Nat}(hp:(qDk g vs).run hm=some ((aS,fz0),l1)){todo ids:List Nat}{obs:List Ob}{fzq l2:List Nat}
  (hq:(qBs n todo [] [] []).run hm=some ((ids,obs,fzq),l2)) (htodo:∀r∈qA4 aS,r∈todo) (hdis:(ids.all λi => !(fz0++fzq).contains i)=true) {fw:Wr} {l3:List Nat} (hfw:(qYn (fz0++fzq)).run hm=some (fw,l3))
  {vals:List Value} (hv:xU (qR β F w) vs vals) :
  ∃F1,Rel cx β F1 fm (upd hm fw) a w/\(∀b,F b->F1 b)/\
   ids.Nodup/\ids.length=obs.length/\(∀p∈fw,hm p.1≠none)/\
   (∀(k id:Nat),ids[k]?=some id->∃z es full,hm id=some (.live z es true full)/\upd hm fw id=some (.live z es true full))/\
   zVp (qDv ids β) F1 w (obs.map (Ob.ren λr=>ids.idxOf r))/\xU (qR (qDv ids β) F1 w) (qFn (λr=>ids.idxOf r) aS) vals:=by
 obtain⟨k1,k2,k3,k4,k5,_,_⟩:=qSd hq sM rfl (by intro k id o hk;simp at hk) sM;obtain⟨F1,R1,hF1⟩:=Rel.freezeAll hfw R (λid _=>.inl rfl);obtain⟨n1,n2⟩:=zLc hfw;have hnot:∀(k id:Nat),ids[k]?=some id->id ∉ fz0++fzq:=by
  intro k id hk;have:=all_eq_true.1 hdis id (mem_of_getElem? hk);simpa using this
 have hkeepid:∀(k id:Nat),ids[k]?=some id->upd hm fw id=hm id:=λk id hk=>qEc (λq hq e=>hnot k id hk (by rw[<-e];exact(n2 q hq).1))
 have hob:∀(k id:Nat),ids[k]?=some id->∃o z es es' full fzk lk,obs[k]?=some o/\hm id=some (.live z es true full)/\o=.live z es' true full/\(qE3 es).run hm=some ((es',fzk),lk)/\∀j∈fzk,j∈fzq:=by
  intro k id hk;have hkl:k<obs.length:=by rw[<-k2];exact(List.getElem?_eq_some_iff.1 hk).1
  obtain⟨z,es,es',full,fzk,lk,g1,g2,g3,g4⟩:=k3 k id obs[k] hk (by simp[hkl]);exact⟨_,z,es,es',full,fzk,lk,by simp[hkl],g1,g2,g3,g4⟩
 have hlive:∀(k id:Nat),ids[k]?=some id->∃z es full,hm id=some (.live z es true full)/\upd hm fw id=some (.live z es true full):=by
  intro k id hk;obtain⟨o,z,es,es',full,fzk,lk,_,g1,_⟩:=hob k id hk;exact⟨z,es,full,g1,by rw[hkeepid k id hk];exact g1⟩
 have hFeq:F1=qT1 β F (fz0++fzq):=by funext b;exact propext (hF1 b)
 refine⟨F1,R1,λb hb=>(hF1 b).2 (.inl hb),k1,k2,λq hq=>?_,hlive,⟨λk o ho=>?_,λk hk=>?_,λi j bi bj b h1 h2 h3 h4=>?_,λk bi b h1 h2=>?_⟩,?_⟩
 .obtain⟨_,z,es,full,h,_⟩:=n2 q hq;rw[h];simp
 .rw[getElem?_map,Option.map_eq_some_iff]at ho;obtain⟨o',ho',rfl⟩:=ho;have hkl:k<ids.length:=by rw[k2];exact(List.getElem?_eq_some_iff.1 ho').1
  obtain⟨o2,z,es,es',full,fzk,lk,g0,g1,g2,g3,g4⟩:=hob k ids[k] (by simp[hkl]);rw[ho']at g0;cases g0;obtain⟨bi,hb,hok⟩:=R.hp _ _ g1;have hnF:∀b,bi.blk=some b->¬ F1 b:=by
   intro b hbk;obtain⟨z',es2,full',_,h2⟩:=hlive k ids[k] (by simp[hkl]);exact R1.notF h2 hb hbk
  refine⟨bi,by simp[qDv,hkl,hb],?_,?_⟩
  .rw[g2];exact zSr R hF1 g3 (λi hi=>by simp[g4 i hi]) hok hnF (λr hr=>k4 o' (mem_of_getElem? ho') r (by rw[g2];exact hr))
  .rw[g2];exact⟨z,_,full,rfl⟩
 .rw[length_map,<-k2]at hk;simp[qDv,getElem?_eq_none hk]
 .unfold qDv at h1 h2;rw[Option.bind_eq_some_iff]at h1 h2;obtain⟨x,hx,h1⟩:=h1;obtain⟨y,hy,h2⟩:=h2;obtain⟨z1,e1,f1,m1,_⟩:=hlive i x hx;obtain⟨z2,e2,f2,m2,_⟩:=hlive j y hy;have:=R.inj x y bi bj b _ _ h1 h2 h3 h4 m1 m2 sM sM;subst this;have hi:i<ids.length:=(List.getElem?_eq_some_iff.1 hx).1;have hj:j<ids.length:=(List.getElem?_eq_some_iff.1 hy).1;exact qAi k1 hi hj (by rw[getElem?_eq_getElem hi]at hx;rw[getElem?_eq_getElem hj]at hy;rw[Option.some.inj hx,Option.some.inj hy])
 .unfold qDv at h1;rw[Option.bind_eq_some_iff]at h1;obtain⟨x,hx,h1⟩:=h1;obtain⟨z1,e1,f1,m1,m2⟩:=hlive k x hx;exact⟨R.blt x bi b h1 h2,R1.notF m2 h1 h2⟩
 .rw[hFeq];exact zHp hg hp (λi hi=>by simp[hi]) hv (λr hr=>k5 r (htodo r hr))
theorem zS1 (R:Rel cx β F fm hm a w){keep:Bool}{vs:List V}{cp:CP}{l:List Nat}(h:(qV4 keep vs).run hm=some (cp,l)){vals:List Value}(hv:xU (qR β F w) vs vals) :
  ∃F1,Rel cx β F1 fm (upd hm cp.fw) a w/\(∀b,F b->F1 b)/\(keep=false->∀(k id:Nat),cp.ids[k]?=some id->∃z es full,hm id=some (.live z es true full))/\
   cp.ids.Nodup/\cp.ids.length=cp.obs.length/\(∀p∈cp.fw,hm p.1≠none)/\
   (∀(k id:Nat),cp.ids[k]?=some id->∃z es full,hm id=some (.live z es true full)/\upd hm cp.fw id=some (.live z es true full))/\
   zVp (qDv cp.ids β) F1 w (cp.obs.map (Ob.ren λr=>cp.ids.idxOf r))/\xU (qR (qDv cp.ids β) F1 w) (qFn (λr=>cp.ids.idxOf r) cp.aS) vals:=by
 unfold qV4 at h;obtain⟨p,l1,l2,hp,h,_⟩:=qS h;obtain⟨q,l3,l4,hq,h,_⟩:=qS h;obtain⟨⟨_,hdis⟩,h⟩:=qM h;obtain⟨fw,l5,l6,hfw,h,_⟩:=qS h;obtain⟨e,_⟩:=qE h;cases e;obtain⟨F1,g1,g2,g3,g4,g5,g6,g7,g8⟩:=qVe R (qR0 R) hp hq (λr h=>h) hdis hfw hv;exact⟨F1,g1,g2,λ_ k id hk=>let ⟨z,es,full,h,_⟩:=g6 k id hk;⟨z,es,full,h⟩,g3,g4,g5,g6,g7,g8⟩
theorem zQ6 {obs:List Ob}(h:zH1 obs=true){k:Nat}{o:Ob}(ho:obs[k]?=some o):o.flat=true:=all_eq_true.1 h o (mem_of_getElem? ho)
theorem zM1 (R:Rel cx β F fm hm a w){tab:Tab}(ht:xQ cx.P cx.gl tab){f:FuncId}{keep:Bool}{vs:List V}{nb:Nat}{v:V}{W:Wr}{l:List Nat}(h:(qYq tab f keep vs nb).run hm=some ((v,W),l)){vals:Array Value}(hv:xU (qR β F w) vs vals.toList) :
  qRx cx.P f vals w (λe w'=>∃x β' F',e=.returned x/\Rel cx β' F' fm (upd hm W) a w'/\qR β' F' w' v x):=by
 unfold qYq at h;obtain⟨cp,l1,l2,hcp,h,_⟩:=qS h;obtain⟨p,hp,h⟩:=qH h;obtain⟨⟨hlen,hflat⟩,h⟩:=qM h;obtain⟨hfree,l',h⟩:=qWm h;obtain⟨e,_⟩:=qE h;cases e;obtain⟨r,outs⟩:=p;rw[Option.bind_eq_some_iff]at hp;obtain⟨s,hs,hp⟩:=hp;obtain⟨F1,R1,hFF1,hlive0,hnd,hlo,hfwl,hlive,fits,hargs⟩:=zS1 R hcp hv;simp only at hlen hflat hfree⊢;refine(ht f s hs _ _ r outs hp w (qDv cp.ids β) F1 vals (jC5 R1) fits hargs).mono ?_;rintro e w' ⟨x,βp,F',rfl,post⟩;have hold:∀(k id:Nat),cp.ids[k]?=some id->βp k=β id:=by
  intro k id hk;have hkl:k<cp.ids.length:=(List.getElem?_eq_some_iff.1 hk).1;rw[post.old k (by rw[length_map,<-hlo];exact hkl)];simp[qDv,hk]
 have hframe:∀b,b<w.heap.size->(∀(k id:Nat)(bi:BI),cp.ids[k]?=some id->β id=some bi->bi.blk≠some b)->w'.heap[b]?=w.heap[b]?:=by
  intro b hb hk;refine post.frame b hb (λk bi hkb=>?_);unfold qDv at hkb;rw[Option.bind_eq_some_iff]at hkb;obtain⟨id,h1,h2⟩:=hkb;exact hk k id bi h1 h2
 have hnew:∀(k:Nat)(bi:BI)(b:Nat),cp.ids.length<=k->βp k=some bi->bi.blk=some b->w.heap.size<=b:=by
  intro k bi b hk h1 h2;exact post.new k bi b (by rw[length_map,<-hlo];exact hk) h1 h2
 cases keep with
 |true=>
  obtain⟨βn,R2,hg,_⟩:=Rel.called R1 hnd (λk id hk=>let ⟨z,es,full,_,h2⟩:=hlive k id hk;⟨z,es,full,h2⟩) post.fits hold hnew post.F post.Fw post.os post.tape post.output post.size hframe hlen (nb:=nb)
   (λj hj=>by
    rw[qEc (λq hq e=>hfwl q hq (by rw[e];exact hfree j hj))];exact hfree j hj)
  refine⟨x,βn,F',rfl,?_,?_⟩
  .simp only[if_true,qSs];exact R2
  .exact qR.ren (β:=βn) (ρ:=gam cp.ids nb) (post.res.mono (β':=λk=>βn (gam cp.ids nb k)) hg (λ_ h=>h) (λ_ _=>rfl))
 |false=>
  have hfl:r.flat=true/\zH1 outs=true:=by simpa using hflat
  let F2:Nat->Prop:=λb=>(b<w.heap.size/\F b)\/(w.heap.size<=b/\F' b)
  have hF2o:∀b,b<w.heap.size->(F2 b↔F b):=λb hb=>⟨λh=>by
   rcases h with h|h
   .exact h.2
   .omega,λh=>.inl ⟨hb,h⟩⟩
  have hblkF2:∀(k:Nat)(bi:BI)(b:Nat),βp k=some bi->bi.blk=some b->¬ F2 b:=by
   intro k bi b h1 h2 hF2;rcases hF2 with⟨hb,hF⟩|⟨hb,hF⟩
   .rcases Nat.lt_or_ge k cp.ids.length with hk|hk
    .obtain⟨z,es,full,hl⟩:=hlive0 rfl k cp.ids[k] (by simp[hk]);exact R.notF hl (by rw[<-hold k cp.ids[k] (by simp[hk])];exact h1) h2 hF
    .have:=hnew k bi b hk h1 h2;omega
   .exact(post.fits.blt k bi b h1 h2).2 hF
  have fits2:zVp βp F2 w' outs:=by
   refine⟨λk o ho=>?_,post.fits.dom,post.fits.inj,λk bi b h1 h2=>⟨(post.fits.blt k bi b h1 h2).1,hblkF2 k bi b h1 h2⟩⟩;obtain⟨bi,h1,h2,z,es,full,rfl⟩:=post.fits.ok k o ho;have hfo:=zQ6 hfl.2 ho;exact⟨bi,h1,h2.flat hfo (λb hb=>hblkF2 k bi b h1 hb),z,es,full,rfl⟩
  obtain⟨βn,R2,hg,_⟩:=Rel.called R hnd (λk id hk=>let ⟨z,es,full,h1,_⟩:=hlive k id hk;⟨z,es,full,h1⟩) fits2 hold hnew hF2o (λb hb=>by
    rcases hb with⟨h1,_⟩|⟨_,h2⟩
    .have:=post.size;omega
    .exact post.Fw b h2) post.os post.tape post.output post.size hframe hlen (nb:=nb) hfree
  refine⟨x,βn,F2,rfl,?_,?_⟩
  .simpa using R2
  .exact qR.ren (β:=βn) (ρ:=gam cp.ids nb) ((post.res.flat hfl.1).mono (β':=λk=>βn (gam cp.ids nb k)) hg (λ_ h=>h) (λ_ _=>rfl))
theorem zNs (R:Rel cx β F fm hm a w){vs:List V}{cp:CP}{l:List Nat}(h:(qQd vs).run hm=some (cp,l)){vals:List Value}(hv:xU (qR β F w) vs vals) :
  ∃F1,Rel cx β F1 fm (upd hm cp.fw) a w/\cp.ids.Nodup/\cp.ids.length=cp.obs.length/\(∀p∈cp.fw,hm p.1≠none)/\
   (∀(k id:Nat),cp.ids[k]?=some id->∃z es full,hm id=some (.live z es true full)/\upd hm cp.fw id=some (.live z es true full))/\
   zVp (qDv cp.ids β) F1 w (cp.obs.map (Ob.ren λr=>cp.ids.idxOf r))/\xU (qR (qDv cp.ids β) F1 w) (qFn (λr=>cp.ids.idxOf r) cp.aS) vals:=by
 unfold qQd at h;obtain⟨p,l1,l2,hp,h,_⟩:=qS h;obtain⟨q,l3,l4,hq,h,_⟩:=qS h;obtain⟨hdis,h⟩:=qM h;obtain⟨fw,l5,l6,hfw,h,_⟩:=qS h;obtain⟨e,_⟩:=qE h;cases e;obtain⟨F1,g1,g2,g3,g4,g5,g6,g7,g8⟩:=qVe R (zQl R) hp hq (λr h=>h) hdis hfw hv;exact⟨F1,g1,g3,g4,g5,g6,g7,g8⟩
theorem zHn (R:Rel cx β F fm hm a w){tab:Tab}(ht:xQ cx.P cx.gl tab){f:FuncId}{vs:List V}{nb:Nat}{v:V}{W:Wr}{l:List Nat}(h:(zAb tab f vs nb).run hm=some ((v,W),l)){vals:Array Value}(hv:xU (qR β F w) vs vals.toList) :
  qRx cx.P f vals w (λe w'=>∃x β' F',e=.returned x/\Rel cx β' F' fm (upd hm W) a w'/\qR β' F' w' v x):=by
 unfold zAb at h;obtain⟨cp,l1,l2,hcp,h,_⟩:=qS h;obtain⟨p,hp,h⟩:=qH h;obtain⟨hlen,h⟩:=qM h;obtain⟨hfree,l',h⟩:=qWm h;obtain⟨e,_⟩:=qE h;cases e;obtain⟨r,outs⟩:=p;rw[Option.bind_eq_some_iff]at hp;obtain⟨s,hs,hp⟩:=hp;obtain⟨F1,R1,hnd,hlo,hfwl,hlive,fits,hargs⟩:=zNs R hcp hv;simp only at hlen hfree⊢;refine(ht f s hs _ _ r outs hp w (qDv cp.ids β) F1 vals (jC5 R1) fits hargs).mono ?_;rintro e w' ⟨x,βp,F',rfl,post⟩;obtain⟨βn,R2,hg,_⟩:=Rel.called R1 hnd (λk id hk=>let ⟨z,es,full,_,h2⟩:=hlive k id hk;⟨z,es,full,h2⟩) post.fits (λk id hk=>by
   have hkl:k<cp.ids.length:=(List.getElem?_eq_some_iff.1 hk).1;rw[post.old k (by rw[length_map,<-hlo];exact hkl)];simp[qDv,hk]) (λk bi b hk h1 h2=>post.new k bi b (by rw[length_map,<-hlo];exact hk) h1 h2) post.F post.Fw post.os post.tape post.output post.size (λb hb hk=>by
   refine post.frame b hb (λk bi hkb=>?_);unfold qDv at hkb;rw[Option.bind_eq_some_iff]at hkb;obtain⟨id,h1,h2⟩:=hkb;exact hk k id bi h1 h2) hlen (nb:=nb)
  (λj hj=>by
   rw[qEc (λq hq e=>hfwl q hq (by rw[e];exact hfree j hj))];exact hfree j hj)
 refine⟨x,βn,F',rfl,by rw[qSs];exact R2,?_⟩;exact qR.ren (β:=βn) (ρ:=gam cp.ids nb) (post.res.mono (β':=λk=>βn (gam cp.ids nb k)) hg (λ_ h=>h) (λ_ _=>rfl))
end Go.Eng
end
section
namespace Go.Eng
open List
variable {β:Nat->Option BI}{F:Nat->Prop}{w:World}{cx:Cx}{fm:Nat->Option V}{hm:Nat->Option Ob}{a:Act}
inductive qHb where
 |tmp (t:Nat)
 |cst (v:V)
 |glob (g:Nat)
 deriving Inhabited
inductive AK where
 |op (ao:AO)
 |call (f:FuncId) (keep:Bool)
 |callv (keep:Bool)
 |calll (f:FuncId)
 deriving Inhabited
structure zU where
 dst:Option Nat
 k:AK
 args:List qHb
 guard:Option (Nat×Bool)
 deriving Inhabited
abbrev Gl:=Nat->Option (List T)
def qHb.val (gl:Gl)(fm:Nat->Option V):qHb->Option V
 |.tmp t=>fm t
 |.cst v=>some v
 |.glob g=>(gl g).map .ro
def qB1 (gl:Gl)(fm:Nat->Option V):List qHb->Option (List V)
 |[]=>some []
 |x::r=>(x.val gl fm).bind λv=>(qB1 gl fm r).map (v :: ·)
def AK.q (tab:Tab)(nb:Nat):AK->List V->Q (V×Wr)
 |.op ao,vs=>sem ao vs nb
 |.call f keep,vs=>qYq tab f keep vs nb
 |.calll f,vs=>zAb tab f vs nb
 |.callv keep,.fn f caps::rest=>qYq tab f keep (rest++caps) nb
 |.callv keep,.bd g id i f::rest=>qYq tab g keep (.ref id i f::rest) nb
 |.callv _,_=>.fail
def zU.go (tab:Tab)(gl:Gl)(o:zU)(fm:Nat->Option V)(nb:Nat):Q (V×Wr):=
 (Q.of (qB1 gl fm o.args)).bind λvs=>o.k.q tab nb vs
def qG3 (fm:Nat->Option V):Option (Nat×Bool)->Option Bool
 |none=>some true
 |some (t,want)=>match fm t with
  |some (.t (.bool b))=>some (b==want)
  |some (.tup [])=>some false
  |_=>none
def zU.q (tab:Tab)(gl:Gl)(o:zU)(fm:Nat->Option V)(nb:Nat):Q (V×Wr):=
 (Q.of (qG3 fm o.guard)).bind λg=>if g then o.go tab gl fm nb else .ret (.tup [],[])
def qY0 (fm:Nat->Option V)(d:Option Nat)(v:V):Nat->Option V:=λt=>if d=some t then some v else fm t
def zY9:Operand->Option qHb
 |.tmp t=>some (.tmp t)
 |.const v=>(V.ofConst v).map .cst
 |.global g=>some (.glob g)
 |.func f=>some (.cst (.fn f []))
def zLs:List Operand->Option (List qHb)
 |[]=>some []
 |x::r=>(zY9 x).bind λy=>(zLs r).map (y :: ·)
def zR7 (P:Program)(keep:Nat):Op->Option (AK×List Operand)
 |.call { callee:= .value (.func f),args,.. }=>some (if keep=2 then .calll f else .call f (keep==1),args.toList)
 |.call { callee:= .value (.tmp t),args,.. }=>some (.callv (keep==1),.tmp t::args.toList)
 |op=>(zPt P op).map λp=>(.op (if keep==1 then p.1.cut else p.1),p.2)
def zH5 (ops:Array Oper):Option (Nat×Bool)->Option (Option (Nat×Bool))
 |none=>some none
 |some (j,want)=>((ops[j]?).bind (·.dst)).map λt=>some (t,want)
def jLu (nt:Nat):Option Nat->Bool
 |some d=>decide (d<nt)
 |none=>true
def zX9 (P:Program)(keep:Nat)(op:Op):Option (AK×List qHb):=(zR7 P keep op).bind λp=>(zLs p.2).map λxs=>(p.1,xs)
def jKj (P:Program)(nt:Nat)(ops:Array Oper)(keep:Nat)(o:Oper):Option zU:=
 (zH5 ops o.guard).bind λg=>
  if jLu nt o.dst=true then some (match zX9 P keep o.op with|some p=>⟨o.dst,p.1,p.2,g⟩|none=>⟨o.dst,.op .bad,[],g⟩) else none
theorem qWy (R:Rel cx β F fm hm a w){x:Operand}{y:qHb}(h:zY9 x=some y){v:V}(hv:y.val cx.gl fm=some v):qR β F w v (a.eval x):=by
 cases x with
 |tmp t=>
  cases h;obtain⟨x,h1,h2⟩:=R.fr t v hv;have:a.eval (.tmp t)=x:=by simp[Act.eval,h1]
  rw[this];exact h2
 |const c=>
  simp only[zY9,Option.map_eq_some_iff]at h;obtain⟨u,hu,rfl⟩:=h;cases hv;exact qBw hu
 |global g=>
  cases h;simp only[qHb.val,Option.map_eq_some_iff]at hv;obtain⟨cs,hcs,rfl⟩:=hv;exact R.gl g cs hcs
 |func f=>
  cases h;cases hv;exact .fn f [] #[] rfl (by intro i c u hc;simp at hc)
theorem zAl (R:Rel cx β F fm hm a w):∀{xs:List Operand}{ys:List qHb}{vs:List V},zLs xs=some ys->qB1 cx.gl fm ys=some vs->xU (λx v=>qR β F w v (a.eval x)) xs vs
 |[],ys,vs,h,hv=>by cases h;cases hv;exact .nil
 |x::r,ys,vs,h,hv=>by
  simp only[zLs,Option.bind_eq_some_iff,Option.map_eq_some_iff]at h;obtain⟨y,hy,zs,hz,rfl⟩:=h;simp only[qB1,Option.bind_eq_some_iff,Option.map_eq_some_iff]at hv;obtain⟨v,hv,us,hu,rfl⟩:=hv;exact .cons (qWy R hy hv) (zAl R hz hu)
theorem zA2 {xs:List Operand}{vs:List V}{a:Act}(h:xU (λx v=>qR β F w v (a.eval x)) xs vs):xU (qR β F w) vs (xs.map a.eval):=by
 induction h with
 |nil=>exact .nil
 |cons h _ ih=>exact .cons h ih
theorem zV4 {α γ:Type}{R:α->γ->Prop}{xs xs':List α}{ys ys':List γ}(h:xU R xs ys)(h':xU R xs' ys'):xU R (xs++xs') (ys++ys'):=by
 induction h with
 |nil=>exact h'
 |cons h _ ih=>exact .cons h ih
theorem qVt {vs:List V}{us:List Value}(hl:us.length=vs.length)(h:∀(i:Nat)(c:V)(u:Value),vs[i]?=some c->us[i]?=some u->qR β F w c u):xU (qR β F w) vs us:=by
 induction vs generalizing us with
 |nil=>cases us with
  |nil=>exact .nil
  |cons _ _=>simp at hl
 |cons c r ih=>cases us with
  |nil=>simp at hl
  |cons u us=>exact .cons (h 0 c u rfl rfl) (ih (by simpa using hl) (λi c u hc hu=>h (i+1) c u (by simpa using hc) (by simpa using hu)))
theorem Rel.put (R:Rel cx β F fm hm a w){d:Option Nat}(hd:∀t,d=some t->t<cx.nt){v:V}{x:Value}(hx:qR β F w v x):Rel cx β F (qY0 fm d v) hm (a.put d x) w:=by
 cases d with
 |none=>
  have:qY0 fm none v=fm:=by funext t;simp[qY0]
  rw[this];exact R
 |some t=>
  refine⟨by simp[Act.put,R.tsz],R.dfr,λt' v' hv'=>?_,R.hp,R.dom,R.inj,R.os,R.tape,R.output,R.size,R.ext,R.old,R.inF,R.inw,R.Fw,R.F0,R.blt,R.gl,R.ext0,R.gs⟩;unfold qY0 at hv';split at hv'
  .rename_i h;cases h;cases hv';exact⟨x,by simp[Act.put,R.tsz,hd _ rfl],hx⟩
  .rename_i h;obtain⟨y,h1,h2⟩:=R.fr t' v' hv';exact⟨y,by simp only[Act.put];rw[Array.getElem?_setIfInBounds_ne (λe=>h (by rw[e]))];exact h1,h2⟩
theorem zH7 (R:Rel cx β F fm hm a w){ops:Array Oper}{o:Oper}{g:Option (Nat×Bool)}(hg:zH5 ops o.guard=some g){b:Bool}(hb:qG3 fm g=some b):Region.wanted o (yielded ops a.tmps)=b:=by
 unfold Region.wanted;cases ho:o.guard with
 |none=>
  rw[ho]at hg;cases hg;cases hb;rfl
 |some p=>
  obtain⟨j,want⟩:=p;rw[ho]at hg;simp only[zH5,Option.map_eq_some_iff]at hg;obtain⟨t,ht,rfl⟩:=hg;simp only[qG3]at hb;simp only[yielded,ht,Option.bind_some];cases hf:fm t with
  |none=>rw[hf]at hb;cases hb
  |some v=>
   obtain⟨x,h1,h2⟩:=R.fr t v hf;rw[h1];rw[hf]at hb;split at hb
   .rename_i b' h;cases h;cases hb;rw[h2.bool_inv];cases b'<;>cases want<;>rfl
   .rename_i h;cases h;cases hb;cases h2 with
    |tup _ vs hl _=>
     simp only;cases want<;>rfl
   .cases hb
theorem zAx (R:Rel cx β F fm hm a w){tab:Tab}(ht:xQ cx.P cx.gl tab){ops:Array Oper}{i:Nat}{o:Oper}{ao:zU}{keep:Nat}(ho:ops[i]?=some o)(hag:jKj cx.P cx.nt ops keep o=some ao)
  {nb:Nat} {v:V} {W:Wr} {l:List Nat} (hq:(ao.q tab cx.gl fm nb).run hm=some ((v,W),l)) {K:Act->World->Prop} {Qx:Exit->Act->World->Prop}
  (hK:∀β' F' a' w',Rel cx β' F' (qY0 fm ao.dst v) (upd hm W) a' w'->K a' w'):wpOp cx.P ops Qx i K a w:=by
 unfold jKj at hag;simp only[Option.bind_eq_some_iff]at hag;obtain⟨g,hg,hag⟩:=hag;split at hag
 .rename_i hd;have hag:=Option.some.inj hag;obtain⟨kd,ys,hkx,rfl⟩:∃kd ys,(zX9 cx.P keep o.op=some (kd,ys)\/kd=.op .bad)/\ao=⟨o.dst,kd,ys,g⟩:=by
   cases hk:zX9 cx.P keep o.op with
   |none=>rw[hk]at hag;exact⟨_,_,.inr rfl,hag.symm⟩
   |some p=>rw[hk]at hag;exact⟨p.1,p.2,.inl rfl,hag.symm⟩
  simp only at hq hK;have hd':∀t,o.dst=some t->t<cx.nt:=by
   intro t e;rw[e]at hd;simpa [jLu]using hd
  unfold zU.q at hq;obtain⟨b,hb,hq⟩:=qH hq;have hw:=zH7 R hg hb;unfold wpOp;simp only[ho,hw];cases b with
  |false=>
   simp only[Bool.false_eq_true,if_false]at hq⊢;obtain⟨e,_⟩:=qE hq;cases e;exact hK β F _ _ (R.put hd' (.tup [] #[] rfl (by intro i c u hc;simp at hc)))
  |true=>
   simp only[if_true]at hq⊢;refine .inl ?_;unfold zU.go at hq;obtain⟨vs,hvs,hq2⟩:=qH hq;clear hq;rcases hkx with hkx|hbad
   case inr=>rw[hbad]at hq2;cases hq2
   unfold zX9 at hkx;simp only[Option.bind_eq_some_iff,Option.map_eq_some_iff]at hkx;obtain⟨⟨kd',xs⟩,hkd,ys',hys,hkeq⟩:=hkx;simp only[Prod.mk.injEq]at hkeq;obtain⟨rfl,rfl⟩:=hkeq;have hall:=zAl R hys hvs;simp only at hall hkd hq2;unfold Oper.wp;have call:∀{f:FuncId}{us:List V}{vals:Array Value},execOp a.eval o=callFunc f vals->(qYq tab f (keep==1) us nb).run hm=some ((v,W),l)->xU (qR β F w) us vals.toList->o.upon cx.P a K Qx ((execOp a.eval o).run cx.P w):=by
    intro f us vals he hq hv;rw[he];rcases zM1 R ht hq hv with⟨g,h1,h2⟩|⟨x,w',h1,x',β',F',e,R',hx⟩
    .rw[h1];simp only[Oper.upon];refine h2.mono ?_;rintro e w' ⟨x,β',F',rfl,R',hx⟩;exact hK β' F' _ _ (R'.put hd' hx)
    .cases e;rw[h1];exact hK β' F' _ _ (R'.put hd' hx)
   have callL:∀{f:FuncId}{us:List V}{vals:Array Value},execOp a.eval o=callFunc f vals->(zAb tab f us nb).run hm=some ((v,W),l)->xU (qR β F w) us vals.toList->o.upon cx.P a K Qx ((execOp a.eval o).run cx.P w):=by
    intro f us vals he hq hv;rw[he];rcases zHn R ht hq hv with⟨g,h1,h2⟩|⟨x,w',h1,x',β',F',e,R',hx⟩
    .rw[h1];simp only[Oper.upon];refine h2.mono ?_;rintro e w' ⟨x,β',F',rfl,R',hx⟩;exact hK β' F' _ _ (R'.put hd' hx)
    .cases e;rw[h1];exact hK β' F' _ _ (R'.put hd' hx)
   have plain:(zPt cx.P o.op).map (λp=>(AK.op (if keep==1 then p.1.cut else p.1),p.2))=some (kd',xs)->o.upon cx.P a K Qx ((execOp a.eval o).run cx.P w):=by
    intro h;simp only[Option.map_eq_some_iff]at h;obtain⟨⟨ao,zs⟩,hao,e⟩:=h;simp only[Prod.mk.injEq]at e;obtain⟨rfl,rfl⟩:=e;have hq3:(sem (if keep==1 then ao.cut else ao) vs nb).run hm=some ((v,W),l):=hq2;generalize (keep==1)=kp at hq3;have fin:jB0 cx β F fm hm a w v W (execOp a.eval o):=by
     rcases AO.cut_or ao with⟨z,b,rfl,hc⟩|hc
     .cases kp
      .exact zCa R hao hall hq3
      .rw[if_pos rfl,hc]at hq3;exact zFe R hao hall hq3
     .have e:(if kp then ao.cut else ao)=ao:=by rw[hc,ite_self]
      rw[e]at hq3;exact zCa R hao hall hq3
    obtain⟨n,w',β',x,h1,h2,h3,h4,h5⟩:=fin;rw[h1];rcases h2 with rfl|⟨rfl,rfl⟩
    .exact hK β' F _ _ (h3.put hd' h4)
    .exact hK β' F _ _ (h3.put hd' h4)
   obtain⟨dst,op,ty,pos,after,guard⟩:=o;cases op with
   |call c=>
    obtain⟨callee,args,ts⟩:=c;cases callee with
    |value fo=>
     cases fo with
     |tmp t=>
      simp only[zR7,Option.some.injEq,Prod.mk.injEq]at hkd;obtain⟨rfl,rfl⟩:=hkd;cases hall with
      |cons hx hrest=>
       rename_i u us;cases u<;>simp only[AK.q]at hq2<;>(try(cases hq2;done))
       .rename_i f caps;generalize h0:a.eval (.tmp t)=y0 at hx;cases hx with
        |fn _ _ cvs hl hc=>
         refine call (vals:=args.map a.eval++cvs) ?_ hq2 ?_
         .simp only[execOp,resolve,h0,Deferred.ofValue];simp[invoke,pure_bind]
         .have h1:=zA2 hrest;have h2:xU (qR β F w) caps cvs.toList:=qVt (by simpa using hl) (λi c u hc' hu=>hc i c u hc' (by simpa using hu));simpa using zV4 h1 h2
       .rename_i g id i fo;generalize h0:a.eval (.tmp t)=y0 at hx;cases hx with
        |bd _ _ _ _ b sz room hb=>
         refine call (vals := #[.pointer (some ⟨b,i*sz+fo,none⟩)]++args.map a.eval) ?_ hq2 ?_
         .simp only[execOp,resolve,h0,Deferred.ofValue];simp[invoke,pure_bind]
         .have h1:=zA2 hrest;have h2:qR β F w (.ref id i fo) (.pointer (some ⟨b,i*sz+fo,none⟩)):= .ref id i fo b sz room hb;simpa using xU.cons h2 h1
     |func f=>
      simp only[zR7,Option.some.injEq,Prod.mk.injEq]at hkd;obtain⟨rfl,rfl⟩:=hkd;have he:execOp a.eval ⟨dst,.call ⟨.value (.func f),args,ts⟩,ty,pos,after,guard⟩=callFunc f (args.map a.eval):=by
       have:execOp a.eval ⟨dst,.call ⟨.value (.func f),args,ts⟩,ty,pos,after,guard⟩=callFunc f (#[]++args.map a.eval ++ #[]):=rfl;rw[this];simp
      have hvs:xU (qR β F w) vs (args.map a.eval).toList:=by simpa using zA2 hall
      split at hq2
      .exact callL he hq2 hvs
      .exact call he hq2 hvs
     |const c=>exact plain hkd
     |global g=>exact plain hkd
    |invoke r m=>exact plain hkd
    |builtin b=>exact plain hkd
   |_=>exact plain hkd
 .cases hag
end Go.Eng
end
section
namespace Go.Eng
open List
variable {β:Nat->Option BI}{F:Nat->Prop}{w:World}{cx:Cx}{fm:Nat->Option V}{hm:Nat->Option Ob}{a:Act}
inductive Lex (tab:Tab)(gl:Gl):List zU->Nat->(Nat->Option V)->(Nat->Option Ob)->List (V×Wr×List Nat)->(Nat->Option V)->(Nat->Option Ob)->Prop
 |nil {nb:Nat} {fm:Nat->Option V} {hm:Nat->Option Ob}:Lex tab gl [] nb fm hm [] fm hm
 |cons {o:zU} {r:List zU} {nb:Nat} {fm fm':Nat->Option V} {hm hm':Nat->Option Ob} {v:V} {W:Wr} {l:List Nat} {tr:List (V×Wr×List Nat)}
   (h:(o.q tab gl fm nb).run hm=some ((v,W),l)) (t:Lex tab gl r (nb+16) (qY0 fm o.dst v) (upd hm W) tr fm' hm'):Lex tab gl (o::r) nb fm hm ((v,W,l)::tr) fm' hm'
def zMt (P:Program)(nt:Nat)(ops:Array Oper):Nat->List zU->Prop
 |i,[]=>ops.size=i
 |i,ao::r=>(∃o keep,ops[i]?=some o/\jKj P nt ops keep o=some ao)/\zMt P nt ops (i+1) r
theorem zR9 {tab:Tab}(ht:xQ cx.P cx.gl tab){ops:Array Oper}{Qx:Exit->Act->World->Prop}:∀{aos:List zU}{i nb:Nat}{β:Nat->Option BI}{F:Nat->Prop}{fm fm':Nat->Option V}{hm hm':Nat->Option Ob}{tr:List (V×Wr×List Nat)}{a:Act}{w:World},
  zMt cx.P cx.nt ops i aos->Lex tab cx.gl aos nb fm hm tr fm' hm'->Rel cx β F fm hm a w->(∀β' F' a' w',Rel cx β' F' fm' hm' a' w'->Qx .normal a' w')->∀l,l=(List.range ops.size).drop i->wpOps cx.P ops Qx l a w
 |[],i,nb,β,F,fm,fm',hm,hm',tr,a,w,hag,hl,R,hQ,l,hl'=>by
  cases hl;have:l=[]:=by
   rw[hl',drop_eq_nil_iff,length_range,hag];exact Nat.le_refl _
  subst this;exact hQ β F a w R
 |ao::r,i,nb,β,F,fm,fm',hm,hm',tr,a,w,hag,hl,R,hQ,l,hl'=>by
  cases hl with
  |cons h t=>
   obtain⟨⟨o,keep,ho,hk⟩,hag'⟩:=hag;have hi:i<ops.size:=(Array.getElem?_eq_some_iff.1 ho).1;have:l=i::(List.range ops.size).drop (i+1):=by
    rw[hl',drop_eq_getElem_cons (by simpa using hi)];simp
   subst this;rw[wpOps_cons];exact zAx R ht ho hk h (λβ' F' a' w' R'=>zR9 ht hag' t R' hQ _ rfl)
def SF (D:Nat->Option Nat)(v:Nat->V)(sel:Nat->Bool)(fm:Nat->Option V):Nat->(Nat->Option V)
 |0=>fm
 |n+1=>if sel n then qY0 (SF D v sel fm n) (D n) (v n) else SF D v sel fm n
def SH (W:Nat->Wr)(sel:Nat->Bool)(hm:Nat->Option Ob):Nat->(Nat->Option Ob)
 |0=>hm
 |n+1=>if sel n then upd (SH W sel hm n) (W n) else SH W sel hm n
def wT (W:Wr):List Nat:=W.map (·.1)
theorem zCy:∀{W:Wr}{hm hm':Nat->Option Ob}{id:Nat},id∈wT W->upd hm W id=upd hm' W id
 |[],_,_,_,h=>by simp[wT]at h
 |(i,o)::r,hm,hm',id,h=>by
  simp only[upd];by_cases hr:id∈wT r
  .exact zCy hr
  .have hi:id=i:=by
    simp only[wT,map_cons,mem_cons]at h hr;rcases h with h|h
    .exact h
    .exact absurd h hr
   have miss:∀p∈r,p.1≠id:=λp hp e=>hr (by simp only[wT,mem_map];exact⟨p,hp,e⟩)
   rw[qEc miss,qEc miss,if_pos hi,if_pos hi]
theorem qC3 {W:Wr}{hm:Nat->Option Ob}{id:Nat}(h:id ∉ wT W):upd hm W id=hm id:=
 qEc (λp hp e=>h (by simp only[wT,mem_map];exact⟨p,hp,e⟩))
theorem jBd {W W':Wr}{hm:Nat->Option Ob}(h:∀id,id∈wT W->id ∉ wT W'):upd (upd hm W) W'=upd (upd hm W') W:=by
 funext id;by_cases h1:id∈wT W
 .rw[qC3 (h id h1),zCy (hm:=hm) (hm':=upd hm W') h1]
 .by_cases h2:id∈wT W'
  .rw[zCy (hm:=upd hm W) (hm':=hm) h2,qC3 h1]
  .rw[qC3 h2,qC3 h1,qC3 h1,qC3 h2]
theorem zS4 {fm:Nat->Option V}{d e:Option Nat}{v u:V}(h:∀t,d=some t->e≠some t):qY0 (qY0 fm d v) e u=qY0 (qY0 fm e u) d v:=by
 funext t;unfold qY0;by_cases h1:d=some t
 .have:=h t h1;simp[h1,this]
 .simp[h1]
section
variable {D:Nat->Option Nat}{v:Nat->V}{W:Nat->Wr}{sel sel':Nat->Bool}
theorem zAy {t:Nat}:∀{n:Nat},(∀j,j<n->D j=some t->sel j=sel' j)->SF D v sel fm n t=SF D v sel' fm n t
 |0,_=>rfl
 |n+1,h=>by
  have ih:=zAy (n:=n) (λj hj=>h j oM);simp only[SF];by_cases hd:D n=some t
  .have e:=h n oM hd;rw[e];split
   .simp[qY0,hd]
   .exact ih
  .split<;>split<;>simp[qY0,hd,ih]
theorem jB2 {t i:Nat}:∀{n:Nat},i<=n->(∀j,i<=j->j<n->D j=some t->sel j=false)->SF D v sel fm n t=SF D v sel fm i t
 |0,h,_=>by rw[Nat.le_zero.1 h]
 |n+1,h,hs=>by
  rcases Nat.lt_or_ge n i with h1|h1
  .rw[show i=n+1 by omega]
  .rw[<-jB2 (n:=n) h1 (λj h2 h3=>hs j h2 oM)];simp only[SF];split
   .rename_i hsn;by_cases hd:D n=some t
    .rw[hs n h1 oM hd]at hsn;cases hsn
    .simp[qY0,hd]
   .rfl
theorem zA0 {id:Nat}:∀{n:Nat},(∀j,j<n->id∈wT (W j)->sel j=sel' j)->SH W sel hm n id=SH W sel' hm n id
 |0,_=>rfl
 |n+1,h=>by
  have ih:=zA0 (n:=n) (λj hj=>h j oM);simp only[SH];by_cases hd:id∈wT (W n)
  .have e:=h n oM hd;rw[e];split
   .exact zCy hd
   .exact ih
  .split<;>split<;>simp only[qC3 hd,ih]
theorem jB4 {id i:Nat}:∀{n:Nat},i<=n->(∀j,i<=j->j<n->id∈wT (W j)->sel j=false)->SH W sel hm n id=SH W sel hm i id
 |0,h,_=>by rw[Nat.le_zero.1 h]
 |n+1,h,hs=>by
  rcases Nat.lt_or_ge n i with h1|h1
  .rw[show i=n+1 by omega]
  .rw[<-jB4 (n:=n) h1 (λj h2 h3=>hs j h2 oM)];simp only[SH];split
   .rename_i hsn;by_cases hd:id∈wT (W n)
    .rw[hs n h1 oM hd]at hsn;cases hsn
    .exact qC3 hd
   .rfl
def qA8 (sel:Nat->Bool)(i:Nat):Nat->Bool:=λj=>if j=i then true else sel j
theorem jB1 {i:Nat}(hi:sel i=false):∀{n:Nat},(∀j,i<j->j<n->sel j=true->∀t,D i=some t->D j≠some t)->SF D v (qA8 sel i) fm n=if i<n then qY0 (SF D v sel fm n) (D i) (v i) else SF D v sel fm n
 |0,_=>by simp[SF]
 |n+1,h=>by
  have ih:=jB1 (n:=n) hi (λj h1 h2=>h j h1 oM);simp only[SF];rw[ih];by_cases hn:n=i
  .subst hn;simp[qA8,hi]
  .have e:qA8 sel i n=sel n:=by simp[qA8,hn]
   rw[e];by_cases hlt:i<n
   .have hlt':i<n+1:=oM;rw[if_pos hlt,if_pos hlt'];split
    .rename_i hs;exact zS4 (h n hlt oM hs)
    .rfl
   .have hlt':¬ i<n+1:=oM;rw[if_neg hlt,if_neg hlt']
theorem jB3 {i:Nat}(hi:sel i=false):∀{n:Nat},(∀j,i<j->j<n->sel j=true->∀id,id∈wT (W i)->id ∉ wT (W j))->SH W (qA8 sel i) hm n=if i<n then upd (SH W sel hm n) (W i) else SH W sel hm n
 |0,_=>by simp[SH]
 |n+1,h=>by
  have ih:=jB3 (n:=n) hi (λj h1 h2=>h j h1 oM);simp only[SH];rw[ih];by_cases hn:n=i
  .subst hn;simp[qA8,hi]
  .have e:qA8 sel i n=sel n:=by simp[qA8,hn]
   rw[e];by_cases hlt:i<n
   .have hlt':i<n+1:=oM;rw[if_pos hlt,if_pos hlt'];split
    .rename_i hs;exact jBd (h n hlt oM hs)
    .rfl
   .have hlt':¬ i<n+1:=oM;rw[if_neg hlt,if_neg hlt']
end
def zU.slots (o:zU):List Nat:=
 (o.args.filterMap λ|.tmp t=>some t|_=>none)++(match o.guard with|some (t,_)=>[t]|none=>[])
theorem qT0 {gl:Gl}{fm fm':Nat->Option V}:∀{xs:List qHb},(∀t,qHb.tmp t∈xs->fm t=fm' t)->qB1 gl fm xs=qB1 gl fm' xs
 |[],_=>rfl
 |x::r,h=>by
  have ih:=qT0 (gl:=gl) (xs:=r) (λt ht=>h t (by simp[ht]));have:x.val gl fm=x.val gl fm':=by
   cases x with
   |tmp t=>exact h t sM
   |_=>rfl
  simp only[qB1,this,ih]
theorem jHg {tab:Tab}{gl:Gl}{o:zU}{fm fm':Nat->Option V}{nb:Nat}(h:∀t∈o.slots,fm t=fm' t):o.q tab gl fm nb=o.q tab gl fm' nb:=by
 have h1:qB1 gl fm o.args=qB1 gl fm' o.args:=qT0 (λt ht=>h t (by
  unfold zU.slots;rw[mem_append];exact .inl (mem_filterMap.2 ⟨_,ht,rfl⟩)))
 have h2:qG3 fm o.guard=qG3 fm' o.guard:=by
  cases hg:o.guard with
  |none=>rfl
  |some p=>
   obtain⟨t,want⟩:=p;have:=h t (by unfold zU.slots;rw[hg];simp);simp only[qG3,this]
 simp only[zU.q,zU.go,h1,h2]
end Go.Eng
end
section
namespace Go.Eng
open List
variable {β:Nat->Option BI}{F:Nat->Prop}{w:World}{cx:Cx}{fm:Nat->Option V}{hm:Nat->Option Ob}{a:Act}
theorem zAz {D:Nat->Option Nat}{v:Nat->V}:∀{n:Nat}{fm:Nat->Option V},SF D v (λ_=>true) fm (n+1)=SF (λi=>D (i+1)) (λi=>v (i+1)) (λ_=>true) (qY0 fm (D 0) (v 0)) n
 |0,_=>rfl
 |n+1,fm=>by
  rw[SF,zAz (n:=n)];simp only[SF,if_true]
theorem zA1 {W:Nat->Wr}:∀{n:Nat}{hm:Nat->Option Ob},SH W (λ_=>true) hm (n+1)=SH (λi=>W (i+1)) (λ_=>true) (upd hm (W 0)) n
 |0,_=>rfl
 |n+1,hm=>by
  rw[SH,zA1 (n:=n)];simp only[SH,if_true]
def trV (tr:List (V×Wr×List Nat))(i:Nat):V:=(tr.getD i (.nil,[],[])).1
def trW (tr:List (V×Wr×List Nat))(i:Nat):Wr:=(tr.getD i (.nil,[],[])).2.1
def trL (tr:List (V×Wr×List Nat))(i:Nat):List Nat:=(tr.getD i (.nil,[],[])).2.2
def aoD (aos:List zU)(i:Nat):Option Nat:=(aos.getD i default).dst
theorem Lex.index {tab:Tab}{gl:Gl}{aos:List zU}{nb:Nat}{fm fm':Nat->Option V}{hm hm':Nat->Option Ob}{tr:List (V×Wr×List Nat)}(h:Lex tab gl aos nb fm hm tr fm' hm') :
  (∀i ao,aos[i]?=some ao->(ao.q tab gl (SF (aoD aos) (trV tr) (λ_=>true) fm i) (nb+16*i)).run (SH (trW tr) (λ_=>true) hm i)=some ((trV tr i,trW tr i),trL tr i))/\
   fm'=SF (aoD aos) (trV tr) (λ_=>true) fm aos.length/\hm'=SH (trW tr) (λ_=>true) hm aos.length:=by
 induction h with
 |nil=>exact⟨by intro i ao h;simp at h,rfl,rfl⟩
 |cons h _ ih=>
  rename_i o r nb fm fm' hm hm' v W l tr t;obtain⟨h1,h2,h3⟩:=ih;refine⟨λi ao hi=>?_,?_,?_⟩
  .cases i with
   |zero=>
    simp at hi;subst hi;exact h
   |succ i=>
    simp at hi;rw[zAz,zA1];have:=h1 i ao hi;rw[show nb+16*(i+1)=nb+16+16*i by omega];exact this
  .rw[length_cons,zAz];exact h2
  .rw[length_cons,zA1];exact h3
def zHb (anc:List Nat):List Edge->Nat
 |[]=>0
 |e::r=>if Region.binds .any e then zHb anc r ||| (1 <<< e.on) ||| anc.getD e.on 0 else zHb anc r
theorem qVv {anc:List Nat}:∀{es:List Edge}{x:Nat},(zHb anc es).testBit x=true->∃e∈es,Region.binds .any e=true/\(x=e.on\/(anc.getD e.on 0).testBit x=true)
 |[],x,h=>by simp[zHb]at h
 |e::r,x,h=>by
  unfold zHb at h;split at h
  .rename_i hb;rw[Nat.testBit_or,Nat.testBit_or,Bool.or_eq_true,Bool.or_eq_true]at h;rcases h with (h|h)|h
   .obtain⟨e',h1,h2,h3⟩:=qVv h;exact⟨e',by simp[h1],h2,h3⟩
   .refine⟨e,sM,hb,.inl ?_⟩;rw[Nat.one_shiftLeft,Nat.testBit_two_pow]at h;exact(of_decide_eq_true h).symm
   .exact⟨e,sM,hb,.inr h⟩
  .obtain⟨e',h1,h2,h3⟩:=qVv h;exact⟨e',by simp[h1],h2,h3⟩
def jSv:List Oper->List Nat->List Nat
 |[],acc=>acc
 |o::r,acc=>jSv r (acc++[zHb acc o.after.toList])
def jS0 (xs ys:List Nat):Bool:=xs.all λx => !ys.contains x
theorem qQh {xs ys:List Nat}(h:jS0 xs ys=true):∀x,x∈xs->x ∉ ys:=by
 intro x hx hy;have:=all_eq_true.1 h x hx;simp at this;exact this hy
def apartS (x y:zU):Bool:=
 (match x.dst with
 |some d => !y.slots.contains d&&y.dst != some d
 |none=>true) &&
 (match y.dst with
 |some d => !x.slots.contains d
 |none=>true)
def zUr (anc:List Nat)(aos:List zU):Bool:=
 (List.range aos.length).all λj=>(List.range j).all λi=>(anc.getD j 0).testBit i||apartS (aos.getD i default) (aos.getD j default)
def zQv (anc:List Nat)(ops:List Oper):Bool:=
 (List.range ops.length).all λi=>(ops.getD i default).after.toList.all (λe => !Region.binds .any e||decide (e.on<i))&&anc.getD i 0==zHb anc (ops.getD i default).after.toList
def apartW (x y:List Nat×List Nat):Bool:=jS0 x.1 y.1&&jS0 x.1 y.2&&jS0 x.2 y.1
def chk (anc:List Nat)(tr:List (List Nat×List Nat)):Bool:=
 (List.range tr.length).all λj=>(List.range j).all λi=>(anc.getD j 0).testBit i||apartW (tr.getD i ([],[])) (tr.getD j ([],[]))
def cnt (sel:Nat->Bool):Nat->Nat
 |0=>0
 |n+1=>cnt sel n+if sel n then 0 else 1
theorem zQf {sel:Nat->Bool}{i:Nat}(hi:sel i=false):∀{n:Nat},cnt (qA8 sel i) n+(if i<n then 1 else 0)=cnt sel n
 |0=>by simp[cnt]
 |n+1=>by
  have ih:=zQf hi (n:=n);simp only[cnt];by_cases hn:n=i
  .subst hn;simp[qA8,hi]at ih⊢;omega
  .have e:qA8 sel i n=sel n:=by simp[qA8,hn]
   rw[e];by_cases hlt:i<n
   .have:i<n+1:=oM;simp only[hlt,this,if_true]at ih⊢;omega
   .have:¬ i<n+1:=oM;simp only[hlt,this,if_false]at ih⊢;omega
theorem zKg {sel:Nat->Bool}:∀{n:Nat},cnt sel n=0->∀i,i<n->sel i=true
 |0,_,i,h=>oM
 |n+1,h,i,hi=>by
  simp only[cnt]at h;by_cases hn:i=n
  .subst hn;cases hs:sel i
   .rw[hs]at h;simp at h
   .rfl
  .exact zKg (n:=n) oM i oM
theorem qVs {P:Program}{nt:Nat}{ops:Array Oper}:∀{aos:List zU}{i:Nat},zMt P nt ops i aos->ops.size=i+aos.length/\∀j ao,aos[j]?=some ao->∃o keep,ops[i+j]?=some o/\jKj P nt ops keep o=some ao
 |[],i,h=>⟨h,by intro j ao hj;simp at hj⟩
 |x::r,i,h=>by
  obtain⟨⟨o,keep,h1,h2⟩,h3⟩:=h;obtain⟨g1,g2⟩:=qVs h3;refine⟨by rw[g1,length_cons];omega,λj ao hj=>?_⟩;cases j with
  |zero=>simp at hj;subst hj;exact⟨o,keep,h1,h2⟩
  |succ j=>
   simp at hj;rw[show i+(j+1)=i+1+j by omega];exact g2 j ao hj
theorem qWn {α:Type}{l:List α}{i:Nat}{d x:α}(h:l[i]?=some x):l.getD i d=x:=by simp[List.getD,h]
theorem jGm {tab:Tab}(ht:xQ cx.P cx.gl tab){ops:Array Oper}{Qx:Exit->Act->World->Prop}{aos:List zU}{anc:List Nat}{nb:Nat}{fm':Nat->Option V}{hm':Nat->Option Ob}{tr:List (V×Wr×List Nat)}
  (hag:zMt cx.P cx.nt ops 0 aos) (hlex:Lex tab cx.gl aos nb fm hm tr fm' hm') (hedge:zQv anc ops.toList=true) (hslot:zUr anc aos=true)
  (hw:∀i j,i<j->j<ops.size->(anc.getD j 0).testBit i=true\/apartW (wT (trW tr i),trL tr i) (wT (trW tr j),trL tr j)=true)
  (hQ:∀β' F' a' w',Rel cx β' F' fm' hm' a' w'->Qx .normal a' w') :
  ∀(fuel:Nat)(listed:Array Bool)(sel:Nat->Bool)(β:Nat->Option BI)(F:Nat->Prop)(a:Act)(w:World),listed.size=ops.size->(∀i,i<ops.size->listed.getD i true=sel i/\listed.getD i false=sel i)->cnt sel ops.size=fuel->
   (∀i o,sel i=true->ops[i]?=some o->∀e∈o.after,Region.binds .any e=true->sel e.on=true)->Rel cx β F (SF (aoD aos) (trV tr) sel fm ops.size) (SH (trW tr) sel hm ops.size) a w->wpAny cx.P .any ops Qx fuel listed a w:=by
 obtain⟨hidx,hfm',hhm'⟩:=hlex.index;obtain⟨hsize,hget⟩:=qVs hag;simp only[Nat.zero_add]at hsize hget;have hE1:∀i o,ops[i]?=some o->∀e∈o.after,Region.binds .any e=true->e.on<i:=by
  intro i o ho e he hb;have hi:i<ops.toList.length:=by simpa using(Array.getElem?_eq_some_iff.1 ho).1
  have h1:=all_eq_true.1 hedge i (by simpa using hi);rw[Bool.and_eq_true]at h1;rw[qWn (x:=o) (by simpa using ho)]at h1;have:=all_eq_true.1 h1.1 e (by simpa using he);simpa [hb]using this
 have hE2:∀i o x,ops[i]?=some o->(anc.getD i 0).testBit x=true->∃e∈o.after,Region.binds .any e=true/\(x=e.on\/(anc.getD e.on 0).testBit x=true):=by
  intro i o x ho hx;have hi:i<ops.toList.length:=by simpa using(Array.getElem?_eq_some_iff.1 ho).1
  have h1:=all_eq_true.1 hedge i (by simpa using hi);rw[Bool.and_eq_true]at h1;rw[qWn (x:=o) (by simpa using ho)]at h1;have:=eq_of_beq h1.2;rw[this]at hx;obtain⟨e,h2,h3,h4⟩:=qVv hx;exact⟨e,by simpa using h2,h3,h4⟩
 have hclosed:∀(sel:Nat->Bool),(∀i o,sel i=true->ops[i]?=some o->∀e∈o.after,Region.binds .any e=true->sel e.on=true)->∀i,i<ops.size->sel i=true->∀x,(anc.getD i 0).testBit x=true->sel x=true:=by
  intro sel hc i
  induction i using Nat.strongRecOn with
  |_ i ih=>
   intro hi hs x hx;obtain⟨e,h1,h2,h3⟩:=hE2 i ops[i] x (by simp[hi]) hx;have hlt:=hE1 i ops[i] (by simp[hi]) e h1 h2;have hse:=hc i ops[i] hs (by simp[hi]) e h1 h2;rcases h3 with rfl|h3
   .exact hse
   .exact ih e.on hlt oM hse x h3
 have hS:∀i j,i<j->j<ops.size->(anc.getD j 0).testBit i=true\/apartS (aos.getD i default) (aos.getD j default)=true:=by
  intro i j hij hj;have h1:=all_eq_true.1 hslot j soM;have h2:=all_eq_true.1 h1 i (by simpa using hij);simpa using h2
 have apart:∀i j,i<ops.size->j<ops.size->i≠j->(anc.getD j 0).testBit i=false->(anc.getD i 0).testBit j=false->
   (∀t,aoD aos j=some t->t ∉ (aos.getD i default).slots/\aoD aos i≠some t)/\(∀id,id∈wT (trW tr j)->id ∉ trL tr i/\id ∉ wT (trW tr i)):=by
  intro i j hi hj hne h1 h2;rcases Nat.lt_or_gt_of_ne hne with hlt|hlt
  .have a1:apartS (aos.getD i default) (aos.getD j default)=true:=by
    rcases hS i j hlt hj with h|h
    .rw[h1]at h;cases h
    .exact h
   have a2:apartW (wT (trW tr i),trL tr i) (wT (trW tr j),trL tr j)=true:=by
    rcases hw i j hlt hj with h|h
    .rw[h1]at h;cases h
    .exact h
   simp only[apartW,Bool.and_eq_true]at a2;refine⟨λt ht=>?_,λid hid=>⟨λh=>qQh a2.2 id h hid,λh=>qQh a2.1.1 id h hid⟩⟩;unfold apartS at a1;rw[Bool.and_eq_true]at a1;unfold aoD at ht⊢;rw[ht]at a1;refine⟨by simpa using a1.2,λh=>?_⟩;rw[h]at a1;simp at a1
  .have a1:apartS (aos.getD j default) (aos.getD i default)=true:=by
    rcases hS j i hlt hi with h|h
    .rw[h2]at h;cases h
    .exact h
   have a2:apartW (wT (trW tr j),trL tr j) (wT (trW tr i),trL tr i)=true:=by
    rcases hw j i hlt hi with h|h
    .rw[h2]at h;cases h
    .exact h
   simp only[apartW,Bool.and_eq_true]at a2;refine⟨λt ht=>?_,λid hid=>⟨λh=>qQh a2.1.2 id hid h,λh=>qQh a2.1.1 id hid h⟩⟩;unfold apartS at a1;rw[Bool.and_eq_true]at a1;unfold aoD at ht⊢;rw[ht]at a1;simp only[Bool.and_eq_true,Bool.not_eq_true',bne_iff_ne,ne_eq]at a1;exact⟨by simpa using a1.1.1,a1.1.2⟩
 have hall:∀(listed:Array Bool)(sel:Nat->Bool),listed.size=ops.size->(∀i,i<ops.size->listed.getD i true=sel i/\listed.getD i false=sel i)->Region.ready .any ops listed=[]->∀i,i<ops.size->sel i=true:=by
  intro listed sel hls hl hr i
  induction i using Nat.strongRecOn with
  |_ i ih=>
   intro hi;cases hs:sel i with
   |true=>rfl
   |false=>
    have:i∈Region.ready .any ops listed:=mem_ready.2 ⟨by rw[(hl i hi).1];exact hs,ops[i],by simp[hi],λe he hb=>by
     have hlt:=hE1 i ops[i] (by simp[hi]) e he hb;rw[(hl e.on oM).2];exact ih e.on hlt oM⟩
    rw[hr]at this;cases this
 have hdone:∀(sel:Nat->Bool)(β:Nat->Option BI)(F:Nat->Prop)(a:Act)(w:World),(∀i,i<ops.size->sel i=true)->Rel cx β F (SF (aoD aos) (trV tr) sel fm ops.size) (SH (trW tr) sel hm ops.size) a w->Qx .normal a w:=by
  intro sel β F a w hs R;refine hQ β F a w ?_;have e1:SF (aoD aos) (trV tr) sel fm ops.size=fm':=by
   rw[hfm',<-hsize];funext t;exact zAy (λj hj _=>hs j hj)
  have e2:SH (trW tr) sel hm ops.size=hm':=by
   rw[hhm',<-hsize];funext t;exact zA0 (λj hj _=>hs j hj)
  rw[e1,e2]at R;exact R
 intro fuel
 induction fuel with
 |zero=>
  intro listed sel β F a w hls hl hc hcl R;have hs:=zKg hc;refine⟨?_,hdone sel β F a w hs R⟩;refine eq_nil_iff_forall_not_mem.2 (λi hi=>?_);obtain⟨h1,o,ho,_⟩:=mem_ready.1 hi;have hi':=(Array.getElem?_eq_some_iff.1 ho).1;rw[(hl i hi').1,hs i hi']at h1;cases h1
 |succ fuel ih=>
  intro listed sel β F a w hls hl hc hcl R;refine⟨λhr=>hdone sel β F a w (hall listed sel hls hl hr) R,λi hi=>?_⟩;obtain⟨h1,o,ho,hwait⟩:=mem_ready.1 hi;have hi':=(Array.getElem?_eq_some_iff.1 ho).1;have hsi:sel i=false:=by rw[<-(hl i hi').1];exact h1
  have hafter:∀e∈o.after,Region.binds .any e=true->sel e.on=true:=λe he hb=>by
   have hlt:=hE1 i o ho e he hb;rw[<-(hl e.on oM).2];exact hwait e he hb
  have hanc:∀x,(anc.getD i 0).testBit x=true->sel x=true:=by
   intro x hx;obtain⟨e,g1,g2,g3⟩:=hE2 i o x ho hx;have hlt:=hE1 i o ho e g1 g2;have hse:=hafter e g1 g2;rcases g3 with rfl|g3
   .exact hse
   .exact hclosed sel hcl e.on oM hse x g3
  have hil:i<aos.length:=oM;obtain⟨o',keep,ho',hk⟩:=hget i aos[i] (by simp[hil]);rw[ho]at ho';cases ho';have hao:aos.getD i default=aos[i]:=qWn (by simp[hil]);have hun:∀j,j<ops.size->(sel j=true/\i<j\/sel j=false/\j<i)->(∀t,aoD aos j=some t->t ∉ (aos.getD i default).slots/\aoD aos i≠some t)/\(∀id,id∈wT (trW tr j)->id ∉ trL tr i/\id ∉ wT (trW tr i)):=by
   intro j hj hcase;rcases hcase with⟨hs,hlt⟩|⟨hs,hlt⟩
   .refine apart i j hi' hj oM ?_ ?_
    .cases hb:(anc.getD j 0).testBit i with
     |false=>rfl
     |true=>have:=hclosed sel hcl j hj hs i hb;rw[hsi]at this;cases this
    .cases hb:(anc.getD i 0).testBit j with
     |false=>rfl
     |true=>
      exfalso;have:∀k,k<ops.size->∀x,(anc.getD k 0).testBit x=true->x<k:=by
       intro k
       induction k using Nat.strongRecOn with
       |_ k ihk=>
        intro hk x hx;obtain⟨e,g1,g2,g3⟩:=hE2 k ops[k] x (by simp[hk]) hx;have hlt:=hE1 k ops[k] (by simp[hk]) e g1 g2;rcases g3 with rfl|g3
        .exact hlt
        .have:=ihk e.on hlt oM x g3;omega
      have:=this i hi' j hb;omega
   .refine apart i j hi' hj oM ?_ ?_
    .cases hb:(anc.getD j 0).testBit i with
     |false=>rfl
     |true=>
      exfalso;have:∀k,k<ops.size->∀x,(anc.getD k 0).testBit x=true->x<k:=by
       intro k
       induction k using Nat.strongRecOn with
       |_ k ihk=>
        intro hk x hx;obtain⟨e,g1,g2,g3⟩:=hE2 k ops[k] x (by simp[hk]) hx;have hlt:=hE1 k ops[k] (by simp[hk]) e g1 g2;rcases g3 with rfl|g3
        .exact hlt
        .have:=ihk e.on hlt oM x g3;omega
      have:=this j hj i hb;omega
    .cases hb:(anc.getD i 0).testBit j with
     |false=>rfl
     |true=>have:=hanc j hb;rw[hs]at this;cases this
  have hslotsEq:∀t∈aos[i].slots,SF (aoD aos) (trV tr) (λ_=>true) fm i t=SF (aoD aos) (trV tr) sel fm ops.size t:=by
   intro t htm;rw[<-hao]at htm;rw[jB2 (n:=ops.size) (i:=i) oM (λj h2 h3 hD=>by
    cases hs:sel j with
    |false=>rfl
    |true=>
     have hne:j≠i:=λe=>by rw[e]at hs;rw[hsi]at hs;cases hs
     exact absurd htm ((hun j h3 (.inl ⟨hs,oM⟩)).1 t hD).1)]
   refine zAy (λj hj hD=>?_);cases hs:sel j with
   |true=>rfl
   |false=>exact absurd htm ((hun j oM (.inr ⟨hs,hj⟩)).1 t hD).1
  have hheapEq:∀id∈trL tr i,SH (trW tr) sel hm ops.size id=SH (trW tr) (λ_=>true) hm i id:=by
   intro id hid;rw[jB4 (n:=ops.size) (i:=i) oM (λj h2 h3 hD=>by
    cases hs:sel j with
    |false=>rfl
    |true=>
     have hne:j≠i:=λe=>by rw[e]at hs;rw[hsi]at hs;cases hs
     exact absurd hid ((hun j h3 (.inl ⟨hs,oM⟩)).2 id hD).1)]
   refine zA0 (λj hj hD=>?_);cases hs:sel j with
   |true=>rfl
   |false=>exact absurd hid ((hun j oM (.inr ⟨hs,hj⟩)).2 id hD).1
  have hq:=hidx i aos[i] (by simp[hil]);rw[jHg hslotsEq]at hq;have hq':=Q.run_local _ hq hheapEq;refine zAx R ht ho hk hq' (λβ' F' a' w' R'=>?_);refine ih (listed.setIfInBounds i true) (qA8 sel i) β' F' a' w' (by simpa using hls) (λj hj=>?_) ?_ (λj oj hs hoj e he hb=>?_) ?_
  .by_cases hji:j=i
   .subst hji;simp[qA8,hls,hi']
   .have h2:=hl j hj;rw[getD_set_ne true (λe=>hji e.symm),getD_set_ne false (λe=>hji e.symm)];simpa [qA8,hji]using h2
  .have:=zQf hsi (n:=ops.size);rw[if_pos hi']at this;omega
  .by_cases hji:j=i
   .subst hji;rw[ho]at hoj;cases hoj;have hlt:=hE1 j o ho e he hb;have hse:=hafter e he hb;simp only[qA8];split
    .rfl
    .exact hse
   .have hsj:sel j=true:=by simpa [qA8,hji]using hs
    have:=hcl j oj hsj hoj e he hb;simp only[qA8];split
    .rfl
    .exact this
  .have e1:SF (aoD aos) (trV tr) (qA8 sel i) fm ops.size=qY0 (SF (aoD aos) (trV tr) sel fm ops.size) aos[i].dst (trV tr i):=by
    rw[jB1 hsi (λj hij hj hs t hD hD'=>((hun j hj (.inl ⟨hs,hij⟩)).1 t hD').2 hD),if_pos hi'];unfold aoD;rw[hao]
   have e2:SH (trW tr) (qA8 sel i) hm ops.size=upd (SH (trW tr) sel hm ops.size) (trW tr i):=by
    rw[jB3 hsi (λj hij hj hs id hD hD'=>((hun j hj (.inl ⟨hs,hij⟩)).2 id hD').2 hD),if_pos hi']
   rw[e1,e2];exact R'
end Go.Eng
end
