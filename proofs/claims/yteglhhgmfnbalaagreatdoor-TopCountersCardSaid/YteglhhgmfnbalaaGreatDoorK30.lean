/- A part of an abstract machine, its walks, their tie. -/
import Derived.Test.YteglhhgmfnbalaaGreatDoorK29
set_option linter.all false
section
set_option maxHeartbeats 64000000
set_option maxRecDepth 20000
namespace Go.Eng
open List
variable (tab:Tab)(gl:Gl)
variable {vv:V}{oo:List Ob}
def plC (c:Cm):Prop:=c=.up\/(∃i d,c=.ev i d)\/(∃k,c=.op k)\/(∃h a,c=.po h a)\/(∃h d,c=.px h d)\/(∃h,c=.pd h)\/∃h k r w,c=.ap h k r w
def alP (s:St)(c:Cm):Prop:=plC c\/(s.En/\((∃h po au da,c=.pr h po au da/\0<=h/\h<=2)\/(∃h ss v,c=.un h ss v/\tmI h/\(qBb s h).2=0)\/c=.df\/c=.ud\/((c=.ic\/c=.rd)/\ixO s.a.ix)))
def alB (s:St)(q:Rq):Bool := !(decide (q.co=24\/q.co=25)&&decide (s.a.ix.length=0))
def qN4:ECt where
 α:=St×Rq
 β:=Bool
 aS:=λ(s,q)=>[.t (stA s),.t (rqA q)]
 pre:=λ(s,q)=>∃c,q=qC c/\alP s c
 r:=λb=>.t (.bool b)
 R:=λ(s,q) b=>b=alB s q
theorem jNn {g:EF qN4}{s:St}{q:Rq}(hp:∃c,q=qC c/\alP s c):∃(b:Bool),(b=alB s q)/\qN4.fs g [.t (stA s),.t (rqA q)] []=some (.t (.bool b),[]):=qN4.eq g (s,q) hp
theorem kY {s:St}{q:Rq}(b:Bool)(hR:b=alB s q)(hV:vv=.t (.bool b))(hO:oo=[]):qN4.K (s,q) vv oo:=⟨b,hR,hV,hO⟩
theorem qUl {g1}(h1:LkE tab 131 qNo g1){g2}(h2:LkE tab 132 qGw g2){g3}(h3:LkE tab 133 qE7 g3)(s:St)(q:Rq)(hp:∃c,q=qC c/\alP s c) :
  zP.1.wp tab gl (qD 0 [.t (stA s),.t (rqA q)]) (qD 0 []) (qZ [(4,none)] 0 (qN4.K (s,q))):=by
 obtain⟨c,rfl,hc⟩:=hp;rcases hc with hk|⟨he,⟨h,po,au,da,rfl,h0,h2'⟩|⟨h,ss,v,rfl,ht,ho⟩|rfl|rfl|⟨hcc,hix⟩⟩
 .rcases hk with rfl|⟨i,d,rfl⟩|⟨k,rfl⟩|⟨h,a,rfl⟩|⟨h,d,rfl⟩|⟨h,rfl⟩|⟨h,k,r,w,rfl⟩;all_goals
   simp(maxSteps:=9^9)(disch:=try exact dS)only[go_sem,zP,stA,rqA,qC,iT,mcn,qG];refine qJ 1 ?_;simp(maxSteps:=9^9)(disch:=try exact dS)only[go_sem,qF,stA,rqA,qC,iT,mcn,qG];.repeat first|exact(kY true rfl rfl rfl)|refine⟨rfl,?_⟩
 .obtain⟨x,e,q,e1⟩:=zAd (g:=g1) (s:=s) (h:=h) ⟨he,oM⟩;rw[qHa,if_pos oM]at q;cases q;simp only[stA]at e1;simp(maxSteps:=9^9)(disch:=try exact dS)only[go_sem,zP,stA,rqA,qC,azA,iT,mcn,qG];refine qJ 2 ?_;simp(maxSteps:=9^9)(disch:=try exact dS)only[go_sem,qF,stA,rqA,qC,azA,iT,mcn,qG,h1,e1,h2'];.repeat first|exact(kY true rfl rfl rfl)|refine⟨rfl,?_⟩
 .obtain⟨x,e,q,e1⟩:=zAd (g:=g1) (s:=s) (h:=h) ⟨he,ht⟩;rw[zRj he ho]at q;cases q;obtain⟨y,ey,q2,e2⟩:=zLa (g:=g2) (s:=s) (h:=h) ⟨he.obs.1,ht⟩;have k2:ey=0:=by rw[<-ho,<-q2]
  subst k2;clear q2;generalize zLo _ _=nm at *;simp only[stA,qBy]at e1 e2;simp(maxSteps:=9^9)(disch:=try exact dS)only[go_sem,zP,stA,rqA,qC,azA,iT,mcn,qG];refine qJ 2 ?_;simp(maxSteps:=9^9)(disch:=try exact dS)only[go_sem,qF,stA,rqA,qC,azA,iT,mcn,qG,h1,h2,e1,e2];.repeat first|exact(kY true rfl rfl rfl)|refine⟨rfl,?_⟩
 .obtain⟨x,e,q,e1⟩:=zAd (g:=g1) (s:=s) (h:=1) ⟨he,by unfold tmI;omega⟩;rw[qHa,if_pos oM]at q;cases q;simp only[stA]at e1;simp(maxSteps:=9^9)(disch:=try exact dS)only[go_sem,zP,stA,rqA,qC,azA,iT,mcn,qG];refine qJ 2 ?_;simp(maxSteps:=9^9)(disch:=try exact dS)only[go_sem,qF,stA,rqA,qC,azA,iT,mcn,qG,h1,e1];.repeat first|exact(kY true rfl rfl rfl)|refine⟨rfl,?_⟩
 .obtain⟨x,e,q,e1⟩:=zAd (g:=g1) (s:=s) (h:=1) ⟨he,by unfold tmI;omega⟩;rw[qHa,if_pos oM]at q;cases q;simp only[stA]at e1;simp(maxSteps:=9^9)(disch:=try exact dS)only[go_sem,zP,stA,rqA,qC,azA,iT,mcn,qG];refine qJ 2 ?_;simp(maxSteps:=9^9)(disch:=try exact dS)only[go_sem,qF,stA,rqA,qC,azA,iT,mcn,qG,h1,e1];.repeat first|exact(kY true rfl rfl rfl)|refine⟨rfl,?_⟩
 .obtain⟨x,e,q,e1⟩:=zAd (g:=g1) (s:=s) (h:=1) ⟨he,by unfold tmI;omega⟩;rw[qHa,if_pos oM]at q;cases q;obtain⟨x2,ex2,q2,e2⟩:=zAd (g:=g1) (s:=s) (h:=257) ⟨he,by unfold tmI;omega⟩;rcases hix with hix|⟨y,hix,hy⟩
  .have hB:∀q:Rq,q.co=24\/q.co=25->alB s q=false:=λq h=>by unfold alB;rw[hix,decide_eq_true h];rfl
   have h0:qRw s 257=(0,7):=by rw[qRw,hix];rfl
   have h0b:qBb s 257=(default,7):=by rw[qBb,if_pos (.inl oM)]
   rw[qHa,if_neg oM,h0,h0b,if_neg (by decide),if_neg (by decide)]at q2;cases q2;generalize hnF _=M at *;simp only[stA]at e1 e2;rcases hcc with rfl|rfl
   .simp(maxSteps:=9^9)(disch:=try exact dS)only[go_sem,zP,stA,rqA,qC,azA,iT,mcn,qG];refine qJ 3 ?_;simp(maxSteps:=9^9)(disch:=try exact dS)only[go_sem,qF,stA,rqA,qC,azA,iT,mcn,qG,h1,e1,e2];.repeat first|exact(kY false (hB _ (.inr rfl)).symm rfl rfl)|refine⟨rfl,?_⟩
   .simp(maxSteps:=9^9)(disch:=try exact dS)only[go_sem,zP,stA,rqA,qC,azA,iT,mcn,qG];refine qJ 3 ?_;simp(maxSteps:=9^9)(disch:=try exact dS)only[go_sem,qF,stA,rqA,qC,azA,iT,mcn,qG,h1,e1,e2];.repeat first|exact(kY false (hB _ (.inl rfl)).symm rfl rfl)|refine⟨rfl,?_⟩
  .have hB:∀q:Rq,alB s q=true:=λq=>by unfold alB;rw[hix];simp
   have hx:ixP s.a.ix 257 0=0:=by rw[hix];simp[ixP,hy]
   have h0:qRw s 257=(0,0):=by rw[qRw,hx];rfl
   rw[qHa,if_neg oM,h0,if_pos rfl]at q2;cases q2;obtain⟨i,ei,q3,e3⟩:=zEn (g:=g3) (s:=s) (h:=257) ⟨by rw[hix];simp,by rw[hix];simp[hy],by unfold tmI;omega⟩;rw[h0]at q3;cases q3;generalize inF _=N at *;generalize hnF _=M at *;simp only[stA]at e1 e2 e3;rcases hcc with rfl|rfl
   .simp(maxSteps:=9^9)(disch:=try exact dS)only[go_sem,zP,stA,rqA,qC,azA,iT,mcn,qG];refine qJ 3 ?_;simp(maxSteps:=9^9)(disch:=try exact dS)only[go_sem,qF,stA,rqA,qC,azA,iT,mcn,qG,h1,e1,e2,h3,e3];.repeat first|exact(kY true (hB _).symm rfl rfl)|refine⟨rfl,?_⟩
   .simp(maxSteps:=9^9)(disch:=try exact dS)only[go_sem,zP,stA,rqA,qC,azA,iT,mcn,qG];refine qJ 3 ?_;simp(maxSteps:=9^9)(disch:=try exact dS)only[go_sem,qF,stA,rqA,qC,azA,iT,mcn,qG,h1,e1,e2,h3,e3];.repeat first|exact(kY true (hB _).symm rfl rfl)|refine⟨rfl,?_⟩
def cnC (c:Cm):Prop:=c=.df\/c=.ud\/c=.ic\/c=.rd
def qN6:ECt where
 α:=St×Rq
 β:=St×Rs
 aS:=λ(s,q)=>[.t (stA s),.t (rqA q)]
 pre:=λ(s,q)=>∃lo c,q=qC c/\CmP s lo c/\((∃h po au da,c=.pr h po au da)\/(∃h ss v,c=.un h ss v)\/c=.df\/c=.ud\/((c=.ic\/c=.rd)/\zNm s))
 r:=λ(t,r)=>.tup [.t (stA t),.t (rsA r)]
 R:=λ(s,q)(t,r)=>(∀c,cnC c->q=qC c->(t,r)=jD s c)/\(∀h po au da,q=qC (.pr h po au da)->(t,r)=qPm s h po au da)/\∀h ss v,q=qC (.un h ss v)->t=s/\r=⟨0,[],[(qBb s h).1.s.da],[]⟩
theorem zAj {g:EF qN6}{s:St}{q:Rq}(hp:∃lo c,q=qC c/\CmP s lo c/\((∃h po au da,c=.pr h po au da)\/(∃h ss v,c=.un h ss v)\/c=.df\/c=.ud\/((c=.ic\/c=.rd)/\zNm s))):∃(t:St)(r:Rs),((∀c,cnC c->q=qC c->(t,r)=jD s c)/\(∀h po au da,q=qC (.pr h po au da)->(t,r)=qPm s h po au da)/\∀h ss v,q=qC (.un h ss v)->t=s/\r=⟨0,[],[(qBb s h).1.s.da],[]⟩)/\qN6.fs g [.t (stA s),.t (rqA q)] []=some (.tup [.t (stA t),.t (rsA r)],[]):=by
 obtain⟨y,h1,h2⟩:=qN6.eq g (s,q) hp;exact⟨y.1,y.2,h1,h2⟩
theorem qD9 {s:St}{q:Rq}(t:St)(r:Rs)(hR:(∀c,cnC c->q=qC c->(t,r)=jD s c)/\(∀h po au da,q=qC (.pr h po au da)->(t,r)=qPm s h po au da)/\∀h ss v,q=qC (.un h ss v)->t=s/\r=⟨0,[],[(qBb s h).1.s.da],[]⟩)(hV:vv=.tup [.t (stA t),.t (rsA r)])(hO:oo=[]):qN6.K (s,q) vv oo:=⟨(t,r),hR,hV,hO⟩
theorem jLe {h:Int}{po au da:List UInt8}{c:Cm}(hc:cnC c):¬ qC (.pr h po au da)=qC c:=by rcases hc with rfl|rfl|rfl|rfl<;>simp[qC]
theorem jLf {h ss:Int}{v:List UInt8}{c:Cm}(hc:cnC c):¬ qC (.un h ss v)=qC c:=by rcases hc with rfl|rfl|rfl|rfl<;>simp[qC]
theorem jT2 {c d:Cm}(hc:cnC c)(hd:cnC d)(e:qC c=qC d):c=d:=by
 rcases hc with rfl|rfl|rfl|rfl<;>rcases hd with rfl|rfl|rfl|rfl<;>first|rfl|(simp[qC]at e)
theorem jSz {s t:St}{r:Rs}{c:Cm}(hc:cnC c)(h:(t,r)=jD s c):(∀d,cnC d->qC c=qC d->(t,r)=jD s d)/\(∀h po au da,qC c=qC (.pr h po au da)->(t,r)=qPm s h po au da)/\∀h ss v,qC c=qC (.un h ss v)->t=s/\r=⟨0,[],[(qBb s h).1.s.da],[]⟩:=
 ⟨λd hd e=>by rw[<-jT2 hc hd e];exact h,λ_ _ _ _ e=>absurd e.symm (jLe hc),λ_ _ _ e=>absurd e.symm (jLf hc)⟩
theorem qPs {g1}(h1:LkE tab 146 qOe g1){g4}(h4:LkE tab 149 qOf g4){g11}(h11:LkE tab 153 qH7 g11){g12}(h12:LkE tab 154 qH8 g12){g14}(h14:LkE tab 156 qGy g14)(s:St)(q:Rq)(hp:∃lo c,q=qC c/\CmP s lo c/\((∃h po au da,c=.pr h po au da)\/(∃h ss v,c=.un h ss v)\/c=.df\/c=.ud\/((c=.ic\/c=.rd)/\zNm s))) :
  zW.1.wp tab gl (qD 0 [.t (stA s),.t (rqA q)]) (qD 0 []) (qZ [(4,(some (30,true))),(5,(some (4,true)))] 0 (qN6.K (s,q))):=by
 obtain⟨lo,c,rfl,hc,⟨h,po,au,da,rfl⟩|⟨h,ss,v,rfl⟩|rfl|rfl|⟨hcc,h2'⟩⟩:=hp
 .obtain⟨t,r,q,e1⟩:=jOb (g:=g1) (s:=s) (q:=qC (.pr h po au da)) ⟨h,po,au,da,rfl,hc⟩;have hK:(∀c,cnC c->qC (.pr h po au da)=qC c->(t,r)=jD s c)/\(∀h' po' au' da',qC (.pr h po au da)=qC (.pr h' po' au' da')->(t,r)=qPm s h' po' au' da')/\∀h' ss v,qC (.pr h po au da)=qC (.un h' ss v)->t=s/\r=⟨0,[],[(qBb s h').1.s.da],[]⟩:=⟨λc hc' g=>absurd g (jLe hc'),q,λ_ _ _ g=>by simp[qC]at g⟩;clear q;simp only[stA,rsA,rqA,qC,azA,iT,mcn,qG]at e1;simp(maxSteps:=9^9)(disch:=try exact dS)only[go_sem,zW,stA,rsA,rqA,qC,azA,iT,mcn,qG,h1,e1];.repeat first|exact(qD9 t r hK rfl rfl)|refine⟨rfl,?_⟩
 .obtain⟨t,r,⟨rfl,q⟩,e1⟩:=jOd (g:=g4) (s:=s) (q:=qC (.un h ss v)) ⟨hc.2.2.1,h,ss,v,rfl,hc.2.2.2⟩;have hr:=q h ss v rfl;subst hr;have hK:(∀c,cnC c->qC (.un h ss v)=qC c->(t,(⟨0,[],[(qBb t h).1.s.da],[]⟩:Rs))=jD t c)/\(∀h' po' au' da',qC (.un h ss v)=qC (.pr h' po' au' da')->(t,(⟨0,[],[(qBb t h).1.s.da],[]⟩:Rs))=qPm t h' po' au' da')/\∀h' ss' v',qC (.un h ss v)=qC (.un h' ss' v')->t=t/\(⟨0,[],[(qBb t h).1.s.da],[]⟩:Rs)=⟨0,[],[(qBb t h').1.s.da],[]⟩:=⟨λc hc' g=>absurd g (jLf hc'),λ_ _ _ _ g=>by simp[qC]at g,λ_ _ _ g=>⟨rfl,by rw[(vM g).1]⟩⟩;clear q hc;generalize (qBb t h).1.s.da=da at *;simp only[stA,rsA,rqA,qC,azA,iT,mcn,qG]at e1;simp(maxSteps:=9^9)(disch:=try exact dS)only[go_sem,zW,stA,rsA,rqA,qC,azA,iT,mcn,qG,h4,e1];.repeat first|exact(qD9 t ⟨0,[],[da],[]⟩ hK rfl rfl)|refine⟨rfl,?_⟩
 .obtain⟨t,r,hR,e1⟩:=jNp (g:=g11) (s:=s) (q:=qC .df) ⟨rfl,hc.2.2⟩;have hK:=jSz (c:= .df) (.inl rfl) hR;clear hc hR;simp only[stA,rsA,rqA,qC,azA,iT,mcn,qG]at e1;simp(maxSteps:=9^9)(disch:=try exact dS)only[go_sem,zW,stA,rsA,rqA,qC,azA,iT,mcn,qG,h11,e1];.repeat first|exact(qD9 t r hK rfl rfl)|refine⟨rfl,?_⟩
 .obtain⟨t,r,hR,e1⟩:=jNw (g:=g12) (s:=s) (n:=1) ⟨rfl,hc.2.2⟩;have hK:=jSz (c:= .ud) (.inr (.inl rfl)) hR;clear hc hR;simp only[stA,rsA]at e1;simp(maxSteps:=9^9)(disch:=try exact dS)only[go_sem,zW,stA,rsA,rqA,qC,azA,iT,mcn,qG,h12,e1];.repeat first|exact(qD9 t r hK rfl rfl)|refine⟨rfl,?_⟩
 .rcases hcc with rfl|rfl
  .obtain⟨t,r,⟨hR,-⟩,e1⟩:=jDm (g:=g14) (s:=s) (q:=qC .ic) ⟨.inl rfl,h2'⟩;obtain⟨ht,hr⟩:=hR rfl;have hK:=jSz (s:=s) (t:=t) (r:=r) (c:= .ic) (.inr (.inr (.inl rfl))) (by rw[jD,icR,if_neg h2'.n,ht,hr]);clear hc hR ht hr;simp only[stA,rsA,rqA,qC,azA,iT,mcn,qG]at e1;simp(maxSteps:=9^9)(disch:=try exact dS)only[go_sem,zW,stA,rsA,rqA,qC,azA,iT,mcn,qG,h14,e1];.repeat first|exact(qD9 t r hK rfl rfl)|refine⟨rfl,?_⟩
  .obtain⟨t,r,⟨-,hR⟩,e1⟩:=jDm (g:=g14) (s:=s) (q:=qC .rd) ⟨.inr rfl,h2'⟩;obtain⟨ht,hr⟩:=hR (ixv s) rfl (jM7 h2'.2.2) h2'.v;have hK:=jSz (s:=s) (t:=t) (r:=r) (c:= .rd) (.inr (.inr (.inr rfl))) (by rw[jD,zL5,if_neg h2'.n,ht,hr]);clear hc hR ht hr;simp only[stA,rsA,rqA,qC,azA,iT,mcn,qG]at e1;simp(maxSteps:=9^9)(disch:=try exact dS)only[go_sem,zW,stA,rsA,rqA,qC,azA,iT,mcn,qG,h14,e1];.repeat first|exact(qD9 t r hK rfl rfl)|refine⟨rfl,?_⟩
structure ExP (s:St)(lo:Int)(c:Cm):Prop where
 cm:CmP s lo c
 al:alP s c
 lc:0<=lo/\lo<=4
 on:c=.up\/s.on=true
 au:plC c\/(lo=0/\CkP s (qC c)/\((∃h po au da,c=.pr h po au da)\/(∃h ss v,c=.un h ss v/\(s.ses.length=3/\tmI ss/\ss≠0)/\(qCu s ss).2.2=true)\/c=.df\/c=.ud\/((c=.ic\/c=.rd)/\zNm s)))\/((c=.ic\/c=.rd)/\s.a.ix=[])
theorem jTf {s:St}{c:Cm}(h:plC c):alB s (qC c)=true:=by
 rcases h with rfl|⟨i,d,rfl⟩|⟨k,rfl⟩|⟨h,a,rfl⟩|⟨h,d,rfl⟩|⟨h,rfl⟩|⟨h,k,r,w,rfl⟩<;>simp[alB,qC]
theorem jKf {s:St}{q:Rq}(h:s.a.ix.length≠0):alB s q=true:=by unfold alB;rw[decide_eq_false h];simp
theorem zKf {s:St}{c:Cm}(hc:cnC c):(jD s c).2.no=[]/\((jD s c).2.e≠0->jD s c=(s,⟨(jD s c).2.e,[],[],[]⟩)):=by
 rcases hc with rfl|rfl|rfl|rfl
 .show(dfR s).2.no=[]/\((dfR s).2.e≠0->dfR s=(s,⟨(dfR s).2.e,[],[],[]⟩));unfold dfR;split
  .exact⟨rfl,λh=>absurd rfl h⟩
  .exact⟨rfl,λ_=>rfl⟩
 .show(udR s).2.no=[]/\((udR s).2.e≠0->udR s=(s,⟨(udR s).2.e,[],[],[]⟩));unfold udR;split
  .exact⟨rfl,λ_=>rfl⟩
  .exact⟨rfl,λh=>absurd rfl h⟩
 .show(icR s).2.no=[]/\((icR s).2.e≠0->icR s=(s,⟨(icR s).2.e,[],[],[]⟩));unfold icR;split
  .exact⟨rfl,λ_=>rfl⟩
  .exact⟨rfl,λh=>absurd rfl h⟩
 .show(zL5 s).2.no=[]/\((zL5 s).2.e≠0->zL5 s=(s,⟨(zL5 s).2.e,[],[],[]⟩));unfold zL5 rdR;split
  .exact⟨rfl,λ_=>rfl⟩
  split
  .exact⟨rfl,λ_=>rfl⟩
  .exact⟨rfl,λh=>absurd rfl h⟩
def qN7:ECt where
 α:=St×Int×Rq
 β:=St×Rs
 aS:=λ(s,lo,q)=>[.t (stA s),.t (.int .i64 lo),.t (rqA q)]
 pre:=λ(s,lo,q)=>∃c,q=qC c/\ExP s lo c/\(qC c).W
 r:=λ(t,r)=>.tup [.t (stA t),.t (rsA r)]
 R:=λ(s,lo,q)(t,r)=>∀c,CmP s lo c->q=qC c->(t,r)=jD s c
theorem jNq {g:EF qN7}{s:St}{lo:Int}{q:Rq}(hp:∃c,q=qC c/\ExP s lo c/\(qC c).W):∃(t:St)(r:Rs),(∀c,CmP s lo c->q=qC c->(t,r)=jD s c)/\qN7.fs g [.t (stA s),.t (.int .i64 lo),.t (rqA q)] []=some (.tup [.t (stA t),.t (rsA r)],[]):=by
 obtain⟨y,h1,h2⟩:=qN7.eq g (s,lo,q) hp;exact⟨y.1,y.2,h1,h2⟩
theorem wV {s:St}{lo:Int}{q:Rq}(t:St)(r:Rs)(hR:∀c,CmP s lo c->q=qC c->(t,r)=jD s c)(hV:vv=.tup [.t (stA t),.t (rsA r)])(hO:oo=[]):qN7.K (s,lo,q) vv oo:=⟨(t,r),hR,hV,hO⟩
theorem qUk {g1}(h1:LkE tab 113 qNh g1){g2}(h2:LkE tab 114 qE8 g2){g3}(h3:LkE tab 115 qN4 g3){g4}(h4:LkE tab 116 qN9 g4){g5}(h5:LkE tab 117 qNx g5){g6}(h6:LkE tab 118 qN6 g6){g7}(h7:LkE tab 119 qN0 g7)(s:St)(lo:Int)(q:Rq)(hp:∃c,q=qC c/\ExP s lo c/\(qC c).W) :
  qV.1.wp tab gl (qD 0 [.t (stA s),.t (.int .i64 lo),.t (rqA q)]) (qD 0 []) (qZ [(6,(some (30,true))),(7,(some (4,true)))] 0 (qN7.K (s,lo,q))):=by
 obtain⟨c,rfl,⟨hc,ha,hlo,hon,hk⟩,hw⟩:=hp;obtain⟨e,rfl,e1⟩:=jK3 (g:=g1) hw;obtain⟨b,hb0,e3⟩:=jNn (g:=g3) (s:=s) (q:=qC c) ⟨c,rfl,ha⟩;clear hw ha;rcases hk with hk|⟨rfl,hck,hk⟩|⟨hcc,hix⟩
 .obtain rfl:b=true:=hb0.trans (jTf hk);clear hb0;obtain⟨t,r,hK,e4⟩:=jNs (g:=g4) (s:=s) (lo:=lo) (q:=qC c) ⟨c,rfl,hc,hk⟩;clear hc;rcases hk with rfl|⟨i,d,rfl⟩|⟨k,rfl⟩|⟨h,a,rfl⟩|⟨h,d,rfl⟩|⟨h,rfl⟩|⟨h,k,rf,w,rfl⟩
  .simp only[stA,rsA,rqA,qC,iT,mcn,qG]at e1 e3 e4;simp(maxSteps:=9^9)(disch:=try exact dS)only[go_sem,qV,stA,rsA,rqA,qC,iT,mcn,qG,h1,h3,h4,e1,e3,e4];.repeat first|exact(wV t r hK rfl rfl)|refine⟨rfl,?_⟩
  all_goals
   have on:s.on=true:=hon.resolve_left (by nofun);simp only[stA,rsA,rqA,qC,iT,mcn,qG,on]at e1 e3 e4;simp(maxSteps:=9^9)(disch:=try exact dS)only[go_sem,qV,stA,rsA,rqA,qC,iT,mcn,qG,on,h1,h3,h4,e1,e3,e4];.repeat first|exact(wV t r hK rfl rfl)|refine⟨rfl,?_⟩
 .rcases hk with⟨h,po,au,da,rfl⟩|⟨h,ss,v,rfl,hs,hb⟩|hcn
  .obtain rfl:b=true:=hb0.trans (by simp[alB,qC]);clear hb0;have on:s.on=true:=hon.resolve_left (by nofun);obtain⟨t5,e5,⟨rfl,q5,-⟩,c5⟩:=zAg (g:=g5) (s:=s) (lo:=0) (q:=qC (.pr h po au da)) ⟨hck,rfl⟩;obtain rfl:=q5 (by show(9:Int)≠13;decide);obtain⟨t,r,⟨-,q6,-⟩,c6⟩:=zAj (g:=g6) (s:=t5) (q:=qC (.pr h po au da)) ⟨0,_,rfl,hc,.inl ⟨h,po,au,da,rfl⟩⟩;have q6':=q6 h po au da rfl;obtain⟨t7,l7,⟨rfl,q7,-⟩,c7⟩:=zAh (g:=g7) (s:=t) (q:=qC (.pr h po au da)) (.pr h po au da);obtain rfl:=q7 (by show(9:Int)≠13;decide);have hf:¬ frO t5.obs 0 = -1:=hc.1.2;have hK:∀d,CmP t5 0 d->qC (.pr h po au da)=qC d->(t7,r)=jD t5 d:=qQ9 hc q6';clear q5 q6 q7 hck hc;rw[qPm,if_neg hf]at q6';simp only[Prod.mk.injEq]at q6';obtain⟨-,rfl⟩:=q6';generalize zVt _ _=en at *;generalize zLo _ _=nm at *;generalize frO t5.obs 0=f at *;simp only[stA,rsA,rqA,qC,azA,iT,mcn,qG,on]at e1 e3 c5 c6 c7;simp(maxSteps:=9^9)(disch:=try exact dS)only[go_sem,qV,stA,rsA,rqA,qC,azA,iT,mcn,qG,on,h1,h3,h5,h6,h7,e1,e3,c5,c6,c7];.repeat first|exact(wV t7 ⟨0,[512+f],[en,nm],[]⟩ hK rfl rfl)|refine⟨rfl,?_⟩
  .obtain rfl:b=true:=hb0.trans (by simp[alB,qC]);clear hb0;have on:s.on=true:=hon.resolve_left (by nofun);obtain⟨t5,e5,⟨rfl,-,q5⟩,c5⟩:=zAg (g:=g5) (s:=s) (lo:=0) (q:=qC (.un h ss v)) ⟨hck,rfl⟩;have q5':=q5 h ss v rfl;by_cases c0:ckE t5 h ss=0
   .rw[c0]at q5';subst q5';obtain⟨t,r,⟨-,-,q6⟩,c6⟩:=zAj (g:=g6) (s:=t5) (q:=qC (.un h ss v)) ⟨0,_,rfl,hc,.inr (.inl ⟨h,ss,v,rfl⟩)⟩;obtain⟨rfl,rfl⟩:=q6 h ss v rfl;obtain⟨t7,l7,⟨rfl,-,q7⟩,c7⟩:=zAh (g:=g7) (s:=t) (q:=qC (.un h ss v)) (.un h ss v hs hb (hc.2.1 c0));obtain rfl:=q7 h ss v rfl;have hK:∀d,CmP t 0 d->qC (.un h ss v)=qC d->(zG0 t ss,(⟨0,[],[(qBb t h).1.s.da],[]⟩:Rs))=jD t d:=qQ9 hc (by simp only[jD];rw[if_pos c0]);clear q5 q6 q7 hck hc;generalize zG0 t ss=y at *;generalize (qBb t h).1.s.da=da at *;simp only[stA,rsA,rqA,qC,azA,iT,mcn,qG,on]at e1 e3 c5 c6 c7;simp(maxSteps:=9^9)(disch:=try exact dS)only[go_sem,qV,stA,rsA,rqA,qC,azA,iT,mcn,qG,on,h1,h3,h5,h6,h7,e1,e3,c5,c6,c7];.repeat first|exact(wV y ⟨0,[],[da],[]⟩ hK rfl rfl)|refine⟨rfl,?_⟩
   .obtain⟨t2,r2,⟨rfl,rfl⟩,c2⟩:=qMv (g:=g2) (s:=t5) (e:=e5);have hK:∀d,CmP t2 0 d->qC (.un h ss v)=qC d->(t2,(⟨e5,[],[],[]⟩:Rs))=jD t2 d:=qQ9 hc (by simp only[jD];rw[if_neg c0,q5']);rw[<-q5']at c0;clear q5 q5' hck hc;simp only[stA,rsA,rqA,qC,azA,iT,mcn,qG,on]at e1 e3 c5 c2;simp(maxSteps:=9^9)(disch:=try exact dS)only[go_sem,qV,stA,rsA,rqA,qC,azA,iT,mcn,qG,on,h1,h2,h3,h5,e1,e3,c5,c2,c0];exact wV t2 ⟨e5,[],[],[]⟩ hK (by simp only[stA,rsA,on,map_nil]) rfl
  .rcases hcn with rfl|rfl|⟨rfl|rfl,h2p⟩
   .obtain rfl:b=true:=hb0.trans (by simp[alB,qC]);clear hb0;have on:s.on=true:=hon.resolve_left (by nofun);obtain⟨t5,e5,⟨rfl,q5,-⟩,c5⟩:=zAg (g:=g5) (s:=s) (lo:=0) (q:=qC .df) ⟨hck,rfl⟩;obtain rfl:=q5 (by show(21:Int)≠13;decide);obtain⟨t,r,⟨q6,-⟩,c6⟩:=zAj (g:=g6) (s:=t5) (q:=qC .df) ⟨0,_,rfl,hc,.inr (.inr (.inl rfl))⟩;have q6':=q6 .df (.inl rfl) rfl;obtain⟨kn1,kn2⟩:=zKf (s:=t5) (c:= .df) (.inl rfl);rw[<-q6']at kn1 kn2;obtain⟨t7,l7,⟨rfl,q7,-⟩,c7⟩:=zAh (g:=g7) (s:=t) (q:=qC .df) .df;obtain rfl:=q7 (by show(21:Int)≠13;decide);have hK:∀d,CmP t5 0 d->qC .df=qC d->(t7,r)=jD t5 d:=qQ9 hc q6';obtain⟨t2,r2,⟨ht2,hr2⟩,c2⟩:=qMv (g:=g2) (s:=t5) (e:=r.e);obtain⟨re,rns,rbl,rno⟩:=r;simp only at kn1 kn2 hr2 c2;subst kn1 hr2;clear q5 q6 q6' q7 hck hc;by_cases c0:re=0
    .subst c0;clear kn2 c2 ht2;simp only[stA,rsA,rqA,qC,azA,iT,mcn,qG,on]at e1 e3 c5 c6 c7;simp(maxSteps:=9^9)(disch:=try exact dS)only[go_sem,qV,stA,rsA,rqA,qC,azA,iT,mcn,qG,on,h1,h3,h5,h6,h7,e1,e3,c5,c6,c7];.repeat first|exact(wV t7 ⟨0,rns,rbl,[]⟩ hK rfl rfl)|refine⟨rfl,?_⟩
    .have kn3:=kn2 c0;simp only[Prod.mk.injEq,Rs.mk.injEq,true_and,and_true]at kn3;obtain⟨rfl,rfl,rfl⟩:=kn3;subst ht2;clear kn2 c7;simp only[stA,rsA,rqA,qC,azA,iT,mcn,qG,on]at e1 e3 c5 c6 c2;simp(maxSteps:=9^9)(disch:=try exact dS)only[go_sem,qV,stA,rsA,rqA,qC,azA,iT,mcn,qG,on,h1,h2,h3,h5,h6,e1,e3,c5,c6,c2,c0];exact wV _ ⟨re,[],[],[]⟩ hK (by simp only[stA,rsA,on,map_nil]) rfl
   .obtain rfl:b=true:=hb0.trans (by simp[alB,qC]);clear hb0;have on:s.on=true:=hon.resolve_left (by nofun);obtain⟨t5,e5,⟨rfl,q5,-⟩,c5⟩:=zAg (g:=g5) (s:=s) (lo:=0) (q:=qC .ud) ⟨hck,rfl⟩;obtain rfl:=q5 (by show(22:Int)≠13;decide);obtain⟨t,r,⟨q6,-⟩,c6⟩:=zAj (g:=g6) (s:=t5) (q:=qC .ud) ⟨0,_,rfl,hc,.inr (.inr (.inr (.inl rfl)))⟩;have q6':=q6 .ud (.inr (.inl rfl)) rfl;obtain⟨kn1,kn2⟩:=zKf (s:=t5) (c:= .ud) (.inr (.inl rfl));rw[<-q6']at kn1 kn2;obtain⟨t7,l7,⟨rfl,q7,-⟩,c7⟩:=zAh (g:=g7) (s:=t) (q:=qC .ud) .ud;obtain rfl:=q7 (by show(22:Int)≠13;decide);have hK:∀d,CmP t5 0 d->qC .ud=qC d->(t7,r)=jD t5 d:=qQ9 hc q6';obtain⟨t2,r2,⟨ht2,hr2⟩,c2⟩:=qMv (g:=g2) (s:=t5) (e:=r.e);obtain⟨re,rns,rbl,rno⟩:=r;simp only at kn1 kn2 hr2 c2;subst kn1 hr2;clear q5 q6 q6' q7 hck hc;by_cases c0:re=0
    .subst c0;clear kn2 c2 ht2;simp only[stA,rsA,rqA,qC,azA,iT,mcn,qG,on]at e1 e3 c5 c6 c7;simp(maxSteps:=9^9)(disch:=try exact dS)only[go_sem,qV,stA,rsA,rqA,qC,azA,iT,mcn,qG,on,h1,h3,h5,h6,h7,e1,e3,c5,c6,c7];.repeat first|exact(wV t7 ⟨0,rns,rbl,[]⟩ hK rfl rfl)|refine⟨rfl,?_⟩
    .have kn3:=kn2 c0;simp only[Prod.mk.injEq,Rs.mk.injEq,true_and,and_true]at kn3;obtain⟨rfl,rfl,rfl⟩:=kn3;subst ht2;clear kn2 c7;simp only[stA,rsA,rqA,qC,azA,iT,mcn,qG,on]at e1 e3 c5 c6 c2;simp(maxSteps:=9^9)(disch:=try exact dS)only[go_sem,qV,stA,rsA,rqA,qC,azA,iT,mcn,qG,on,h1,h2,h3,h5,h6,e1,e3,c5,c6,c2,c0];exact wV _ ⟨re,[],[],[]⟩ hK (by simp only[stA,rsA,on,map_nil]) rfl
   .obtain rfl:b=true:=hb0.trans (jKf h2p.n);clear hb0;have on:s.on=true:=hon.resolve_left (by nofun);obtain⟨t5,e5,⟨rfl,q5,-⟩,c5⟩:=zAg (g:=g5) (s:=s) (lo:=0) (q:=qC .ic) ⟨hck,rfl⟩;obtain rfl:=q5 (by show(25:Int)≠13;decide);obtain⟨t,r,⟨q6,-⟩,c6⟩:=zAj (g:=g6) (s:=t5) (q:=qC .ic) ⟨0,_,rfl,hc,.inr (.inr (.inr (.inr ⟨.inl rfl,h2p⟩)))⟩;have q6':=q6 .ic (.inr (.inr (.inl rfl))) rfl;obtain⟨kn1,kn2⟩:=zKf (s:=t5) (c:= .ic) (.inr (.inr (.inl rfl)));rw[<-q6']at kn1 kn2;obtain⟨t7,l7,⟨rfl,q7,-⟩,c7⟩:=zAh (g:=g7) (s:=t) (q:=qC .ic) .ic;obtain rfl:=q7 (by show(25:Int)≠13;decide);have hK:∀d,CmP t5 0 d->qC .ic=qC d->(t7,r)=jD t5 d:=qQ9 hc q6';obtain⟨t2,r2,⟨ht2,hr2⟩,c2⟩:=qMv (g:=g2) (s:=t5) (e:=r.e);obtain⟨re,rns,rbl,rno⟩:=r;simp only at kn1 kn2 hr2 c2;subst kn1 hr2;clear q5 q6 q6' q7 hck hc;by_cases c0:re=0
    .subst c0;clear kn2 c2 ht2;simp only[stA,rsA,rqA,qC,azA,iT,mcn,qG,on]at e1 e3 c5 c6 c7;simp(maxSteps:=9^9)(disch:=try exact dS)only[go_sem,qV,stA,rsA,rqA,qC,azA,iT,mcn,qG,on,h1,h3,h5,h6,h7,e1,e3,c5,c6,c7];.repeat first|exact(wV t7 ⟨0,rns,rbl,[]⟩ hK rfl rfl)|refine⟨rfl,?_⟩
    .have kn3:=kn2 c0;simp only[Prod.mk.injEq,Rs.mk.injEq,true_and,and_true]at kn3;obtain⟨rfl,rfl,rfl⟩:=kn3;subst ht2;clear kn2 c7;simp only[stA,rsA,rqA,qC,azA,iT,mcn,qG,on]at e1 e3 c5 c6 c2;simp(maxSteps:=9^9)(disch:=try exact dS)only[go_sem,qV,stA,rsA,rqA,qC,azA,iT,mcn,qG,on,h1,h2,h3,h5,h6,e1,e3,c5,c6,c2,c0];exact wV _ ⟨re,[],[],[]⟩ hK (by simp only[stA,rsA,on,map_nil]) rfl
   .obtain rfl:b=true:=hb0.trans (jKf h2p.n);clear hb0;have on:s.on=true:=hon.resolve_left (by nofun);obtain⟨t5,e5,⟨rfl,q5,-⟩,c5⟩:=zAg (g:=g5) (s:=s) (lo:=0) (q:=qC .rd) ⟨hck,rfl⟩;obtain rfl:=q5 (by show(24:Int)≠13;decide);obtain⟨t,r,⟨q6,-⟩,c6⟩:=zAj (g:=g6) (s:=t5) (q:=qC .rd) ⟨0,_,rfl,hc,.inr (.inr (.inr (.inr ⟨.inr rfl,h2p⟩)))⟩;have q6':=q6 .rd (.inr (.inr (.inr rfl))) rfl;obtain⟨kn1,kn2⟩:=zKf (s:=t5) (c:= .rd) (.inr (.inr (.inr rfl)));rw[<-q6']at kn1 kn2;obtain⟨t7,l7,⟨rfl,q7,-⟩,c7⟩:=zAh (g:=g7) (s:=t) (q:=qC .rd) .rd;obtain rfl:=q7 (by show(24:Int)≠13;decide);have hK:∀d,CmP t5 0 d->qC .rd=qC d->(t7,r)=jD t5 d:=qQ9 hc q6';obtain⟨t2,r2,⟨ht2,hr2⟩,c2⟩:=qMv (g:=g2) (s:=t5) (e:=r.e);obtain⟨re,rns,rbl,rno⟩:=r;simp only at kn1 kn2 hr2 c2;subst kn1 hr2;clear q5 q6 q6' q7 hck hc;by_cases c0:re=0
    .subst c0;clear kn2 c2 ht2;simp only[stA,rsA,rqA,qC,azA,iT,mcn,qG,on]at e1 e3 c5 c6 c7;simp(maxSteps:=9^9)(disch:=try exact dS)only[go_sem,qV,stA,rsA,rqA,qC,azA,iT,mcn,qG,on,h1,h3,h5,h6,h7,e1,e3,c5,c6,c7];.repeat first|exact(wV t7 ⟨0,rns,rbl,[]⟩ hK rfl rfl)|refine⟨rfl,?_⟩
    .have kn3:=kn2 c0;simp only[Prod.mk.injEq,Rs.mk.injEq,true_and,and_true]at kn3;obtain⟨rfl,rfl,rfl⟩:=kn3;subst ht2;clear kn2 c7;simp only[stA,rsA,rqA,qC,azA,iT,mcn,qG,on]at e1 e3 c5 c6 c2;simp(maxSteps:=9^9)(disch:=try exact dS)only[go_sem,qV,stA,rsA,rqA,qC,azA,iT,mcn,qG,on,h1,h2,h3,h5,h6,e1,e3,c5,c6,c2,c0];exact wV _ ⟨re,[],[],[]⟩ hK (by simp only[stA,rsA,on,map_nil]) rfl
 .obtain rfl:b=false:=hb0.trans (by rcases hcc with rfl|rfl<;>simp[alB,qC,hix]);clear hb0;have on:s.on=true:=hon.resolve_left (by rcases hcc with rfl|rfl<;>nofun);obtain⟨t2,r2,⟨rfl,rfl⟩,c2⟩:=qMv (g:=g2) (s:=s) (e:=7);have hK:∀d,CmP t2 lo d->qC c=qC d->(t2,(⟨7,[],[],[]⟩:Rs))=jD t2 d:=qQ9 hc (by rcases hcc with rfl|rfl<;>simp[jD,icR,zL5,hix]);clear hc;rcases hcc with rfl|rfl
  .simp only[stA,rsA,rqA,qC,azA,iT,mcn,qG,on]at e1 e3 c2;simp(maxSteps:=9^9)(disch:=try exact dS)only[go_sem,qV,stA,rsA,rqA,qC,azA,iT,mcn,qG,on,h1,h2,h3,e1,e3,c2];exact wV t2 ⟨7,[],[],[]⟩ hK (by simp only[stA,rsA,on,map_nil]) rfl
  .simp only[stA,rsA,rqA,qC,azA,iT,mcn,qG,on]at e1 e3 c2;simp(maxSteps:=9^9)(disch:=try exact dS)only[go_sem,qV,stA,rsA,rqA,qC,azA,iT,mcn,qG,on,h1,h2,h3,e1,e3,c2];exact wV t2 ⟨7,[],[],[]⟩ hK (by simp only[stA,rsA,on,map_nil]) rfl
def qOb:ECt where
 α:=St×Int×List UInt8
 β:=St×List UInt8
 aS:=λ(s,lo,b)=>[.t (stA s),.t (.int .i64 lo),.t (.sl (b.map qA))]
 pre:=λ(s,lo,b)=>∃c,ExP s lo c/\(qC c).W/\b=rqB (qC c)/\(jD s c).2.W
 r:=λ(t,o)=>.tup [.t (stA t),.t (.sl (o.map qA))]
 R:=λ(s,lo,b)(t,o)=>∀c,CmP s lo c->(qC c).W->b=rqB (qC c)->t=(jD s c).1/\o=rsB (jD s c).2
theorem jNu {g:EF qOb}{s:St}{lo:Int}{b:List UInt8}(hp:∃c,ExP s lo c/\(qC c).W/\b=rqB (qC c)/\(jD s c).2.W):∃(t:St)(o:List UInt8),(∀c,CmP s lo c->(qC c).W->b=rqB (qC c)->t=(jD s c).1/\o=rsB (jD s c).2)/\qOb.fs g [.t (stA s),.t (.int .i64 lo),.t (.sl (b.map qA))] []=some (.tup [.t (stA t),.t (.sl (o.map qA))],[]):=by
 obtain⟨y,h1,h2⟩:=qOb.eq g (s,lo,b) hp;exact⟨y.1,y.2,h1,h2⟩
theorem zYm {s:St}{lo:Int}{b:List UInt8}(t:St)(o:List UInt8)(hR:∀c,CmP s lo c->(qC c).W->b=rqB (qC c)->t=(jD s c).1/\o=rsB (jD s c).2)(hV:vv=.tup [.t (stA t),.t (.sl (o.map qA))])(hO:oo=[]):qOb.K (s,lo,b) vv oo:=⟨(t,o),hR,hV,hO⟩
theorem zF9 {g1}(h1:LkE tab 77 qJ0 g1){g2}(h2:LkE tab 78 qJ1 g2){g3}(h3:LkE tab 79 qN7 g3)(s:St)(lo:Int)(b:List UInt8)(hp:∃c,ExP s lo c/\(qC c).W/\b=rqB (qC c)/\(jD s c).2.W) :
  qHn.1.wp tab gl (qD 0 [.t (stA s),.t (.int .i64 lo),.t (.sl (b.map qA))]) (qD 0 []) (qZ [(6,(some (30,true))),(7,none)] 0 (qOb.K (s,lo,b))):=by
 obtain⟨c,hx,hw,rfl,hr⟩:=hp;obtain⟨q,e,⟨hq,rfl⟩,e1⟩:=jK4 (g:=g1) ⟨qC c,hw,rfl⟩;obtain rfl:q=qC c:=by rw[hq,zLz hw]
 obtain⟨t,r,q3,e3⟩:=jNq (g:=g3) (s:=s) (lo:=lo) (q:=qC c) ⟨c,rfl,hx,hw⟩;have q3':=q3 c hx.cm rfl;obtain⟨o,ho,e2⟩:=jK5 (g:=g2) (r:=r) (by have:=congrArg Prod.snd q3';simp only at this;rw[this];exact hr);have hK:∀d,CmP s lo d->(qC d).W->rqB (qC c)=rqB (qC d)->t=(jD s d).1/\o=rsB (jD s d).2:=by
  intro d hd hdw e;have e':=jH9 hw hdw e;have:=q3 d hd e';rw[<-this];exact⟨rfl,ho⟩
 clear q3 q3' ho hq hr hx hw;generalize rqB (qC c)=b at *;generalize qC c=q at *;simp only[stA,rsA,rqA]at e1 e2 e3;simp(maxSteps:=9^9)(disch:=try exact dS)only[go_sem,qHn,stA,rsA,rqA,h1,h2,h3,e1,e2,e3];.repeat first|exact(zYm t o hK rfl rfl)|refine⟨rfl,?_⟩
theorem jLo {b:List UInt8}(h:b.length<1000000000):zHs.fs [.t (.sl (b.map qA))] []=some (.tup [.t (.agg [.sl ((dcT b).1.map vU),.int .i64 (dcT b).2.1]),.t (.int .i64 (dcT b).2.2)],[]):=by
 rw[<-(zK4 b).1];exact zHs.eq b h
end Go.Eng
end
