/- A part of an abstract machine, its walks, their tie. -/
import Derived.Test.YteglhhgmfnbalaaGreatDoorK27
set_option linter.all false
section
set_option maxHeartbeats 64000000
set_option maxRecDepth 20000
namespace Go.Eng
open List
variable (tab:Tab)(gl:Gl)
variable {vv:V}{oo:List Ob}
structure plP (c:Ckr)(x:Ses)(lo:Int):Prop where
 en:c.s.En
 lk:c.s.a.lk.fa=0/\1<=c.s.a.lk.mx
 h:tmI c.h/\(qBb c.s c.h).2=0
 q:c.q.co=13
 lo:lo=0/\x.lo%2=1
 dl:x.dl=0
 cm:x.cm=0\/x.cm=13
 up:x.up = -1\/x.up=c.s.u
 u:0<=c.s.u
 dg:x.dg.length=32
 av:x.av=true->c.a.va=(qBb c.s c.h).1.s.au
theorem jC0 {s:St}{h:Int}(h0:(qBb s h).2=0):512<=h/\h<=514:=by
 unfold qBb at h0;split at h0
 .cases h0
 .omega
theorem zRj {s:St}(e:s.En){h:Int}(h0:(qBb s h).2=0):qHa s h=(⟨zLo (qBb s h).1.p.po (qBb s h).1.p.un,(qBb s h).1.s.au,(qBb s h).1.p.po,true⟩,0):=by
 have hg:=jC0 h0;rw[qHa,if_neg oM,if_neg (λc=>by have:=(zEm e.ix c).1;omega),if_pos h0]
theorem yD1 {x:Int}(h:x%2=1):qLz .and .i64 x .i64 1=some (.int .i64 1):=by rw[yC2,h]
def qKi:ECt where
 α:=Ckr×Ses×Int
 β:=St×Int
 aS:=λ(c,x,lo)=>[.t (ckA c),.t (jS x),.t (.int .i64 lo)]
 pre:=λ(c,x,lo)=>plP c x lo
 r:=λ(t,e)=>.tup [.t (stA t),.t (.int .i64 e)]
 R:=λ(c,x,lo)(t,e)=>t=c.s/\e=if x.dg=(qBb c.s c.h).1.p.po then 0 else 11
 inj:=by rintro⟨c,x,lo⟩ ⟨c',x',lo'⟩ e _;simp only[qBa,qL2,jF0]at e;obtain⟨rfl,rfl,rfl⟩:=e;rfl
theorem jNb {g:EF qKi}{c:Ckr}{x:Ses}{lo:Int}(hp:plP c x lo):∃(t:St)(e:Int),(t=c.s/\e=if x.dg=(qBb c.s c.h).1.p.po then 0 else 11)/\qKi.fs g [.t (ckA c),.t (jS x),.t (.int .i64 lo)] []=some (.tup [.t (stA t),.t (.int .i64 e)],[]):=by
 obtain⟨y,h1,h2⟩:=qKi.eq g (c,x,lo) hp;exact⟨y.1,y.2,h1,h2⟩
theorem jU4 {c:Ckr}{x:Ses}{lo:Int}(t:St)(e:Int)(hR:t=c.s/\e=if x.dg=(qBb c.s c.h).1.p.po then 0 else 11)(hV:vv=.tup [.t (stA t),.t (.int .i64 e)])(hO:oo=[]):qKi.K (c,x,lo) vv oo:=⟨(t,e),hR,hV,hO⟩
theorem qEd {g1}(h1:LkE tab 191 qNp g1){g2}(h2:LkE tab 192 qKf g2){g5}(h5:LkE tab 186 qKh g5){g6}(h6:LkE tab 187 qJ7 g6){g7}(h7:LkE tab 188 qKg g7)(c:Ckr)(x:Ses)(lo:Int)(hp:plP c x lo) :
  zS.1.wp tab gl (qD 0 [.t (ckA c),.t (jS x),.t (.int .i64 lo)]) (qD 0 []) (qZ [(6,(some (30,true))),(7,none)] 0 (qKi.K (c,x,lo))):=by
 obtain⟨he,⟨hf,hm⟩,⟨ht,ho⟩,hq,⟨rfl,hlo⟩,hdl,hcm,hup,hu,hdg,hav⟩:=hp;obtain⟨po,ep,q1,c1⟩:=jLz (g:=g1) (s:=c.s) (h:=c.h) ⟨he,ht⟩;obtain⟨n,b,q2,c2⟩:=zLg (g:=g2) (c:=c) (h:=c.h) ⟨he,ht⟩;have hg:=jC0 ho;rw[if_neg (λd=>by have:=(zEm he.ix d).1;omega)]at q2;cases q2;rw[zRj he ho]at q1;cases q1;obtain⟨po,un,au,sd,da,hh,hx,l1,l2,l3,l4⟩:=zQz he.obs ho;obtain⟨v,ev,q7,c7⟩:=jCz (g:=g6) (s:=c.s) (h:=c.h) ⟨he,ht⟩;rw[zRj he ho]at q7;cases q7;obtain⟨b,rfl,c5⟩:=jDi (g:=g5) (c:=c) ⟨he,⟨ht,oM⟩,hf,hm⟩;rw[hx]at hav;simp only[hx]at c1 c7⊢;obtain⟨kd,no,dg,up,sl,cm,dl,av⟩:=x;simp only at hlo hdl hcm hup hdg hav;subst hdl;have c9:=@yD1 sl hlo;have hK:∀e,e=(if dg=po then 0 else 11)->qKi.K (c,⟨kd,no,dg,up,sl,cm,0,av⟩,0) (.tup [.t (stA c.s),.t (.int .i64 e)]) []:=λe h=>jU4 c.s e ⟨rfl,by rw[h,hx]⟩ rfl rfl
 have hc:cm=0\/(cm=13/\¬ cm=0):=oM;have hU:up = -1\/(up=c.s.u/\¬ up = -1):=oM;have hu1:¬ c.s.u = -1:=oM;have hs0:sl.fdiv 1=sl:=Int.fdiv_one sl;obtain⟨t8,e8,⟨q8,q8'⟩,c8⟩:=jDh (g:=g7) (c:=c) (a:=if av=true then c.a.va else []) (b:=if av=true then au else []) ⟨by cases av;rfl;exact hav rfl,by cases av<;>simp;rw[hav rfl];omega⟩;subst q8 q8';simp only[stA,ckA,hq]at c1 c2 c5 c7 c8 hK;have hd':(dg==po)=decide (dg=po):=by by_cases h:dg=po<;>simp[h]
 by_cases hd:dg=po
 .subst hd;rcases hc with rfl|⟨rfl,_⟩<;>rcases hU with rfl|⟨rfl,_⟩;all_goals
   cases av
   .simp(maxSteps:=9^9)(disch:=try exact dS)only[go_sem,zS,ckA,jS,h1,h2,c1,c2,hdg,hq,c9,hs0,hlo,hu1];.repeat first|exact(hK _ (by rw[if_pos rfl]))|refine⟨rfl,?_⟩
   .simp only[if_true]at c8;simp(maxSteps:=9^9)(disch:=try exact dS)only[go_sem,zS,ckA,jS,h1,h2,h5,h6,h7,c1,c2,c5,c7,c8,hdg,hq,c9,hs0,hlo,hu1];.repeat first|exact(hK _ (by rw[if_pos rfl]))|refine⟨rfl,?_⟩
 .rcases hc with rfl|⟨rfl,_⟩<;>rcases hU with rfl|⟨rfl,_⟩;all_goals
   simp(maxSteps:=9^9)(disch:=try exact dS)only[go_sem,zS,ckA,jS,h1,h2,c1,c2,l1,hq,c9,hs0,hlo,hd,hu1];.repeat first|exact(hK _ (by rw[if_neg hd]))|refine⟨rfl,?_⟩
inductive CkP (s:St):Rq->Prop where
 |vl (q:Rq) (h:Int) (hv:vlP ⟨s,q,⟨0,[],[]⟩,h⟩) (hl:s.a.lk.fa=0/\1<=s.a.lk.mx):CkP s q
 |un (h ss:Int) (v:List UInt8) (hs:s.ses.length=3/\tmI ss/\ss≠0) (hb:(qCu s ss).2.2=true) (hk:(qCu s ss).2.1.kd=2\/(qCu s ss).2.1.kd=3) (hp:(qCu s ss).2.1.kd=2->plP ⟨s,qC (.un h ss v),⟨ss,[],v⟩,h⟩ (qCu s ss).2.1 0):CkP s (qC (.un h ss v))
def ckE (s:St)(h ss:Int):Int:=if(qCu s ss).2.1.kd=2 then(if(qCu s ss).2.1.dg=(qBb s h).1.p.po then 0 else 11) else 8
def qNx:ECt where
 α:=St×Int×Rq
 β:=St×Int
 aS:=λ(s,lo,q)=>[.t (stA s),.t (.int .i64 lo),.t (rqA q)]
 pre:=λ(s,lo,q)=>CkP s q/\lo=0
 r:=λ(t,e)=>.tup [.t (stA t),.t (.int .i64 e)]
 R:=λ(s,lo,q)(t,e)=>t=s/\(q.co≠13->e=0)/\∀h ss v,q=qC (.un h ss v)->e=ckE s h ss
theorem zAg {g:EF qNx}{s:St}{lo:Int}{q:Rq}(hp:CkP s q/\lo=0):∃(t:St)(e:Int),(t=s/\(q.co≠13->e=0)/\∀h ss v,q=qC (.un h ss v)->e=ckE s h ss)/\qNx.fs g [.t (stA s),.t (.int .i64 lo),.t (rqA q)] []=some (.tup [.t (stA t),.t (.int .i64 e)],[]):=by
 obtain⟨y,h1,h2⟩:=qNx.eq g (s,lo,q) hp;exact⟨y.1,y.2,h1,h2⟩
theorem qT8 {s:St}{lo:Int}{q:Rq}(t:St)(e:Int)(hR:t=s/\(q.co≠13->e=0)/\∀h ss v,q=qC (.un h ss v)->e=ckE s h ss)(hV:vv=.tup [.t (stA t),.t (.int .i64 e)])(hO:oo=[]):qNx.K (s,lo,q) vv oo:=⟨(t,e),hR,hV,hO⟩
theorem vM {h ss h' ss':Int}{v v':List UInt8}(e:qC (.un h ss v)=qC (.un h' ss' v')):h=h'/\ss=ss':=by
 simp only[qC,Rq.mk.injEq,List.cons.injEq,Az.mk.injEq,and_true,true_and]at e;exact⟨e.1,e.2.1⟩
theorem qSu {g1}(h1:LkE tab 144 qN1 g1){g2}(h2:LkE tab 143 qG0 g2){g3}(h3:LkE tab 145 qKi g3)(s:St)(lo:Int)(q:Rq)(hp:CkP s q/\lo=0) :
  vP.1.wp tab gl (qD 0 [.t (stA s),.t (.int .i64 lo),.t (rqA q)]) (qD 0 []) (qZ [(6,(some (30,true))),(7,none)] 0 (qNx.K (s,lo,q))):=by
 obtain⟨hp,rfl⟩:=hp;cases hp with
 |vl _ h hv hl=>
  obtain⟨t,e,⟨ht,rfl⟩,c1⟩:=jNc (g:=g1) ⟨⟨hv,hl⟩,rfl⟩;subst ht;obtain⟨he,hh,hq,_⟩:=hv;simp only at hq;rcases hq with⟨rfl,rfl⟩|⟨rfl,rfl,hx⟩|⟨rfl,rfl⟩|⟨rfl,rfl,hx⟩|⟨po,au,da,rfl⟩;all_goals
   simp only[ckA,jS,qDq,qC,azA,iT,mcn,qG]at c1;simp(maxSteps:=9^9)(disch:=try exact dS)only[go_sem,vP,stA,rqA,jS,qDq,qC,azA,iT,h1,c1,mcn,qG];.repeat first|exact(qT8 _ 0 ⟨rfl,λ_=>rfl,λ_ _ _ h=>by simp[qC]at h⟩ rfl rfl)|refine⟨rfl,?_⟩
 |un h ss v hs hb hk hp=>
  obtain⟨x,ex,q2,c2⟩:=zL8 (g:=g2) (s:=s) (h:=ss) ⟨hs.1,hs.2.1⟩;rw[if_pos hb]at q2;cases q2;generalize hx:(qCu s ss).2.1=x at *;have hE:ckE s h ss=if x.kd=2 then(if x.dg=(qBb s h).1.p.po then 0 else 11) else 8:=by rw[ckE,hx]
  have hss:¬ ss=0:=hs.2.2;rcases hk with hk|hk
  .obtain⟨t,e,⟨rfl,he⟩,c3⟩:=jNb (g:=g3) (hp hk);rw[if_pos hk,<-he]at hE;simp only[stA,ckA,jS,hk,qC,azA,iT,mcn]at c2 c3;simp(maxSteps:=9^9)(disch:=try exact dS)only[go_sem,vP,stA,rqA,jS,hk,qC,azA,iT,h2,h3,c2,c3,hss,mcn];.repeat first|exact(qT8 _ e ⟨rfl,λh=>absurd rfl h,λ_ _ _ g=>by rw[<-(vM g).1,<-(vM g).2,hE]⟩ rfl rfl)|refine⟨rfl,?_⟩
  .rw[if_neg oM]at hE;simp only[stA,jS,hk]at c2;simp(maxSteps:=9^9)(disch:=try exact dS)only[go_sem,vP,stA,rqA,jS,hk,qC,azA,iT,h2,c2,hss,mcn];.repeat first|exact(qT8 _ 8 ⟨rfl,λh=>absurd rfl h,λ_ _ _ g=>by rw[<-(vM g).1,<-(vM g).2,hE]⟩ rfl rfl)|refine⟨rfl,?_⟩
def zG0 (s:St)(ss:Int):St := { s with ses:=s.ses.set (ss-768).toNat qDq }
inductive FiP (s:St):Rq->Prop where
 |df:FiP s (qC .df)
 |ic:FiP s (qC .ic)
 |ud:FiP s (qC .ud)
 |rd:FiP s (qC .rd)
 |pr (h:Int) (po au da:List UInt8):FiP s (qC (.pr h po au da))
 |un (h ss:Int) (v:List UInt8) (hs:s.ses.length=3/\tmI ss/\ss≠0) (hb:(qCu s ss).2.2=true) (hk:(qCu s ss).2.1.kd=2):FiP s (qC (.un h ss v))
def qN0:ECt where
 α:=St×Rq
 β:=St×List (List UInt8)
 aS:=λ(s,q)=>[.t (stA s),.t (rqA q)]
 pre:=λ(s,q)=>FiP s q
 r:=λ(t,l)=>.tup [.t (stA t),.t (.sl (l.map bsT))]
 R:=λ(s,q)(t,l)=>l=[]/\(q.co≠13->t=s)/\∀h ss v,q=qC (.un h ss v)->t=zG0 s ss
theorem zAh {g:EF qN0}{s:St}{q:Rq}(hp:FiP s q):∃(t:St)(l:List (List UInt8)),(l=[]/\(q.co≠13->t=s)/\∀h ss v,q=qC (.un h ss v)->t=zG0 s ss)/\qN0.fs g [.t (stA s),.t (rqA q)] []=some (.tup [.t (stA t),.t (.sl (l.map bsT))],[]):=by
 obtain⟨y,h1,h2⟩:=qN0.eq g (s,q) hp;exact⟨y.1,y.2,h1,h2⟩
theorem zE0 {s:St}{q:Rq}(t:St)(l:List (List UInt8))(hR:l=[]/\(q.co≠13->t=s)/\∀h ss v,q=qC (.un h ss v)->t=zG0 s ss)(hV:vv=.tup [.t (stA t),.t (.sl (l.map bsT))])(hO:oo=[]):qN0.K (s,q) vv oo:=⟨(t,l),hR,hV,hO⟩
theorem qRe {g1}(h1:LkE tab 143 qG0 g1){g4}(h4:LkE tab 159 qOo g4)(s:St)(q:Rq)(hp:FiP s q) :
  wJ.1.wp tab gl (qD 0 [.t (stA s),.t (rqA q)]) (qD 0 []) (qZ [(4,(some (30,true))),(5,none)] 0 (qN0.K (s,q))):=by
 cases hp with
 |un h ss v hs hb hk=>
  obtain⟨x,ex,q1,c1⟩:=zL8 (g:=g1) (s:=s) (h:=ss) ⟨hs.1,hs.2.1⟩;obtain⟨t,et,q4,c4⟩:=jPp (g:=g4) (s:=s) (h:=ss) ⟨hs.1,hs.2.1⟩;rw[if_pos hb]at q1 q4;cases q1;cases q4;generalize hx:(qCu s ss).2.1=x at *;have hss:¬ ss=0:=hs.2.2;simp only[stA,jS,hk]at c1 c4;simp(maxSteps:=9^9)(disch:=try exact dS)only[go_sem,wJ,stA,rqA,jS,hk,qC,azA,iT,h1,h4,c1,c4,hss,mcn];.repeat first|exact(zE0 (zG0 s ss) [] ⟨rfl,λh=>absurd rfl h,λ_ _ _ g=>by rw[<-(vM g).2]⟩ rfl rfl)|refine⟨rfl,?_⟩
 |_=>
  simp(maxSteps:=9^9)(disch:=try exact dS)only[go_sem,wJ,stA,rqA,qC,azA,iT,mcn,qG];.repeat first|exact(zE0 s [] ⟨rfl,λ_=>rfl,λ_ _ _ h=>by simp[qC]at h⟩ rfl rfl)|refine⟨rfl,?_⟩
def zKl:Ct where
 α:=List Obj
 aS x:=[.t (.sl (x.map qBy))]
 ins _:=[]
 pre x:=x≠[]/\x.length<=1000
 r x:= .sl 0 0 x.length
 outs x:=[.live 9 ((x.map qBy).map V.t) true false]
 inj:=by
  intro a b h _;simp only[List.cons.injEq,V.t.injEq,T.sl.injEq,and_true,zSs]at h;subst h;exact⟨rfl,rfl⟩
theorem jLb {x:List Obj}(h:x≠[]/\x.length<=1000):zKl.fs [.t (.sl (x.map qBy))] []=some (.sl 0 0 x.length,[.live 9 ((x.map qBy).map V.t) true false]):=zKl.eq x h
theorem qUz (x:List Obj)(hx:x≠[]/\x.length<=1000):zZ.1.wp tab gl (qD 0 [.t (.sl (x.map qBy))]) (qD 0 []) (xO [] [(2,none)] 0 (λr o=>r=.sl 0 0 x.length/\o=[.live 9 ((x.map qBy).map V.t) true false])):=by
 match x,hx with
 |[],hx=>exact absurd rfl hx.1
 |a::r,hx=>
  have hz:=jSm (l:=a::r);simp only[length_cons]at hx;simp only[map_cons]at hz;simp(disch:=omega)only[go_sem,zZ,map_cons,hz];exact⟨hz,trivial⟩
def frO:List Obj->Nat->Int
 |[],_ => -1
 |x::r,k=>if x.p.kd=0 then(k:Int) else frO r (k+1)
def qPi (s:St)(x:Obj):St×Int×Int:=if frO s.obs 0 = -1 then(s,0,25) else({ s with obs:=s.obs.set (frO s.obs 0).toNat x },512+frO s.obs 0,0)
def qOc:ECt where
 α:=St×Obj
 β:=St×Int×Int
 aS:=λ(s,x)=>[.t (stA s),.t (qBy x)]
 pre:=λ(s,x)=>s.obs.length=3
 r:=λ(t,h,e)=>.tup [.t (stA t),.t (.int .i64 h),.t (.int .i64 e)]
 R:=λ(s,x)(t,h,e)=>(t,h,e)=qPi s x
theorem jOa {g:EF qOc}{s:St}{x:Obj}(hp:s.obs.length=3):∃(t:St)(h e:Int),((t,h,e)=qPi s x)/\qOc.fs g [.t (stA s),.t (qBy x)] []=some (.tup [.t (stA t),.t (.int .i64 h),.t (.int .i64 e)],[]):=by
 obtain⟨y,h1,h2⟩:=qOc.eq g (s,x) hp;exact⟨y.1,y.2.1,y.2.2,h1,h2⟩
theorem zFc {s:St}{x:Obj}(t:St)(h e:Int)(hR:(t,h,e)=qPi s x)(hV:vv=.tup [.t (stA t),.t (.int .i64 h),.t (.int .i64 e)])(hO:oo=[]):qOc.K (s,x) vv oo:=⟨(t,h,e),hR,hV,hO⟩
theorem zDc (h1:LkC tab 174 zKl)(s:St)(x:Obj)(hp:s.obs.length=3) :
  qGi.1.wp tab gl (qD 0 [.t (stA s),.t (qBy x)]) (qD 0 []) (qZ [(4,(some (30,true))),(5,none),(6,none)] 0 (qOc.K (s,x))):=by
 have e:=jLb (x:=s.obs) ⟨by intro h;rw[h]at hp;exact absurd hp (by decide),oM⟩;rw[hp]at e;simp(maxSteps:=9^9)(disch:=try exact dS)only[go_sem,qGi,stA,qBy,hp];refine jZ (σ:=Nat) (λj=>j<=3/\frO (s.obs.drop j) j=frO s.obs 0) (λj=>3-j) (λj=>[(2,.ref 4096 0 0),(3,.ref 4112 0 0),(4,.ref 4128 0 0),(11,.t (.sl (s.obs.map qBy))),(12,.t (.int .i64 3)),(13,.t (.int .i64 j))]) (λj=>[(4128,.live 30 [.agg [.nil,.nil,.nil,.t (.int .i64 0),.t (.int .i64 0),.t (.int .i64 0),.t (.int .i64 0),.t (.bool false),.nil,.t (.int .i64 0),.t (.int .i64 0),.nil,.t (.int .i64 0),.t (.int .i64 0),.t (.int .i64 0),.t (.int .i64 0),.t (.int .i64 0),.t (.int .i64 0),.nil,.t (.bool false),.t (.bool false),.nil,.t (.int .i64 0),.t (.int .i64 0),.t (.bool false),.t (.int .i64 0),.nil,.nil,.nil,.nil]] true true),(4112,.live 9 [.t (qBy x)] true true),(4096,.live 30 [.t (stA s)] true true)]) 0 ⟨oM,rfl⟩ (qL.rd id ?_ ?_ rfl) ?_
 .simp(maxSteps:=9^9)(disch:=try exact dS)only[go_sem,id,stA,qBy,hp]
 .simp(maxSteps:=9^9)(disch:=try exact dS)only[go_sem,id,stA,qBy]
 rintro j ⟨hj,hF⟩;by_cases hlt:j<3
 .obtain⟨y,hg,hm,hdr⟩:=qX (l:=s.obs) (k:=j) oM;rw[hdr,frO]at hF;by_cases c3:y.p.kd=0
  .rw[if_pos c3]at hF;simp(maxSteps:=9^9)(disch:=try exact dS)only[go_sem,stA,qBy,hp,hlt,hg,oms,c3,h1,e,jSm];.repeat first|exact(zFc { s with obs:=s.obs.set j x } ((512+j:Nat):Int) 0 (by rw[qPi,<-hF,if_neg oM,Int.toNat_natCast,show((512+j:Nat):Int)=512+(j:Int) by omega]) (by rw[take_of_length_le (by simp[hp])];simp only[stA,map_set,qBy]) rfl)|refine⟨rfl,?_⟩
  .rw[if_neg c3]at hF;simp(maxSteps:=9^9)(disch:=try exact dS)only[go_sem,stA,qBy,hp,hlt,hg,oms,c3];refine qYo.of (j+1) ⟨oM,hF⟩ oM (qL.rd id ?_ ?_ rfl);all_goals simp(maxSteps:=9^9)(disch:=try exact dS)only[go_sem,id,stA,qBy]
 .have e3:j=3:=oM;subst e3;rw[drop_eq_nil_of_le oM,frO]at hF;simp(maxSteps:=9^9)(disch:=try exact dS)only[go_sem,stA,qBy,hp];.repeat first|exact(zFc s 0 25 (by rw[qPi,<-hF,if_pos rfl]) rfl rfl)|refine⟨rfl,?_⟩
def qOf:ECt where
 α:=St×Rq
 β:=St×Rs
 aS:=λ(s,q)=>[.t (stA s),.t (rqA q)]
 pre:=λ(s,q)=>s.En/\∃h ss v,q=qC (.un h ss v)/\tmI h/\(qBb s h).2=0
 r:=λ(t,r)=>.tup [.t (stA t),.t (rsA r)]
 R:=λ(s,q)(t,r)=>t=s/\∀h ss v,q=qC (.un h ss v)->r=⟨0,[],[(qBb s h).1.s.da],[]⟩
theorem jOd {g:EF qOf}{s:St}{q:Rq}(hp:s.En/\∃h ss v,q=qC (.un h ss v)/\tmI h/\(qBb s h).2=0):∃(t:St)(r:Rs),(t=s/\∀h ss v,q=qC (.un h ss v)->r=⟨0,[],[(qBb s h).1.s.da],[]⟩)/\qOf.fs g [.t (stA s),.t (rqA q)] []=some (.tup [.t (stA t),.t (rsA r)],[]):=by
 obtain⟨y,h1,h2⟩:=qOf.eq g (s,q) hp;exact⟨y.1,y.2,h1,h2⟩
theorem zY1 {s:St}{q:Rq}(t:St)(r:Rs)(hR:t=s/\∀h ss v,q=qC (.un h ss v)->r=⟨0,[],[(qBb s h).1.s.da],[]⟩)(hV:vv=.tup [.t (stA t),.t (rsA r)])(hO:oo=[]):qOf.K (s,q) vv oo:=⟨(t,r),hR,hV,hO⟩
def qH9:ECt where
 α:=Rq
 β:=Int
 aS:=λq=>[.t (rqA q)]
 pre:=λq=>1<=q.hs.length
 r:=λr'=>.t (.int .i64 r')
 R:=λq r'=>r'=q.h0
theorem jDr {g:EF qH9}{q:Rq}(hp:1<=q.hs.length):qH9.fs g [.t (rqA q)] []=some (.t (.int .i64 (q.h0)),[]):=fnQ qH9 q hp
theorem zYz {q:Rq}(hV:vv=.t (.int .i64 (q.h0)))(hO:oo=[]):qH9.K q vv oo:=⟨_,rfl,hV,hO⟩
theorem qZd  (q:Rq)(hp:1<=q.hs.length) :
  qEq.1.wp tab gl (qD 0 [.t (rqA q)]) (qD 0 []) (qZ [(2,none)] 0 (qH9.K q)):=by
 obtain⟨co,hs,au,ns,bl⟩:=q;cases hs with
 |nil=>simp at hp
 |cons a r=>
  simp only[length_cons]at hp;simp(disch:=omega)only[go_sem,qEq,rqA,iT,map_cons];.repeat first|exact(zYz rfl rfl)|refine⟨rfl,?_⟩
theorem qX4 {g1}(h1:LkE tab 195 qH9 g1){g2}(h2:LkE tab 132 qGw g2)(s:St)(q:Rq)(hp:s.En/\∃h ss v,q=qC (.un h ss v)/\tmI h/\(qBb s h).2=0) :
  qDf.1.wp tab gl (qD 0 [.t (stA s),.t (rqA q)]) (qD 0 []) (qZ [(4,(some (30,true))),(5,(some (4,true)))] 0 (qOf.K (s,q))):=by
 obtain⟨he,h,ss,v,rfl,ht,h0⟩:=hp;have e1:=jDr (g:=g1) (q:=qC (.un h ss v)) (by simp[qC]);obtain⟨x,ex,q2,e2⟩:=zLa (g:=g2) (s:=s) (h:=h) ⟨he.obs.1,ht⟩;obtain⟨po,un,au,sd,da,hh,hx,l1,l2,l3,l4⟩:=zQz he.obs h0;have hx':qBb s h=(⟨⟨3,0,0,po,un⟩,⟨au,sd,da⟩,hh⟩,0):=Prod.ext hx h0;rw[hx']at q2;cases q2;have hK:∀h' ss' v',qC (.un h ss v)=qC (.un h' ss' v')->(⟨0,[],[da],[]⟩:Rs)=⟨0,[],[(qBb s h').1.s.da],[]⟩:=λh' _ _ g=>by rw[<-(vM g).1,hx]
 simp only[stA,qBy,rqA,qC,azA,iT,mcn,Rq.h0,getD_cons_zero]at e1 e2;simp(maxSteps:=9^9)(disch:=try exact dS)only[go_sem,qDf,stA,qBy,rqA,qC,azA,iT,mcn,h1,h2,e1,e2];.repeat first|exact(zY1 s ⟨0,[],[da],[]⟩ ⟨rfl,hK⟩ rfl rfl)|refine⟨rfl,?_⟩
def qOd:ECt where
 α:=Rq×Int
 β:=Int
 aS:=λ(q,i)=>[.t (rqA q),.t (.int .i64 i)]
 pre:=λ(q,i)=>0<=i
 r:=λr'=>.t (.int .i64 r')
 R:=λ(q,i) r'=>r'=q.ns.getD i.toNat 0
theorem zSq {g:EF qOd}{q:Rq}{i:Int}(hp:0<=i):qOd.fs g [.t (rqA q),.t (.int .i64 i)] []=some (.t (.int .i64 (q.ns.getD i.toNat 0)),[]):=fnQ qOd (q,i) hp
theorem zFd {q:Rq}{i:Int}(hV:vv=.t (.int .i64 (q.ns.getD i.toNat 0)))(hO:oo=[]):qOd.K (q,i) vv oo:=⟨_,rfl,hV,hO⟩
theorem qX5  (q:Rq)(i:Int)(hp:0<=i) :
  qAn.1.wp tab gl (qD 0 [.t (rqA q),.t (.int .i64 i)]) (qD 0 []) (qZ [(4,none)] 0 (qOd.K (q,i))):=by
 obtain⟨n,rfl⟩:=Int.eq_ofNat_of_zero_le hp;by_cases c:n<q.ns.length
 .obtain⟨x,hg,_⟩:=qX c;have hd:q.ns.getD n 0=x:=by rw[getD_eq_getElem?_getD,hg];rfl
  simp(disch:=omega)only[go_sem,qAn,rqA,c,hg,oms,iT];.repeat first|exact(zFd (by rw[Int.toNat_natCast,hd]) rfl)|refine⟨rfl,?_⟩
 .have hd:q.ns.getD n 0=0:=by rw[getD_eq_getElem?_getD,getElem?_eq_none oM];rfl
  simp(disch:=omega)only[go_sem,qAn,rqA,c];.repeat first|exact(zFd (by rw[Int.toNat_natCast,hd]) rfl)|refine⟨rfl,?_⟩
def qGz:ECt where
 α:=Rq×Int
 β:=List UInt8
 aS:=λ(q,i)=>[.t (rqA q),.t (.int .i64 i)]
 pre:=λ(q,i)=>0<=i
 r:=λr'=>.t (.sl (r'.map qA))
 R:=λ(q,i) r'=>r'=q.bl.getD i.toNat []
theorem zSp {g:EF qGz}{q:Rq}{i:Int}(hp:0<=i):qGz.fs g [.t (rqA q),.t (.int .i64 i)] []=some (.t (.sl ((q.bl.getD i.toNat []).map qA)),[]):=fnQ qGz (q,i) hp
theorem zFb {q:Rq}{i:Int}(hV:vv=.t (.sl ((q.bl.getD i.toNat []).map qA)))(hO:oo=[]):qGz.K (q,i) vv oo:=⟨_,rfl,hV,hO⟩
theorem zDb  (q:Rq)(i:Int)(hp:0<=i) :
  qCq.1.wp tab gl (qD 0 [.t (rqA q),.t (.int .i64 i)]) (qD 0 []) (qZ [(4,none)] 0 (qGz.K (q,i))):=by
 obtain⟨n,rfl⟩:=Int.eq_ofNat_of_zero_le hp;by_cases c:n<q.bl.length
 .obtain⟨x,hg,_⟩:=qX c;have hd:q.bl.getD n []=x:=by rw[getD_eq_getElem?_getD,hg];rfl
  simp(disch:=omega)only[go_sem,qCq,rqA,c,hg,oms];.repeat first|exact(zFb (by rw[Int.toNat_natCast,hd]) rfl)|refine⟨rfl,?_⟩
 .have hd:q.bl.getD n []=[]:=by rw[getD_eq_getElem?_getD,getElem?_eq_none oM];rfl
  simp(disch:=omega)only[go_sem,qCq,rqA,c];.repeat first|exact(zFb (by rw[Int.toNat_natCast,hd];rfl) rfl)|refine⟨rfl,?_⟩
def qKk:ECt where
 α:=Rq
 β:=Pu
 aS:=λq=>[.t (rqA q)]
 pre:=λq=>True
 r:=λr'=>.t (puA r')
 R:=λq r'=>r'=⟨q.ns.getD 0 0,q.ns.getD 1 0,q.ns.getD 2 0,q.bl.getD 0 [],[]⟩
theorem jOc {g:EF qKk}{q:Rq}(hp:True):qKk.fs g [.t (rqA q)] []=some (.t (puA (⟨q.ns.getD 0 0,q.ns.getD 1 0,q.ns.getD 2 0,q.bl.getD 0 [],[]⟩)),[]):=fnQ qKk q hp
theorem zY0 {q:Rq}(hV:vv=.t (puA (⟨q.ns.getD 0 0,q.ns.getD 1 0,q.ns.getD 2 0,q.bl.getD 0 [],[]⟩)))(hO:oo=[]):qKk.K q vv oo:=⟨_,rfl,hV,hO⟩
theorem qS4 {g1}(h1:LkE tab 172 qOd g1){g2}(h2:LkE tab 197 qGz g2)(q:Rq)(hp:True) :
  qBh.1.wp tab gl (qD 0 [.t (rqA q)]) (qD 0 []) (qZ [(2,(some (5,true)))] 0 (qKk.K q)):=by
 have e0:=zSq (g:=g1) (q:=q) (i:=0) oM;have e1:=zSq (g:=g1) (q:=q) (i:=1) oM;have e2:=zSq (g:=g1) (q:=q) (i:=2) oM;have e3:=zSp (g:=g2) (q:=q) (i:=0) oM;simp only[rqA]at e0 e1 e2 e3;simp(disch:=omega)only[go_sem,qBh,rqA,h1,h2,e0,e1,e2,e3];.repeat first|exact(zY0 rfl rfl)|refine⟨rfl,?_⟩
def jX0 (k:List UInt8)(p:Pu)(au da:List UInt8):Prop:=k.length<=64/\(∃po,p=⟨3,0,0,po,[]⟩/\po.length=32)/\au.length<=32/\da.length<=128
def qKy:ECt where
 α:=List UInt8×Pu×List UInt8×List UInt8
 β:=Pu×Sn×Int
 aS:=λ(k,p,au,da)=>[.t (.sl (k.map qA)),.t (puA p),.t (.sl (au.map qA)),.t (.sl (da.map qA))]
 pre:=λ(k,p,au,da)=>jX0 k p au da
 r:=λ(y,z,e)=>.tup [.t (puA y),.t (snA z),.t (.int .i64 e)]
 R:=λ(k,p,au,da)(y,z,e)=>e=0/\y=⟨3,0,0,p.po,zCx (qTw k) da⟩/\z=⟨au,qTw k,da⟩
theorem jRs {g:EF qKy}{k:List UInt8}{p:Pu}{au da:List UInt8}(hp:jX0 k p au da):∃(y:Pu)(z:Sn)(e:Int),(e=0/\y=⟨3,0,0,p.po,zCx (qTw k) da⟩/\z=⟨au,qTw k,da⟩)/\qKy.fs g [.t (.sl (k.map qA)),.t (puA p),.t (.sl (au.map qA)),.t (.sl (da.map qA))] []=some (.tup [.t (puA y),.t (snA z),.t (.int .i64 e)],[]):=by
 obtain⟨y,h1,h2⟩:=qKy.eq g (k,p,au,da) hp;exact⟨y.1,y.2.1,y.2.2,h1,h2⟩
theorem jX1 {k:List UInt8}{p:Pu}{au da:List UInt8}(y:Pu)(z:Sn)(e:Int)(hR:e=0/\y=⟨3,0,0,p.po,zCx (qTw k) da⟩/\z=⟨au,qTw k,da⟩)(hV:vv=.tup [.t (puA y),.t (snA z),.t (.int .i64 e)])(hO:oo=[]):qKy.K (k,p,au,da) vv oo:=⟨(y,z,e),hR,hV,hO⟩
theorem zJa (h1:LkC tab 249 jCl){g2}(h2:LkE tab 178 qIg g2)(h3:LkC tab 61 qTr)(h4:LkC tab 250 zK0)(k:List UInt8)(p:Pu)(au da:List UInt8)(hp:jX0 k p au da) :
  qFt.1.wp tab gl (qD 0 [.t (.sl (k.map qA)),.t (puA p),.t (.sl (au.map qA)),.t (.sl (da.map qA))]) (qD 0 []) (qZ [(8,(some (5,true))),(9,(some (3,true))),(10,none)] 0 (qKy.K (k,p,au,da))):=by
 obtain⟨hs,⟨po,rfl,hp⟩,ha,hd⟩:=hp;have hC:=zVl (g:=g2) (x:=⟨3,0,0,po,List.replicate 32 0⟩) (.inl ⟨rfl,rfl,rfl,hp,sM⟩);simp only[puA]at hC;have t32:List.take 32 (List.replicate 32 (0:UInt8))=List.replicate 32 0:=rfl;have hD:=jFy hs;have lS:(qTw k).length=32:=kH;have hU:=jQp (a:=au) (s:=qTw k) (d:=da) ⟨oM,oM⟩;have lU:=qIs (s:=qTw k) (d:=da);have tU:List.take 32 (zCx (qTw k) da)=zCx (qTw k) da:=take_of_length_le oM;have hK:∀vv,vv=.tup [.t (puA ⟨3,0,0,po,zCx (qTw k) da⟩),.t (snA ⟨au,qTw k,da⟩),.t (.int .i64 0)]->qKy.K (k,⟨3,0,0,po,[]⟩,au,da) vv []:=λvv h=>jX1 _ _ 0 ⟨rfl,rfl,rfl⟩ h rfl
 generalize zCx (qTw k) da=u at *;generalize qTw k=s at *;by_cases h0:0<da.length
 .simp(maxSteps:=9^9)(disch:=try exact dS)only[go_sem,qFt,puA,h1,h2,hC,t32,hd,ha,h0,h3,hD,h4,hU,tU,lU,map_nil];.repeat first|exact(hK _ rfl)|refine⟨rfl,?_⟩
 .simp(maxSteps:=9^9)(disch:=try exact dS)only[go_sem,qFt,puA,h1,h2,hC,t32,hd,ha,h0,h3,hD,h4,hU,tU,lU,map_nil];.repeat first|exact(hK _ rfl)|refine⟨rfl,?_⟩
def jS3:List UInt8:=[112,114,105,109,97,114,121]
def qPl (s:St)(h:Int)(po da:List UInt8):List UInt8:=drv (s.a.sd.getD h.toNat []) jS3 (zB 0 [[3,0,0],po,da]) 32
def zCf (s:St)(h:Int)(po au da:List UInt8):Obj:=⟨⟨3,0,0,po,zCx (qTw (qPl s h po da)) da⟩,⟨au,qTw (qPl s h po da),da⟩,h⟩
def qPm (s:St)(h:Int)(po au da:List UInt8):St×Rs:=
 let x:=zCf s h po au da
 if frO s.obs 0 = -1 then(s,⟨25,[],[],[]⟩) else((qPi s x).1,⟨0,[512+frO s.obs 0],[zVt x.p.po x.p.un,zLo x.p.po x.p.un],[]⟩)
theorem jHj {h h':Int}{po po' au au' da da':List UInt8}(e:qC (.pr h po au da)=qC (.pr h' po' au' da')):h=h'/\po=po'/\au=au'/\da=da':=by
 simp only[qC,Rq.mk.injEq,List.cons.injEq,and_true,true_and]at e;exact⟨e.1,e.2⟩
def PrP (s:St)(h:Int)(po au da:List UInt8):Prop:=(s.obs.length=3/\¬ frO s.obs 0 = -1)/\(s.a.sd.length=3/\∀x∈s.a.sd,x.length=32)/\(0<=h/\h<=2)/\po.length=32/\au.length<=32/\da.length<=60
def qOe:ECt where
 α:=St×Rq
 β:=St×Rs
 aS:=λ(s,q)=>[.t (stA s),.t (rqA q)]
 pre:=λ(s,q)=>∃h po au da,q=qC (.pr h po au da)/\PrP s h po au da
 r:=λ(t,r)=>.tup [.t (stA t),.t (rsA r)]
 R:=λ(s,q)(t,r)=>∀h po au da,q=qC (.pr h po au da)->(t,r)=qPm s h po au da
theorem jOb {g:EF qOe}{s:St}{q:Rq}(hp:∃h po au da,q=qC (.pr h po au da)/\PrP s h po au da):∃(t:St)(r:Rs),(∀h po au da,q=qC (.pr h po au da)->(t,r)=qPm s h po au da)/\qOe.fs g [.t (stA s),.t (rqA q)] []=some (.tup [.t (stA t),.t (rsA r)],[]):=by
 obtain⟨y,h1,h2⟩:=qOe.eq g (s,q) hp;exact⟨y.1,y.2,h1,h2⟩
theorem jWe {s:St}{q:Rq}(t:St)(r:Rs)(hR:∀h po au da,q=qC (.pr h po au da)->(t,r)=qPm s h po au da)(hV:vv=.tup [.t (stA t),.t (rsA r)])(hO:oo=[]):qOe.K (s,q) vv oo:=⟨(t,r),hR,hV,hO⟩
theorem qUo {g1}(h1:LkE tab 195 qH9 g1){g3}(h3:LkE tab 196 qKk g3){g4}(h4:LkE tab 197 qGz g4)(h5:LkC tab 126 qFv)(h6:LkC tab 61 qTr){g7}(h7:LkE tab 198 qKy g7){g8}(h8:LkE tab 199 qOc g8){g9}(h9:LkE tab 200 qIh g9){g10}(h10:LkE tab 183 qG2 g10)(s:St)(q:Rq)(hp:∃h po au da,q=qC (.pr h po au da)/\PrP s h po au da) :
  qB9.1.wp tab gl (qD 0 [.t (stA s),.t (rqA q)]) (qD 0 []) (qZ [(4,(some (30,true))),(5,(some (4,true)))] 0 (qOe.K (s,q))):=by
 obtain⟨h,po,au,da,rfl,⟨hl,hf⟩,⟨hs3,hs⟩,hh,lp,la,ld⟩:=hp;obtain⟨n,rfl⟩:=Int.eq_ofNat_of_zero_le hh.1;obtain⟨sd,hg,hm,_⟩:=qX (l:=s.a.sd) (k:=n) oM;have lsd:=hs sd hm;have hsd:s.a.sd.getD n []=sd:=by rw[getD_eq_getElem?_getD,hg];rfl
 have e1:qH9.fs g1 [.t (rqA (qC (.pr n po au da)))] []=some (.t (.int .i64 n),[]):=jDr (by simp[qC]);have e3:qKk.fs g3 [.t (rqA (qC (.pr n po au da)))] []=some (.t (puA ⟨3,0,0,po,[]⟩),[]):=jOc trivial;have e4:qGz.fs g4 [.t (rqA (qC (.pr n po au da))),.t (.int .i64 2)] []=some (.t (.sl (da.map qA)),[]):=zSp oM;have e5:qGz.fs g4 [.t (rqA (qC (.pr n po au da))),.t (.int .i64 1)] []=some (.t (.sl (au.map qA)),[]):=zSp oM;have e6:=qU7 (t:=0) (fs:=[[3,0,0],po,da]) ⟨oM,by simp[zB,qBq];omega⟩;have lf:(zB 0 [[3,0,0],po,da]).length<=1000:=by simp[zB,qBq];omega
 have hsec:qPl s n po da=drv sd jS3 (zB 0 [[3,0,0],po,da]) 32:=by rw[qPl,Int.toNat_natCast,hsd]
 have tf:List.take (zB 0 [[3,0,0],po,da]).length (zB 0 [[3,0,0],po,da])=zB 0 [[3,0,0],po,da]:=take_length;have e7:=zEl (k:=sd) (l:=jS3) (c:=zB 0 [[3,0,0],po,da]) (n:=32) ⟨oM,by decide,oM,oM,oM⟩;rw[<-hsec]at e7;have lsec:(qPl s n po da).length=32:=kH;obtain⟨y,z,e,⟨q1,q2,q3⟩,e8⟩:=jRs (g:=g7) (k:=qPl s n po da) (p:=⟨3,0,0,po,[]⟩) (au:=au) (da:=da) ⟨oM,⟨po,rfl,lp⟩,la,oM⟩;subst q1 q2 q3;obtain⟨t,k,e,q9,e9⟩:=jOa (g:=g8) (s:=s) (x:=zCf s n po au da) hl;have hF:qPm s n po au da=if frO s.obs 0 = -1 then(s,⟨25,[],[],[]⟩) else((qPi s (zCf s n po au da)).1,⟨0,[512+frO s.obs 0],[zVt po (zCx (qTw (qPl s n po da)) da),zLo po (zCx (qTw (qPl s n po da)) da)],[]⟩):=rfl
 have lu:=qIs (s:=qTw (qPl s n po da)) (d:=da);simp only[zCf]at e9 q9 hF;generalize zCx (qTw (qPl s n po da)) da=u at *;generalize qTw (qPl s n po da)=mk at *;generalize qPl s n po da=sec at *;generalize zB 0 [[3,0,0],po,da]=fr at *;obtain⟨E,q10,e10⟩:=jEx (g:=g9) (x:=⟨3,0,0,po,u⟩) (.inl ⟨rfl,rfl,rfl,lp,lu⟩);rw[jL4]at q10;have e11:=zVm (g:=g10) (x:=⟨3,0,0,po,u⟩) (.inl ⟨rfl,rfl,rfl,lp,lu⟩);rw[jDp]at e11;have le:=qWj (p:=po) (u:=u) ⟨lp,lu⟩;rw[q10,le]at e10;clear q10;simp only[puA]at e10 e11;have te:List.take 71 (zVt po u)=zVt po u:=take_of_length_le oM;have hK:∀t r,(t,r)=qPm s n po au da->∀h' po' au' da',qC (.pr n po au da)=qC (.pr h' po' au' da')->(t,r)=qPm s h' po' au' da':=by
  intro t r h h' po' au' da' g;obtain⟨rfl,rfl,rfl,rfl⟩:=jHj g;exact h
 have zz:((0:Nat):Int)=0:=rfl;have z32':((32:Nat):Int)=32:=rfl;have k3:T.int .u8 (IntKind.u8.wrap 3)=qA 3:=rfl;have k0:T.int .u8 (IntKind.u8.wrap 0)=qA 0:=rfl;simp only[stA,qBy,rqA,puA,snA,qC,azA,iT,mcn,qG,zz,z32',jS3]at e1 e3 e4 e5 e6 e7 e8 e9;rw[if_neg hf]at hF;rw[qPi,if_neg hf]at q9 hF;simp only[Prod.mk.injEq]at q9;obtain⟨rfl,rfl,rfl⟩:=q9;simp(maxSteps:=9^9)(disch:=try exact dS)only[go_sem,qB9,stA,qBy,rqA,puA,snA,qC,azA,iT,mcn,qG,hs3,hg,oms,h1,h3,h4,h5,h6,h7,h8,h9,h10,e1,e3,e4,e5,e6,e7,e8,e9,e10,e11,k3,k0,tf,te];repeat refine aiG ?_
 exact jWe _ _ (hK _ _ hF.symm) rfl rfl
def qE8:ECt where
 α:=St×Int
 β:=St×Rs
 aS:=λ(s,e)=>[.t (stA s),.t (.int .i64 e)]
 pre:=λ(s,e)=>True
 r:=λ(t,r)=>.tup [.t (stA t),.t (rsA r)]
 R:=λ(s,e)(t,r)=>t=s/\r=⟨e,[],[],[]⟩
theorem qMv {g:EF qE8}{s:St}{e:Int}:∃(t:St)(r:Rs),(t=s/\r=⟨e,[],[],[]⟩)/\qE8.fs g [.t (stA s),.t (.int .i64 e)] []=some (.tup [.t (stA t),.t (rsA r)],[]):=by
 obtain⟨y,h1,h2⟩:=qE8.eq g (s,e) trivial;exact⟨y.1,y.2,h1,h2⟩
theorem zYj {s:St}{e:Int}(t:St)(r:Rs)(hR:t=s/\r=⟨e,[],[],[]⟩)(hV:vv=.tup [.t (stA t),.t (rsA r)])(hO:oo=[]):qE8.K (s,e) vv oo:=⟨(t,r),hR,hV,hO⟩
theorem zC9  (s:St)(e:Int) :
  qGg.1.wp tab gl (qD 0 [.t (stA s),.t (.int .i64 e)]) (qD 0 []) (qZ [(4,(some (30,true))),(5,(some (4,true)))] 0 (qE8.K (s,e))):=by
 simp(disch:=omega)only[go_sem,qGg,stA];.repeat first|exact(zYj s ⟨e,[],[],[]⟩ ⟨rfl,rfl⟩ rfl rfl)|refine⟨rfl,?_⟩
def qKj:ECt where
 α:=St×St×Int
 β:=St×Rs
 aS:=λ(s,c,e)=>[.t (stA s),.t (stA c),.t (.int .i64 e)]
 pre:=λ(s,c,e)=>True
 r:=λ(t,r)=>.tup [.t (stA t),.t (rsA r)]
 R:=λ(s,c,e)(t,r)=>(t,r)=if e=0 then(c,⟨0,[],[],[]⟩) else(s,⟨e,[],[],[]⟩)
theorem zLj {g:EF qKj}{s c:St}{e:Int}:∃(t:St)(r:Rs),((t,r)=if e=0 then(c,⟨0,[],[],[]⟩) else(s,⟨e,[],[],[]⟩))/\qKj.fs g [.t (stA s),.t (stA c),.t (.int .i64 e)] []=some (.tup [.t (stA t),.t (rsA r)],[]):=by
 obtain⟨y,h1,h2⟩:=qKj.eq g (s,c,e) trivial;exact⟨y.1,y.2,h1,h2⟩
theorem zE5 {s c:St}{e:Int}(t:St)(r:Rs)(hR:(t,r)=if e=0 then(c,⟨0,[],[],[]⟩) else(s,⟨e,[],[],[]⟩))(hV:vv=.tup [.t (stA t),.t (rsA r)])(hO:oo=[]):qKj.K (s,c,e) vv oo:=⟨(t,r),hR,hV,hO⟩
theorem zC8 {g1}(h1:LkE tab 114 qE8 g1)(s c:St)(e:Int) :
  qCp.1.wp tab gl (qD 0 [.t (stA s),.t (stA c),.t (.int .i64 e)]) (qD 0 []) (qZ [(6,(some (30,true))),(7,(some (4,true)))] 0 (qKj.K (s,c,e))):=by
 obtain⟨t,r,⟨rfl,rfl⟩,c1⟩:=qMv (g:=g1) (s:=s) (e:=e);simp only[stA,rsA,map_nil]at c1;by_cases c0:e=0
 .subst c0;simp(disch:=omega)only[go_sem,qCp,stA];.repeat first|exact(zE5 c ⟨0,[],[],[]⟩ rfl rfl rfl)|refine⟨rfl,?_⟩
 .simp(disch:=omega)only[go_sem,qCp,stA,h1,c1,c0];.repeat first|exact(zE5 _ ⟨e,[],[],[]⟩ (by rw[if_neg c0]) rfl rfl)|refine⟨rfl,?_⟩
theorem zXp:∀{l:List Ses}{k:Nat},frS l k = -1\/((k:Int)<=frS l k/\frS l k<k+l.length)
 |[],k=>.inl rfl
 |x::r,k=>by
  unfold frS;have ih:=@zXp r (k+1);simp only[length_cons];split<;>omega
def OpP (s:St):Prop:=(s.a.en.length=32/\(0<=s.dr/\s.dr<=1000000))/\s.ses.length=3/\¬ frS s.ses 0 = -1
theorem jAu {s:St}{k:Int}(h:OpP s)(hk:k≠0):qCu (qVd s k).1 (768+frS s.ses 0)=(frS s.ses 0,nwS s k,true):=by
 have hr:=@zXp s.ses 0;have hl:=h.2.1;have hf:0<=frS s.ses 0/\frS s.ses 0<=2:=by have:=h.2.2;omega
 rw[qVd,if_neg h.2.2];have hs:(768+frS s.ses 0-768)=frS s.ses 0:=oM;have hn:(frS s.ses 0).toNat<s.ses.length:=oM;have hg:(s.ses.set (frS s.ses 0).toNat (nwS s k)).getD (frS s.ses 0).toNat qDq=nwS s k:=by
  rw[getD_eq_getElem?_getD,getElem?_set_self hn];rfl
 have hp:jEf { s with dr:=s.dr+1,ses:=s.ses.set (frS s.ses 0).toNat (nwS s k) } (768+frS s.ses 0)=frS s.ses 0:=by
  unfold jEf;rw[if_neg oM,hs,hg,if_neg (by simpa [nwS]using hk)]
 rw[qCu,hp,if_neg h.2.2,hs,hg]
def qN8:ECt where
 α:=St×Rq
 β:=St×Rs
 aS:=λ(s,q)=>[.t (stA s),.t (rqA q)]
 pre:=λ(s,q)=>OpP s/\∃k,q=qC (.op k)/\2<=k/\k<=3
 r:=λ(t,r)=>.tup [.t (stA t),.t (rsA r)]
 R:=λ(s,q)(t,r)=>∀k,q=qC (.op k)->t=(qVd s k).1/\r=⟨0,[768+frS s.ses 0],[qY1 s 16],[]⟩
theorem jNr {g:EF qN8}{s:St}{q:Rq}(hp:OpP s/\∃k,q=qC (.op k)/\2<=k/\k<=3):∃(t:St)(r:Rs),(∀k,q=qC (.op k)->t=(qVd s k).1/\r=⟨0,[768+frS s.ses 0],[qY1 s 16],[]⟩)/\qN8.fs g [.t (stA s),.t (rqA q)] []=some (.tup [.t (stA t),.t (rsA r)],[]):=by
 obtain⟨y,h1,h2⟩:=qN8.eq g (s,q) hp;exact⟨y.1,y.2,h1,h2⟩
theorem zYk {s:St}{q:Rq}(t:St)(r:Rs)(hR:∀k,q=qC (.op k)->t=(qVd s k).1/\r=⟨0,[768+frS s.ses 0],[qY1 s 16],[]⟩)(hV:vv=.tup [.t (stA t),.t (rsA r)])(hO:oo=[]):qN8.K (s,q) vv oo:=⟨(t,r),hR,hV,hO⟩
theorem zDa {g1}(h1:LkE tab 175 qOq g1){g3}(h3:LkE tab 143 qG0 g3)(s:St)(q:Rq)(hp:OpP s/\∃k,q=qC (.op k)/\2<=k/\k<=3) :
  qGh.1.wp tab gl (qD 0 [.t (stA s),.t (rqA q)]) (qD 0 []) (qZ [(4,(some (30,true))),(5,(some (4,true)))] 0 (qN8.K (s,q))):=by
 obtain⟨ho,k,rfl,k2,k3⟩:=hp;obtain⟨t,h,e,q1,c1⟩:=jPr (g:=g1) (s:=s) (k:=k) ⟨ho.1,ho.2.1,oM,k3⟩;have hr:=@zXp s.ses 0;have hl:=ho.2.1;have hn:=ho.2.2;have q2:t=(qVd s k).1/\h=768+frS s.ses 0/\e=0:=by
  rw[qVd,if_neg hn]at q1;simp only[Prod.mk.injEq]at q1;rw[qVd,if_neg hn];exact q1
 obtain⟨q2,rfl,rfl⟩:=q2;have lt:t.ses.length=3:=by rw[q2,qVd,if_neg hn];simp[hl]
 obtain⟨x,ex,q3,c3⟩:=zL8 (g:=g3) (s:=t) (h:=768+frS s.ses 0) ⟨lt,oM⟩;have hq:qCu t (768+frS s.ses 0)=(frS s.ses 0,nwS s k,true):=by rw[q2];exact jAu ho oM
 rw[hq,if_pos rfl]at q3;cases q3;have hK:∀k',qC (.op k)=qC (.op k')->t=(qVd s k').1/\(⟨0,[768+frS s.ses 0],[qY1 s 16],[]⟩:Rs)=⟨0,[768+frS s.ses 0],[qY1 s 16],[]⟩:=by
  intro k' g;simp only[qC,Rq.mk.injEq,List.cons.injEq,and_true,true_and]at g;exact⟨by rw[<-g];exact q2,rfl⟩
 clear q1 q2 hq;simp only[stA,jS,nwS]at c1 c3;simp(maxSteps:=9^9)(disch:=try exact dS)only[go_sem,qGh,stA,rqA,qC,iT,mcn,h1,h3,c1,c3];.repeat first|exact(zYk t ⟨0,[768+frS s.ses 0],[qY1 s 16],[]⟩ hK rfl rfl)|refine⟨rfl,?_⟩
def evS (s:St)(i:Int)(d:List UInt8):St := { s with bk:=evB s.bk i.toNat d,u:=s.u+1 }
def EvP (s:St):Prop:=ShA 2 s.bk/\(0<=s.u/\s.u<=1000000)
theorem ShA.on_t {bk:List zD}(h:ShA 2 bk):onB bk 0=false/\onB bk 1=true:=by
 obtain⟨b0,b1,rfl,h0,h1,-,-⟩:=h;constructor
 .show decide (List.length b0=16)=_;rw[h0];decide
 .show decide (List.length b1=16)=_;rw[h1];decide
theorem jRa {bk:List zD}{u b i:Int}(h:RM bk):zK1.fs [.t (.agg [.sl (bk.map vU),.int .i64 u]),.t (.int .i64 b),.t (.int .i64 i)] []=some (jJg bk b i,jJf bk b i):=zK1.eq (bk,u,b,i) h
def qOa:ECt where
 α:=St×Int×Rq
 β:=St×Rs
 aS:=λ(s,lo,q)=>[.t (stA s),.t (.int .i64 lo),.t (rqA q)]
 pre:=λ(s,lo,q)=>EvP s/\lo=4/\∃i d,q=qC (.ev i d)/\(0<=i/\i<=15)/\d.length<=100
 r:=λ(t,r)=>.tup [.t (stA t),.t (rsA r)]
 R:=λ(s,lo,q)(t,r)=>∀i d,q=qC (.ev i d)->t=evS s i d/\r=⟨0,[],[[],jF d],[]⟩
theorem jNt {g:EF qOa}{s:St}{lo:Int}{q:Rq}(hp:EvP s/\lo=4/\∃i d,q=qC (.ev i d)/\(0<=i/\i<=15)/\d.length<=100):∃(t:St)(r:Rs),(∀i d,q=qC (.ev i d)->t=evS s i d/\r=⟨0,[],[[],jF d],[]⟩)/\qOa.fs g [.t (stA s),.t (.int .i64 lo),.t (rqA q)] []=some (.tup [.t (stA t),.t (rsA r)],[]):=by
 obtain⟨y,h1,h2⟩:=qOa.eq g (s,lo,q) hp;exact⟨y.1,y.2,h1,h2⟩
theorem zYl {s:St}{lo:Int}{q:Rq}(t:St)(r:Rs)(hR:∀i d,q=qC (.ev i d)->t=evS s i d/\r=⟨0,[],[[],jF d],[]⟩)(hV:vv=.tup [.t (stA t),.t (rsA r)])(hO:oo=[]):qOa.K (s,lo,q) vv oo:=⟨(t,r),hR,hV,hO⟩
theorem qS2 (h1:LkC tab 168 zK1)(h4:LkC tab 124 qE6)(h5:LkC tab 170 zQo)(s:St)(lo:Int)(q:Rq)(hp:EvP s/\lo=4/\∃i d,q=qC (.ev i d)/\(0<=i/\i<=15)/\d.length<=100) :
  qBg.1.wp tab gl (qD 0 [.t (stA s),.t (.int .i64 lo),.t (rqA q)]) (qD 0 []) (qZ [(6,(some (30,true))),(7,(some (4,true)))] 0 (qOa.K (s,lo,q))):=by
 obtain⟨⟨hb,hu⟩,rfl,i,d,rfl,hi,hd⟩:=hp;obtain⟨o0,o1⟩:=hb.on_t;have e0:=jRa (u:=s.u) (b:=0) (i:=0) hb.rv.rm;have e1:=jRa (u:=s.u) (b:=1) (i:=0) hb.rv.rm;have b0:¬ zWd 0 0:=by decide
 have b1:¬ zWd 1 0:=by decide
 rw[jJg,jJf,if_neg b0,if_neg b0,show(0:Int).toNat=0 from rfl,o0,if_neg (by decide),if_neg (by decide)]at e0;rw[jJg,jJf,if_neg b1,if_neg b1,show(1:Int).toNat=1 from rfl,o1,if_pos rfl,if_pos rfl]at e1;have e2:=zI (bs:=d) oM;have e3:=jL5 (u:=s.u) (i:=i) (data:=d) hb.rv oM oM oM;have hK:∀i' d',qC (.ev i d)=qC (.ev i' d')->evS s i d=evS s i' d'/\(⟨0,[],[[],jF d],[]⟩:Rs)=⟨0,[],[[],jF d'],[]⟩:=by
  intro i' d' g;simp only[qC,Rq.mk.injEq,List.cons.injEq,and_true,true_and]at g;rw[g.1,g.2];exact⟨rfl,rfl⟩
 have lS:(jF d).length=32:=qO;have tS:List.take 32 (jF d)=jF d:=wY;have hT:evS s i d = { s with bk:=evB s.bk i.toNat d,u:=s.u+1 }:=rfl;rw[hT]at hK;clear hT;generalize evB s.bk i.toNat d=nb at *;generalize jF d=S at *;generalize zG6 s.bk 1 (Int.toNat 0)=w at *;simp(maxSteps:=9^9)(disch:=try exact dS)only[go_sem,qBg,stA,rqA,qC,iT,mcn,qG];refine qB 2 (λk=>[(1,.t (.int .i64 4)),(3,.ref 4096 0 0),(5,.ref 4112 0 0),(6,.ref 4128 0 0),(7,.ref 4144 0 0),(8,.ref 8240 0 0),(10,.ref 16384 0 0),(77,.t (.int .i64 (k:Nat)))])
  (λk=>match k with
   |0=>[(16384,.live 4 [.agg [.t (.int .i64 0),.nil,.nil,.nil]] true true),(8240,.live 2 [.t (.agg [.sl (s.bk.map vU),.int .i64 s.u])] true true),(4144,.live 4 [.agg [.t (.int .i64 0),.nil,.nil,.nil]] true true),(4128,.live 30 [.agg [.nil,.nil,.nil,.t (.int .i64 0),.t (.int .i64 0),.t (.int .i64 0),.t (.int .i64 0),.t (.bool false),.nil,.t (.int .i64 0),.t (.int .i64 0),.nil,.t (.int .i64 0),.t (.int .i64 0),.t (.int .i64 0),.t (.int .i64 0),.t (.int .i64 0),.t (.int .i64 0),.nil,.t (.bool false),.t (.bool false),.nil,.t (.int .i64 0),.t (.int .i64 0),.t (.bool false),.t (.int .i64 0),.nil,.nil,.nil,.nil]] true true),(4112,.live 5 [.t (.agg [.int .i64 7,.sl [],.sl [],.sl [.int .i64 i],.sl [.sl (d.map qA)]])] true true),(4096,.live 30 [.t (stA s)] true true)]
   |1=>[(9000,.live 1 [.nil] true false),(16384,.live 4 [.agg [.t (.int .i64 0),.nil,.sl 9000 0 1,.nil]] true true),(8240,.live 2 [.t (.agg [.sl (s.bk.map vU),.int .i64 s.u])] true true),(4144,.live 4 [.agg [.t (.int .i64 0),.nil,.nil,.nil]] true true),(4128,.live 30 [.agg [.nil,.nil,.nil,.t (.int .i64 0),.t (.int .i64 0),.t (.int .i64 0),.t (.int .i64 0),.t (.bool false),.nil,.t (.int .i64 0),.t (.int .i64 0),.nil,.t (.int .i64 0),.t (.int .i64 0),.t (.int .i64 0),.t (.int .i64 0),.t (.int .i64 0),.t (.int .i64 0),.nil,.t (.bool false),.t (.bool false),.nil,.t (.int .i64 0),.t (.int .i64 0),.t (.bool false),.t (.int .i64 0),.nil,.nil,.nil,.nil]] true true),(4112,.live 5 [.t (.agg [.int .i64 7,.sl [],.sl [],.sl [.int .i64 i],.sl [.sl (d.map qA)]])] true true),(4096,.live 30 [.t (stA s)] true true)]
   |_=>[(9000,.live 1 [.nil,.sl 9001 0 32] true false),(9001,.live 1 ((S.map qA).map V.t) true false),(16384,.live 4 [.agg [.t (.int .i64 0),.nil,.sl 9000 0 2,.nil]] true true),(8240,.live 2 [.t (.agg [.sl (s.bk.map vU),.int .i64 s.u])] true true),(4144,.live 4 [.agg [.t (.int .i64 0),.nil,.nil,.nil]] true true),(4128,.live 30 [.agg [.nil,.nil,.nil,.t (.int .i64 0),.t (.int .i64 0),.t (.int .i64 0),.t (.int .i64 0),.t (.bool false),.nil,.t (.int .i64 0),.t (.int .i64 0),.nil,.t (.int .i64 0),.t (.int .i64 0),.t (.int .i64 0),.t (.int .i64 0),.t (.int .i64 0),.t (.int .i64 0),.nil,.t (.bool false),.t (.bool false),.nil,.t (.int .i64 0),.t (.int .i64 0),.t (.bool false),.t (.int .i64 0),.nil,.nil,.nil,.nil]] true true),(4112,.live 5 [.t (.agg [.int .i64 7,.sl [],.sl [],.sl [.int .i64 i],.sl [.sl (d.map qA)]])] true true),(4096,.live 30 [.t (stA s)] true true)])
  (qL.rd id ?_ ?_ rfl) (λk hk=>?_)
 .simp(maxSteps:=9^9)(disch:=try exact dS)only[go_sem,id]
 .simp(maxSteps:=9^9)(disch:=try exact dS)only[go_sem,id,stA]
 obtain rfl|rfl|rfl:k=0\/k=1\/k=2:=oM
 .simp(maxSteps:=9^9)(disch:=try exact dS)only[go_sem,h1,h4,e0,stA];repeat refine aiG ?_
  refine qL.rd (λj=>if j=9000 then 90176 else j) ?_ ?_ rfl;all_goals simp(maxSteps:=9^9)(disch:=try exact dS)only[go_sem,id,stA]
 .simp(maxSteps:=9^9)(disch:=try exact dS)only[go_sem,h1,h4,e1,e2,lS,tS,stA];repeat refine aiG ?_
  refine qL.rd (λj=>if j=9000 then 90176 else if j=9001 then 86096 else j) ?_ ?_ rfl;all_goals simp(maxSteps:=9^9)(disch:=try exact dS)only[go_sem,id,stA]
 .simp(maxSteps:=9^9)(disch:=try exact dS)only[go_sem,h1,h4,h5,e1,e2,e3,lS,tS,stA];.repeat first|exact(zYl { s with bk:=nb,u:=s.u+1 } ⟨0,[],[[],S],[]⟩ hK rfl rfl)|refine⟨rfl,?_⟩
def ixV (s:St)(d:List UInt8):Av:= .idx 257 2 d (inF (s.a.ix.getD 0 default))
def pxP (s:St)(h:Int)(d:List UInt8):Prop:=(qFm s h).2.2=true/\(∃v y,ctN s v/\y≠0/\d=z7 y)/\(qFm s h).2.1.kd=2/\(qFm s h).2.1.dg.length=32
def asR (s:St)(h:Int)(a:Av):St×Rs:=if(asF s h a).2=0 then((asF s h a).1,⟨0,[],[],[]⟩) else(s,⟨(asF s h a).2,[],[],[]⟩)
def qN5:ECt where
 α:=St×Rq
 β:=St×Rs
 aS:=λ(s,q)=>[.t (stA s),.t (rqA q)]
 pre:=λ(s,q)=>((RV s.bk/\0<=s.u)/\s.ses.length=3)/\((∃h a,q=qC (.po h a)/\tmI h/\(qFm s h).2.2=true/\fmP a/\ckP s (qFm s h).2.1 a/\(qFm s h).2.1.dg.length=32)\/∃h d,q=qC (.px h d)/\tmI h/\pxP s h d)
 r:=λ(t,r)=>.tup [.t (stA t),.t (rsA r)]
 R:=λ(s,q)(t,r)=>(∀h a,fmP a->q=qC (.po h a)->(t,r)=asR s h a)/\∀h d,q=qC (.px h d)->(t,r)=asR s h (ixV s d)
theorem jDl {g:EF qN5}{s:St}{q:Rq}(hp:((RV s.bk/\0<=s.u)/\s.ses.length=3)/\((∃h a,q=qC (.po h a)/\tmI h/\(qFm s h).2.2=true/\fmP a/\ckP s (qFm s h).2.1 a/\(qFm s h).2.1.dg.length=32)\/∃h d,q=qC (.px h d)/\tmI h/\pxP s h d)):∃(t:St)(r:Rs),((∀h a,fmP a->q=qC (.po h a)->(t,r)=asR s h a)/\∀h d,q=qC (.px h d)->(t,r)=asR s h (ixV s d))/\qN5.fs g [.t (stA s),.t (rqA q)] []=some (.tup [.t (stA t),.t (rsA r)],[]):=by
 obtain⟨y,h1,h2⟩:=qN5.eq g (s,q) hp;exact⟨y.1,y.2,h1,h2⟩
theorem qT9 {s:St}{q:Rq}(t:St)(r:Rs)(hR:(∀h a,fmP a->q=qC (.po h a)->(t,r)=asR s h a)/\∀h d,q=qC (.px h d)->(t,r)=asR s h (ixV s d))(hV:vv=.tup [.t (stA t),.t (rsA r)])(hO:oo=[]):qN5.K (s,q) vv oo:=⟨(t,r),hR,hV,hO⟩
theorem zLu {h h':Int}{a:Av}{d:List UInt8}(f:fmP a):¬ qC (.po h a)=qC (.px h' d):=by
 intro e;cases a<;>simp only[fmP]at f<;>simp[qC,avN,avB]at e
theorem zS5 {h h':Int}{a a':Av}(f:fmP a)(f':fmP a')(e:qC (.po h a)=qC (.po h' a')):h=h'/\a=a':=by
 cases a<;>cases a'<;>simp only[fmP]at f f'<;>simp[qC,avN,avB]at e;all_goals first|exact⟨e,rfl⟩|(obtain⟨rfl,rfl⟩:=e;exact⟨rfl,rfl⟩)|(exact f.elim)|(exact f'.elim)|(obtain⟨rfl,rfl,rfl⟩:=e;exact⟨rfl,rfl⟩)|(obtain⟨⟨rfl,rfl,rfl⟩,rfl⟩:=e;exact⟨rfl,rfl⟩)|(exfalso;revert e;simp)
theorem qX2 {g2}(h2:LkE tab 133 qE7 g2){g3}(h3:LkE tab 176 qH5 g3){g4}(h4:LkE tab 177 qOm g4){g5}(h5:LkE tab 135 qKj g5)(s:St)(q:Rq)(hp:((RV s.bk/\0<=s.u)/\s.ses.length=3)/\((∃h a,q=qC (.po h a)/\tmI h/\(qFm s h).2.2=true/\fmP a/\ckP s (qFm s h).2.1 a/\(qFm s h).2.1.dg.length=32)\/∃h d,q=qC (.px h d)/\tmI h/\pxP s h d)) :
  kA.1.wp tab gl (qD 0 [.t (stA s),.t (rqA q)]) (qD 0 []) (qZ [(4,(some (30,true))),(5,(some (4,true)))] 0 (qN5.K (s,q))):=by
 obtain⟨hv,hq⟩:=hp;rcases hq with⟨h,a,rfl,ht,hb,hf,hc,hd⟩|⟨h,d,rfl,ht,hb,⟨v,y,hv',hy,rfl⟩,hk2,hd⟩
 rotate_left
 .have hx0:s.a.ix.getD 0 default=cnI true (z7 v):=by rw[hv'.1];rfl
  obtain⟨t,e,q1,c1⟩:=jEa (g:=g4) (s:=s) (h:=h) (a:= .idx 257 2 (z7 y) (inF (cnI true (z7 v)))) ⟨hv.1,⟨hv.2,ht⟩,hb,.inr ⟨_,_,rfl,rfl,qL4⟩,⟨.inl hk2,hk2,v,y,hv',hy,rfl,rfl,rfl,rfl⟩,hd⟩;obtain⟨t',r',q2,c2⟩:=zLj (g:=g5) (s:=s) (c:=t) (e:=e);obtain⟨i,ei,q3,c3⟩:=zEn (g:=g2) (s:=s) (h:=257) ⟨by rw[hv'.1];simp,by rw[hv'.1];simp[cnI],by unfold tmI;omega⟩;obtain⟨rfl,rfl⟩:i=0/\ei=0:=by
   have hx:ixP s.a.ix 257 0=0:=by rw[hv'.1];simp[ixP,cnI]
   rw[qRw,hx]at q3;exact⟨congrArg (·.1) q3,congrArg (·.2) q3⟩
  have c4:=zR2 (g:=g3) (x:=cnI true (z7 v)) (by simp[cnI]);have hK:(∀h' a',fmP a'->qC (.px h (z7 y))=qC (.po h' a')->(t',r')=asR s h' a')/\∀h' d',qC (.px h (z7 y))=qC (.px h' d')->(t',r')=asR s h' (ixV s d'):=by
   refine⟨λh' a' f' e'=>absurd e'.symm (zLu f'),λh' d' e'=>?_⟩;simp[qC]at e';obtain⟨rfl,rfl⟩:=e';rw[q2,asR,ixV,hx0,<-q1]
  clear q1 q2 q3 hx0 hb hk2 hd;have ln:=qL4 (x:=cnI true (z7 v));have l8:(z7 y).length=8:=rfl;obtain⟨hix,hv0,hrl⟩:=hv';generalize inF (cnI true (z7 v))=N at *;simp only[cnI]at hix c4;generalize z7 v=V at *;generalize z7 y=Y at *;simp only[stA,rsA,avA,avL,hix,mcn]at c1 c2 c3;simp only[ixA,map_nil]at c1 c2 c3 c4;simp(maxSteps:=9^9)(disch:=try exact dS)only[go_sem,kA,stA,rsA,rqA,qC,avN,avB,iT,ixA,hix,mcn,qG,h2,h3,h4,h5,c1,c2,c3,c4];.repeat first|exact(qT9 t' r' hK rfl rfl)|refine⟨rfl,?_⟩
 obtain⟨t,e,q1,c1⟩:=jEa (g:=g4) (s:=s) (h:=h) (a:=a) ⟨hv.1,⟨hv.2,ht⟩,hb,.inl hf,hc,hd⟩;obtain⟨t',r',q2,c2⟩:=zLj (g:=g5) (s:=s) (c:=t) (e:=e);have hK:(∀h' a',fmP a'->qC (.po h a)=qC (.po h' a')->(t',r')=asR s h' a')/\∀h' d',qC (.po h a)=qC (.px h' d')->(t',r')=asR s h' (ixV s d'):=by
  refine⟨λh' a' f' g=>?_,λh' d' g=>absurd g (zLu hf)⟩;obtain⟨rfl,rfl⟩:=zS5 hf f' g;rw[q2,asR,<-q1]
 clear q1 q2 hc;simp only[stA,rsA]at c1 c2;cases a
 case idx=>exact hf.elim
 case apr=>exact hf.elim
 case reg s0 s1 d=>
  obtain⟨rfl,_,rfl⟩:=hf;simp only[avA,avL,map_nil]at c1;simp(maxSteps:=9^9)(disch:=try exact dS)only[go_sem,kA,stA,rsA,rqA,qC,avN,avB,iT,mcn,qG,h4,h5,c1,c2];.repeat first|exact(qT9 t' r' hK rfl rfl)|refine⟨rfl,?_⟩
 all_goals
  simp only[avA,avL,map_nil]at c1;simp(maxSteps:=9^9)(disch:=try exact dS)only[go_sem,kA,stA,rsA,rqA,qC,avN,avB,iT,mcn,qG,h4,h5,c1,c2];.repeat first|exact(qT9 t' r' hK rfl rfl)|refine⟨rfl,?_⟩
end Go.Eng
end
