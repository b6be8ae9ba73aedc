/- A part of an abstract machine, its walks, their tie. -/
import Derived.Test.YteglhhgmfnbalaaGreatDoorK6
set_option linter.all false
section
namespace Go.Eng
open List
def jB {α:Type}:List (Nat×α)->Nat->Option α
 |[],_=>none
 |(k,v)::r,t=>if k=t then some v else jB r t
def jS9 {α:Type}:List (Nat×α)->Nat->α->List (Nat×α)
 |[],k,v=>[(k,v)]
 |(k',v')::r,k,v=>if k'=k then(k,v)::r else(k',v')::jS9 r k v
def jEg (fs:List (Nat×V)):Option Nat->V->List (Nat×V)
 |some d,v=>(d,v)::fs
 |none,_=>fs
theorem zSd {fs:List (Nat×V)}{d:Option Nat}{v:V}:jB (jEg fs d v)=qY0 (jB fs) d v:=by
 funext t;cases d with
 |none=>simp[jEg,qY0]
 |some d=>
  simp only[jEg,jB,qY0,Option.some.injEq]
def zAv:List (Nat×Ob)->Wr->List (Nat×Ob)
 |hs,[]=>hs
 |hs,(i,o)::r=>zAv ((i,o)::hs) r
theorem qHf:∀{W:Wr}{hs:List (Nat×Ob)},jB (zAv hs W)=upd (jB hs) W
 |[],_=>rfl
 |(i,o)::r,hs=>by
  simp only[zAv,upd];rw[qHf];congr 1;funext j;rw[jB];by_cases h:i=j
  .simp[h]
  .simp[h,Ne.symm h]
def Q.wp {α:Type}(hs:List (Nat×Ob))(q:Q α)(K:α->List Nat->Prop):Prop:=∃x l,q.run (jB hs)=some (x,l)/\K x l
section
variable {α γ:Type}{hs:List (Nat×Ob)}{K:α->List Nat->Prop}
def zO7 {α:Type}(hs:List (Nat×Ob))(o:Option Ob)(id:Nat)(k:Ob->Q α)(K:α->List Nat->Prop):Prop:=
 match o with
 |some o=>(k o).wp hs (λx l=>K x (id::l))
 |none=>False
def zAw {α:Type}(hs:List (Nat×Ob))(o:Option Ob)(id:Nat)(k:Q α)(K:α->List Nat->Prop):Prop:=
 match o with
 |some _=>False
 |none=>k.wp hs (λx l=>K x (id::l))
def zGs {α γ:Type}(hs:List (Nat×Ob))(o:Option γ)(f:γ->Q α)(K:α->List Nat->Prop):Prop:=
 match o with
 |some x=>(f x).wp hs K
 |none=>False
theorem Q.wp_ret {x:α}:(Q.ret x).wp hs K=K x []:=by
 apply propext;constructor
 .rintro⟨y,l,h,hK⟩;obtain⟨rfl,rfl⟩:=qE h;exact hK
 .exact λh=>⟨x,[],rfl,h⟩
theorem Q.wp_fail:(Q.fail:Q α).wp hs K=False:=by
 apply propext;constructor
 .rintro⟨y,l,h,hK⟩;cases h
 .exact λh=>h.elim
theorem Q.wp_get {id:Nat}{k:Ob->Q α}:(Q.get id k).wp hs K=zO7 hs (jB hs id) id k K:=by
 apply propext;constructor
 .rintro⟨y,l,h,hK⟩;obtain⟨o,l',h1,h2,rfl⟩:=yV h;rw[h1];exact⟨y,l',h2,hK⟩
 .intro h;cases ho:jB hs id with
  |none=>rw[ho]at h;exact h.elim
  |some o=>
   rw[ho]at h;obtain⟨y,l,h1,h2⟩:=h;exact⟨y,id::l,by simp[Q.run,ho,h1],h2⟩
theorem Q.wp_free {id:Nat}{k:Q α}:(Q.free id k).wp hs K=zAw hs (jB hs id) id k K:=by
 apply propext;constructor
 .rintro⟨y,l,h,hK⟩;obtain⟨h1,l',h2,rfl⟩:=xT h;rw[h1];exact⟨y,l',h2,hK⟩
 .intro h;cases ho:jB hs id with
  |some o=>rw[ho]at h;exact h.elim
  |none=>
   rw[ho]at h;obtain⟨y,l,h1,h2⟩:=h;exact⟨y,id::l,by simp[Q.run,ho,h1],h2⟩
theorem Q.wp_assert {b:Prop}[Decidable b]{q:Q α}:(Q.assert b q).wp hs K=(b/\q.wp hs K):=by
 apply propext;constructor
 .rintro⟨y,l,h,hK⟩;obtain⟨h1,h2⟩:=qM h;exact⟨h1,y,l,h2,hK⟩
 .rintro⟨h1,y,l,h,hK⟩;exact⟨y,l,by unfold Q.assert;rw[if_pos h1];exact h,hK⟩
theorem Q.wp_ite {b:Prop}[Decidable b]{p q:Q α}:(if b then p else q).wp hs K=((b->p.wp hs K)/\(¬ b->q.wp hs K)):=by
 by_cases h:b<;>simp[h]
theorem Q.wp_of_bind {o:Option γ}{f:γ->Q α}:((Q.of o).bind f).wp hs K=zGs hs o f K:=by
 cases o with
 |none=>exact Q.wp_fail
 |some x=>rfl
theorem Q.wp_bind {q:Q γ}{f:γ->Q α}:(q.bind f).wp hs K=q.wp hs (λx l=>(f x).wp hs (λy l'=>K y (l++l'))):=by
 apply propext;constructor
 .rintro⟨y,l,h,hK⟩;obtain⟨x,l1,l2,h1,h2,rfl⟩:=qS h;exact⟨x,l1,h1,y,l2,h2,hK⟩
 .rintro⟨x,l1,h1,y,l2,h2,hK⟩;exact⟨y,l1++l2,by rw[Q.run_bind,h1];simp[h2],hK⟩
theorem zO8 {id:Nat}{k:Ob->Q α}:zO7 hs none id k K=False:=rfl
theorem zJt {o:Ob}{id:Nat}{k:Q α}:zAw hs (some o) id k K=False:=rfl
theorem qYl {x:γ}{f:γ->Q α}:zGs hs (some x) f K=(f x).wp hs K:=rfl
theorem zVi {f:γ->Q α}:zGs hs none f K=False:=rfl
theorem jBn {b:Prop}[Decidable b]{o:Option γ}{f:γ->Q α}:zGs hs (if b then o else none) f K=(b/\zGs hs o f K):=by
 by_cases h:b<;>simp[h,zGs]
theorem zVg {b:Prop}[Decidable b]{o:Option γ}{f:γ->Q α}:zGs hs (if b then none else o) f K=(¬ b/\zGs hs o f K):=by
 by_cases h:b<;>simp[h,zGs]
@[congr] theorem Q.wp_congr {q q':Q α}(h:q=q'):q.wp hs K=q'.wp hs K:=by rw[h]
@[congr] theorem jJx {o o':Option Ob}{id:Nat}{k:Ob->Q α}(h:o=o'):zO7 hs o id k K=zO7 hs o' id k K:=by rw[h]
@[congr] theorem jEn {o o':Option Ob}{id:Nat}{k:Q α}(h:o=o'):zAw hs o id k K=zAw hs o' id k K:=by rw[h]
@[congr] theorem jJ9 {o o':Option γ}{f:γ->Q α}(h:o=o'):zGs hs o f K=zGs hs o' f K:=by rw[h]
end
inductive AE where
 |normal
 |exit (id:Nat)
 |ret
 deriving DecidableEq
def AE.ex:AE->Exit
 |.normal=>.normal
 |.exit id=>.exit id
 |.ret=>.ret
inductive AC where
 |skip
 |ret
 |exit (id:Nat)
 |seq (a b:AC)
 |cond (c:qHb) (a b:AC)
 |condb (c:qHb) (a b:AC)
 |block (id:Nat) (a:AC)
 |loop (a:AC)
 |reg (nb:Nat) (anc:Option (List Nat)) (ops:List zU)
 deriving Inhabited
abbrev Fs:=List (Nat×V)
abbrev Hs:=List (Nat×Ob)
abbrev xV:=AE->Fs->Hs->Prop
def zD2 (tab:Tab)(gl:Gl):List zU->Nat->Fs->Hs->List (List Nat×List Nat)->(Fs->Hs->List (List Nat×List Nat)->Prop)->Prop
 |[],_,fs,hs,acc,K=>K fs hs acc
 |o::r,nb,fs,hs,acc,K=>(o.q tab gl (jB fs) nb).wp hs (λp l=>zD2 tab gl r (nb+16) (jEg fs o.dst p.1) (zAv hs p.2) (acc++[(wT p.2,l)]) K)
def qJw (v:Option V)(A B:Prop):Prop:=
 match v with
 |some (.t (.bool b))=>(b=true->A)/\(b=false->B)
 |_=>False
def qT2 (v:Option V)(A B:Prop):Prop:=
 match v with
 |some .bq=>A/\B
 |v=>qJw v A B
@[congr] theorem jFj {v v':Option V}{A B:Prop}(h:v=v'):qJw v A B=qJw v' A B:=by rw[h]
theorem zM4 {A B:Prop}:qJw (some (.t (.bool true))) A B=A:=by simp[qJw]
@[congr] theorem jFh {v v':Option V}{A B:Prop}(h:v=v'):qT2 v A B=qT2 v' A B:=by rw[h]
theorem zWs {A B:Prop}:qT2 (some .bq) A B=(A/\B):=by simp[qT2]
theorem jFi {x:T}{A B:Prop}:qT2 (some (.t x)) A B=qJw (some (.t x)) A B:=by simp[qT2]
theorem zHo {A B:Prop}:qJw (some (.t (.bool false))) A B=B:=by simp[qJw]
def qL (fs:Fs)(hs:Hs)(fs':Fs)(hs':Hs):Prop:=
 ∀(cx:Cx)(β:Nat->Option BI)(F:Nat->Prop)(a:Act)(w:World),Rel cx β F (jB fs) (jB hs) a w->∃β' F',Rel cx β' F' (jB fs') (jB hs') a w
theorem qL.refl {fs:Fs}{hs:Hs}:qL fs hs fs hs:=λ_ β F _ _ R=>⟨β,F,R⟩
theorem qL.trans {fs fs' fs'':Fs}{hs hs' hs'':Hs}(h:qL fs hs fs' hs')(h':qL fs' hs' fs'' hs''):qL fs hs fs'' hs'':=λcx β F a w R=>
 let ⟨β',F',R'⟩:=h cx β F a w R
 h' cx β' F' a w R'
def zPl (B:Fs->Hs->xV->Prop)(fs:Fs)(hs:Hs)(Qx:xV):Prop:=
 ∃(ι:Type)(I:ι->Fs×Hs)(μ:ι->Nat)(i0:ι),qL fs hs (I i0).1 (I i0).2/\
  ∀i,B (I i).1 (I i).2 (λe fs' hs'=>match e with|.normal=>∃j,μ j<μ i/\qL fs' hs' (I j).1 (I j).2|e=>Qx e fs' hs')
@[congr] theorem jEz {B:Fs->Hs->xV->Prop}{fs:Fs}{hs:Hs}{Qx:xV}:zPl B fs hs Qx=zPl B fs hs Qx:=rfl
def yE7 (tab:Tab)(gl:Gl)(nb:Nat)(anc:Option (List Nat))(ops:List zU)(fs:Fs)(hs:Hs)(Qx:xV):Prop:=
 zD2 tab gl ops nb fs hs [] (λfs' hs' acc=>(match anc with|none=>True|some l=>chk l acc=true)/\Qx .normal fs' hs')
def AC.wp (tab:Tab)(gl:Gl):AC->Fs->Hs->xV->Prop
 |.skip,fs,hs,Qx=>Qx .normal fs hs
 |.ret,fs,hs,Qx=>Qx .ret fs hs
 |.exit id,fs,hs,Qx=>Qx (.exit id) fs hs
 |.seq a b,fs,hs,Qx=>a.wp tab gl fs hs (λe fs' hs'=>match e with|.normal=>b.wp tab gl fs' hs' Qx|e=>Qx e fs' hs')
 |.cond c a b,fs,hs,Qx=>qJw (c.val gl (jB fs)) (a.wp tab gl fs hs Qx) (b.wp tab gl fs hs Qx)
 |.condb c a b,fs,hs,Qx=>qT2 (c.val gl (jB fs)) (a.wp tab gl fs hs Qx) (b.wp tab gl fs hs Qx)
 |.block id a,fs,hs,Qx=>a.wp tab gl fs hs (λe fs' hs'=>match e with|.exit id'=>(if id'=id then Qx .normal fs' hs' else Qx (.exit id') fs' hs')|e=>Qx e fs' hs')
 |.loop a,fs,hs,Qx=>zPl (λfs hs K=>a.wp tab gl fs hs K) fs hs Qx
 |.reg nb anc ops,fs,hs,Qx=>yE7 tab gl nb anc ops fs hs Qx
@[congr] theorem AC.wp_congr {tab:Tab}{gl:Gl}{c:AC}{fs fs':Fs}{hs hs':Hs}{Qx:xV}(h1:fs=fs')(h2:hs=hs'):c.wp tab gl fs hs Qx=c.wp tab gl fs' hs' Qx:=by rw[h1,h2]
@[congr] theorem jJ8 {tab:Tab}{gl:Gl}{os:List zU}{nb nb':Nat}{fs fs':Fs}{hs hs':Hs}{acc:List (List Nat×List Nat)}{K:Fs->Hs->List (List Nat×List Nat)->Prop}(h0:nb=nb')(h1:fs=fs')(h2:hs=hs') :
  zD2 tab gl os nb fs hs acc K=zD2 tab gl os nb' fs' hs' acc K:=by rw[h0,h1,h2]
def zPu (P:Program)(nt:Nat)(ops:Array Oper)(keeps:List Nat):Nat->List Oper->Option (List zU)
 |_,[]=>some []
 |i,o::r=>(jKj P nt ops (if keeps.contains (i+1000) then 2 else if keeps.contains i then 1 else 0) o).bind λx=>(zPu P nt ops keeps (i+1) r).map (x :: ·)
def jGk (hints:List (Nat×List Nat))(id:Nat):List Nat:=(jB hints id).getD []
def ann (P:Program)(nt:Nat)(hints:List (Nat×List Nat)):Code->Option AC
 |.skip=>some .skip
 |.label _=>some .skip
 |.ret=>some .ret
 |.exit id=>some (.exit id)
 |.seq a b=>(ann P nt hints a).bind λx=>(ann P nt hints b).map λy=>.seq x y
 |.cond c a b=>(zY9 c).bind λo=>(ann P nt hints a).bind λx=>(ann P nt hints b).map λy=>match jB hints 900000 with|some _=>.condb o x y|none=>.cond o x y
 |.block id a=>(ann P nt hints a).map λx=>.block id x
 |.loop a=>(ann P nt hints a).map λx=>.loop x
 |.region id ops draw=>(zPu P nt ops (jGk hints id) 0 ops.toList).bind λaos=>
  if draw then(if zQv (jSv ops.toList []) ops.toList&&zUr (jSv ops.toList []) aos then some (.reg (4096*(id+1)) (some (jSv ops.toList [])) aos) else none)
  else some (.reg (4096*(id+1)) none aos)
 |_=>none
theorem qVx {P:Program}{nt:Nat}{ops:Array Oper}{keeps:List Nat}:∀{l:List Oper}{i:Nat}{aos:List zU},zPu P nt ops keeps i l=some aos->l=ops.toList.drop i->i<=ops.size->zMt P nt ops i aos
 |[],i,aos,h,hl,hi=>by
  cases h;have:=congrArg List.length hl;simp at this;simp only[zMt];omega
 |o::r,i,aos,h,hl,hi=>by
  simp only[zPu,Option.bind_eq_some_iff,Option.map_eq_some_iff]at h;obtain⟨x,hx,xs,hxs,rfl⟩:=h;have hlt:i<ops.size:=by
   have:=congrArg List.length hl;simp at this;omega
  have h0:ops.toList.drop i=ops.toList[i]'(by simpa using hlt)::ops.toList.drop (i+1):=drop_eq_getElem_cons (by simpa using hlt);rw[h0]at hl;simp only[List.cons.injEq]at hl;refine⟨⟨o,_,?_,hx⟩,qVx hxs hl.2 hlt⟩;rw[hl.1];simp[hlt]
variable {β:Nat->Option BI}{F:Nat->Prop}{w:World}{cx:Cx}{a:Act}
theorem zDk {tab:Tab}{gl:Gl}:∀{aos:List zU}{nb:Nat}{fs:Fs}{hs:Hs}{acc:List (List Nat×List Nat)}{K:Fs->Hs->List (List Nat×List Nat)->Prop},zD2 tab gl aos nb fs hs acc K->
  ∃tr fs' hs',Lex tab gl aos nb (jB fs) (jB hs) tr (jB fs') (jB hs')/\tr.length=aos.length/\K fs' hs' (acc++tr.map λp=>(wT p.2.1,p.2.2))
 |[],nb,fs,hs,acc,K,h=>⟨[],fs,hs,.nil,rfl,by simpa [zD2]using h⟩
 |o::r,nb,fs,hs,acc,K,h=>by
  obtain⟨⟨v,W⟩,l,hq,h⟩:=h;obtain⟨tr,fs',hs',h1,h2,h3⟩:=zDk h;refine⟨(v,W,l)::tr,fs',hs',.cons hq (by rw[<-zSd,<-qHf];exact h1),by simp[h2],?_⟩;simpa using h3
theorem zWr {anc:List Nat}{tr:List (V×Wr×List Nat)}(h:chk anc (tr.map λp=>(wT p.2.1,p.2.2))=true):∀i j,i<j->j<tr.length->(anc.getD j 0).testBit i=true\/apartW (wT (trW tr i),trL tr i) (wT (trW tr j),trL tr j)=true:=by
 intro i j hij hj;have h1:=all_eq_true.1 h j (by simpa using hj);have h2:=all_eq_true.1 h1 i (by simpa using hij);rw[Bool.or_eq_true]at h2;rcases h2 with h2|h2
 .exact .inl h2
 .refine .inr ?_;have e:∀k,k<tr.length->(tr.map λp=>(wT p.2.1,p.2.2)).getD k ([],[])=(wT (trW tr k),trL tr k):=by
   intro k hk;simp[trW,trL,List.getD,hk]
  rw[e i oM,e j hj]at h2;exact h2
theorem qRu {P:Program}{Qx:Exit->Act->World->Prop}{a:Act}{w:World}{c:Code}{ι:Type}(I:ι->Act->World->Prop)(μ:ι->Nat)(i0:ι)(h₀:I i0 a w)
  (round:∀i a w,I i a w->c.wp P (Exit.then (λa' w'=>∃j,μ j<μ i/\I j a' w') Qx) a w):(Code.loop c).wp P Qx a w:=by
 intro b k cs;have key:∀n i a w,μ i=n->I i a w->∃e a' w',Qx e a' w'/\Arrives P (lone (b.at a (.code c :: .inLoop c::k)) cs w) b k cs e a' w':=by
  intro n
  induction n using Nat.strongRecOn with
  |_ n ih=>
   intro i a w hn hI;obtain⟨e,a₁,w₁,hq,harr⟩:=round i a w hI b (.inLoop c::k) cs;cases e with
   |normal=>
    obtain⟨j,hlt,hI₁⟩:=hq;obtain⟨e₂,a₂,w₂,hq₂,harr₂⟩:=ih (μ j) (hn▸hlt) j a₁ w₁ rfl hI₁;exact⟨e₂,a₂,w₂,hq₂,.of_steps (Steps.trans harr (.one step_inLoop)) harr₂⟩
   |exit id=>exact⟨_,a₁,w₁,hq,.pass (x:= .inLoop c) rfl (λ_ _=>.inl sM) harr⟩
   |goto l=>exact⟨_,a₁,w₁,hq,.pass (x:= .inLoop c) rfl (λ_ _=>.inl sM) harr⟩
   |ret=>exact⟨_,a₁,w₁,hq,.pass (x:= .inLoop c) rfl (λ_ _=>.inl sM) harr⟩
   |panic ch=>exact⟨_,a₁,w₁,hq,.pass (x:= .inLoop c) rfl (λ_ _=>.inl sM) harr⟩
   |outgrown=>exact⟨_,a₁,w₁,hq,.pass (x:= .inLoop c) rfl (λ_ _=>.inl sM) harr⟩
 obtain⟨e,a',w',hq,harr⟩:=key _ i0 a w rfl h₀;exact⟨e,a',w',hq,.of_steps (.one step_loop) harr⟩
theorem AC.sound {tab:Tab}(ht:xQ cx.P cx.gl tab)(hmx:cx.P.follows .mixedOrders=true){hints:List (Nat×List Nat)}:∀{c:Code}{ac:AC},ann cx.P cx.nt hints c=some ac->
  ∀{fs:Fs}{hs:Hs}{Qa:xV}{Qx:Exit->Act->World->Prop}{β:Nat->Option BI}{F:Nat->Prop}{a:Act}{w:World},ac.wp tab cx.gl fs hs Qa->Rel cx β F (jB fs) (jB hs) a w->
   (∀e fs' hs' β' F' a' w',Qa e fs' hs'->Rel cx β' F' (jB fs') (jB hs') a' w'->Qx e.ex a' w')->c.wp cx.P Qx a w:=by
 intro c
 induction c with
 |skip=>intro ac h fs hs Qa Qx β F a w hw R hQ;cases h;exact wp_skip (hQ .normal _ _ _ _ _ _ hw R)
 |label l=>intro ac h fs hs Qa Qx β F a w hw R hQ;cases h;exact wp_label (hQ .normal _ _ _ _ _ _ hw R)
 |ret=>intro ac h fs hs Qa Qx β F a w hw R hQ;cases h;exact wp_ret (hQ .ret _ _ _ _ _ _ hw R)
 |exit id=>intro ac h fs hs Qa Qx β F a w hw R hQ;cases h;exact wp_exit (hQ (.exit id) _ _ _ _ _ _ hw R)
 |seq x y ihx ihy=>
  intro ac h fs hs Qa Qx β F a w hw R hQ;simp only[ann,Option.bind_eq_some_iff,Option.map_eq_some_iff]at h;obtain⟨cx',hx,cy,hy,rfl⟩:=h;refine wp_seq (ihx hx hw R (λe fs' hs' β' F' a' w' hq R'=>?_));cases e with
  |normal=>exact ihy hy hq R' hQ
  |exit id=>exact hQ (.exit id) _ _ _ _ _ _ hq R'
  |ret=>exact hQ .ret _ _ _ _ _ _ hq R'
 |cond o x y ihx ihy=>
  intro ac h fs hs Qa Qx β F a w hw R hQ;simp only[ann,Option.bind_eq_some_iff,Option.map_eq_some_iff]at h;obtain⟨o',ho,cx',hx,cy,hy,h⟩:=h;have key:∀{Qa:xV},qJw (o'.val cx.gl (jB fs)) (cx'.wp tab cx.gl fs hs Qa) (cy.wp tab cx.gl fs hs Qa)->(∀e fs' hs' β' F' a' w',Qa e fs' hs'->Rel cx β' F' (jB fs') (jB hs') a' w'->Qx e.ex a' w')->(Code.cond o x y).wp cx.P Qx a w:=by
   intro Qa hw hQ;simp only[qJw]at hw;split at hw
   .rename_i v b hv;have:=qWy R ho hv;refine wp_cond_split (this.bool_inv) (λe=>ihx hx (hw.1 e) R hQ) (λe=>ihy hy (hw.2 e) R hQ)
   .exact hw.elim
  cases hm:jB hints 900000 with
  |none=>
   rw[hm]at h;subst h;exact key hw hQ
  |some l=>
   rw[hm]at h;subst h;simp only[AC.wp,qT2]at hw;split at hw
   .rename_i v hv;have:=qWy R ho hv;generalize he:a.eval o=y0 at this;cases this with
    |bq b=>exact wp_cond_split he (λ_=>ihx hx hw.1 R hQ) (λ_=>ihy hy hw.2 R hQ)
   .exact key hw hQ
 |block id x ih=>
  intro ac h fs hs Qa Qx β F a w hw R hQ;simp only[ann,Option.map_eq_some_iff]at h;obtain⟨x',hx,rfl⟩:=h;refine wp_block (ih hx hw R (λe fs' hs' β' F' a' w' hq R'=>?_));cases e with
  |normal=>exact hQ .normal _ _ _ _ _ _ hq R'
  |exit id'=>
   simp only[AE.ex,Exit.inBlock];simp only at hq;split
   .rename_i h1;rw[if_pos h1]at hq;exact hQ .normal _ _ _ _ _ _ hq R'
   .rename_i h1;rw[if_neg h1]at hq;exact hQ (.exit id') _ _ _ _ _ _ hq R'
  |ret=>exact hQ .ret _ _ _ _ _ _ hq R'
 |loop x ih=>
  intro ac h fs hs Qa Qx β F a w hw R hQ;simp only[ann,Option.map_eq_some_iff]at h;obtain⟨x',hx,rfl⟩:=h;obtain⟨ι,I,μ,i0,h0,hr⟩:=hw;refine qRu (λi a w=>∃β F,Rel cx β F (jB (I i).1) (jB (I i).2) a w) μ i0 (h0 cx β F a w R) (λi a w ⟨β1,F1,R1⟩=>?_);refine ih hx (hr i) R1 (λe fs' hs' β' F' a' w' hq R'=>?_);cases e with
  |normal=>
   obtain⟨j,h1,h2⟩:=hq;exact⟨j,h1,h2 cx β' F' a' w' R'⟩
  |exit id=>exact hQ (.exit id) _ _ _ _ _ _ hq R'
  |ret=>exact hQ .ret _ _ _ _ _ _ hq R'
 |region id ops draw=>
  intro ac h fs hs Qa Qx β F a w hw R hQ;simp only[ann,Option.bind_eq_some_iff]at h;obtain⟨aos,haos,h⟩:=h;have hag:=qVx haos rfl (Nat.zero_le _);cases draw with
  |false=>
   simp only[Bool.false_eq_true,if_false]at h;cases h;obtain⟨tr,fs',hs',h1,h2,_,h3⟩:=zDk hw;exact wp_region (zR9 ht hag h1 R (λβ' F' a' w' R'=>hQ .normal _ _ _ _ _ _ h3 R') _ rfl)
  |true=>
   simp only[if_true]at h;split at h
   .rename_i hb;cases h;rw[Bool.and_eq_true]at hb;obtain⟨tr,fs',hs',h1,h2,h4,h3⟩:=zDk hw;simp only[nil_append]at h4;have hsz:ops.size=aos.length:=by
     have:=(qVs hag).1;omega
    refine wp_region_any hmx ?_;refine jGm ht hag h1 hb.1 hb.2 (λi j hij hj=>zWr h4 i j hij oM) (λβ' F' a' w' R'=>hQ .normal _ _ _ _ _ _ h3 R') ops.size _ (λ_=>false) β F a _ sM (λi hi=>by simp[hi]) ?_ (λi o h=>by cases h) ?_
    .have:∀n,cnt (λ_=>false) n=n:=by
      intro n
      induction n with
      |zero=>rfl
      |succ n ih=>simp[cnt,ih]
     exact this _
    .have e1:∀n,SF (aoD aos) (trV tr) (λ_=>false) (jB fs) n=jB fs:=by
      intro n
      induction n with
      |zero=>rfl
      |succ n ih=>simp[SF,ih]
     have e2:∀n,SH (trW tr) (λ_=>false) (jB hs) n=jB hs:=by
      intro n
      induction n with
      |zero=>rfl
      |succ n ih=>simp[SH,ih]
     rw[e1,e2];exact R.drew
   .cases h
 |rangeFunc f ps x y _ _=>intro ac h;cases h
 |scope x _=>intro ac h;cases h
 |goto l=>intro ac h;cases h
 |refuse s=>intro ac h;cases h
end Go.Eng
end
section
namespace Go.Eng
open List
theorem qSe {hm:Nat->Option Ob}:∀{n:Nat}{todo ids:List Nat}{obs:List Ob}{fz ids':List Nat}{obs':List Ob}{fz' l:List Nat},(qBs n todo ids obs fz).run hm=some ((ids',obs',fz'),l)->∃s,ids'=ids++s
 |n,[],ids,obs,fz,ids',obs',fz',l,h=>by
  have h':(Q.ret (ids,obs,fz):Q _).run hm=some ((ids',obs',fz'),l):=by cases n<;>exact h
  obtain⟨e,_⟩:=qE h';cases e;exact⟨[],sM⟩
 |0,_::_,ids,obs,fz,ids',obs',fz',l,h=>by cases h
 |n+1,id::todo,ids,obs,fz,ids',obs',fz',l,h=>by
  simp only[qBs]at h;split at h
  .exact qSe h
  .obtain⟨o,l',ho,hs2,_⟩:=yV h;cases o with
   |dead=>cases hs2
   |live z es wr full=>
    cases wr with
    |false=>cases hs2
    |true=>
     obtain⟨p,l1,l2,hp,hs3,_⟩:=qS hs2;obtain⟨s,hs⟩:=qSe hs3;exact⟨id::s,by rw[hs];simp⟩
theorem qLh {hm:Nat->Option Ob}:∀{m n s:Nat}{rest:List Nat}{obs:List Ob}{fz ids':List Nat}{obs':List Ob}{fz' l:List Nat},(qBs n (List.range' s m++rest) (List.range s) obs fz).run hm=some ((ids',obs',fz'),l)->∃t,ids'=List.range (s+m)++t
 |0,n,s,rest,obs,fz,ids',obs',fz',l,h=>by
  obtain⟨t,ht⟩:=qSe h;exact⟨t,ht⟩
 |m+1,n,s,rest,obs,fz,ids',obs',fz',l,h=>by
  cases n with
  |zero=>rw[range'_succ]at h;cases h
  |succ n=>
   rw[range'_succ,cons_append]at h;simp only[qBs]at h;split at h
   .rename_i hc;simp at hc
   .obtain⟨o,l',ho,hs2,_⟩:=yV h;cases o with
    |dead=>cases hs2
    |live z es wr full=>
     cases wr with
     |false=>cases hs2
     |true=>
      obtain⟨p,l1,l2,hp,hs3,_⟩:=qS hs2;rw[<-range_succ,append_assoc]at hs3;obtain⟨t,ht⟩:=qLh hs3;exact⟨t,by rw[ht];congr 2;omega⟩
def jD4:List V->V
 |[x]=>x
 |xs=>.tup xs
def jJ6 (n:Nat)(vs:List V):Q (V×List Ob):=
 (qDk (zN 4) vs).bind λp=>(qBs (12+n) (List.range n++qA4 p.1) [] [] []).bind λq=>
  Q.assert ((q.1.all λi => !(p.2++q.2.2).contains i)=true) ((qYn (p.2++q.2.2)).bind λ_=>.ret (jD4 (qFn (λr=>q.1.idxOf r) p.1),q.2.1.map (Ob.ren λr=>q.1.idxOf r)))
def rsQ (fs:Fs):List (Nat×Option (Nat×Bool))->Q (List V)
 |[]=>.ret []
 |(t,none)::r=>(Q.of (jB fs t)).bind λv=>(rsQ fs r).bind λvs=>.ret (v::vs)
 |(t,some (n,agg))::r=>(Q.of (jB fs t)).bind λv=>(qSo n agg [v]).bind λp=>(rsQ fs r).bind λvs=>.ret (p.1::vs)
def qZ (rs:List (Nat×Option (Nat×Bool)))(n:Nat)(R:V->List Ob->Prop):xV:=λe fs hs=>
 match e with
 |.exit _=>False
 |_=>((rsQ fs rs).bind λvs=>jJ6 n vs).wp hs (λp _=>R p.1 p.2)
def qD {α:Type}:Nat->List α->List (Nat×α)
 |_,[]=>[]
 |i,x::r=>(i,x)::qD (i+1) r
theorem wI {α:Type}:∀{l:List α}{i t:Nat},jB (qD i l) t=if i<=t then l[t-i]? else none
 |[],i,t=>by simp[qD,jB]
 |x::r,i,t=>by
  simp only[qD,jB];by_cases h:i=t
  .subst h;simp
  .rw[if_neg h,wI];by_cases h1:i<=t
   .have h2:i+1<=t:=oM;rw[if_pos h1,if_pos h2,show t-i=(t-(i+1))+1 by omega];simp
   .have h2:¬ i+1<=t:=oM;rw[if_neg h1,if_neg h2]
def zFm (vs:List Value):Value:=match vs with
 |[x]=>x
 |xs=>.tuple xs.toArray
def qMb (P:Program):List ResultVar->Option (List (Nat×Option (Nat×Bool)))
 |[]=>some []
 |.tmp t::r=>(qMb P r).map λl=>(t,none)::l
 |.cell a t::r=>match P.info? t,P.underlying t with
  |some i,some d=>if vV d\/i.size=1 then(qMb P r).map λl=>(a,some (i.size,vV d))::l else none
  |_,_=>none
def jD3 (tmps:Array Value):ResultVar->Sem Value
 |.tmp t=>pure (tmps.getD t undef)
 |.cell a t=>do loadVar t (<-asAddr (tmps.getD a undef))
theorem qL5 {cx:Cx}{β:Nat->Option BI}{F:Nat->Prop}{fs:Fs}{hs:Hs}{a:Act}{w:World}(R:Rel cx β F (jB fs) (jB hs) a w):∀{rv:List ResultVar}{rs:List (Nat×Option (Nat×Bool))}{vs:List V}{l:List Nat},qMb cx.P rv=some rs->(rsQ fs rs).run (jB hs)=some (vs,l)->
  ∃xs,(rv.mapM (jD3 a.tmps)).run cx.P w=.ok xs w/\xU (qR β F w) vs xs
 |[],rs,vs,l,h,hq=>by
  cases h;obtain⟨rfl,_⟩:=qE hq;exact⟨[],sM,.nil⟩
 |.tmp t::r,rs,vs,l,h,hq=>by
  simp only[qMb,Option.map_eq_some_iff]at h;obtain⟨rs',hrs,rfl⟩:=h;simp only[rsQ]at hq;obtain⟨v,hv,hq⟩:=qH hq;obtain⟨us,l1,l2,hu,hq,_⟩:=qS hq;obtain⟨rfl,_⟩:=qE hq;obtain⟨x,h1,h2⟩:=R.fr t v hv;obtain⟨xs,h3,h4⟩:=qL5 R hrs hu;refine⟨x::xs,?_,.cons h2 h4⟩;rw[mapM_cons,Sem.run_bind];have e:(jD3 a.tmps (.tmp t)).run cx.P w=.ok x w:=by simp[jD3,h1]
  rw[e,Result.andThen];simp only[Sem.run_bind,h3,Result.andThen];simp
 |.cell t ty::r,rs,vs,l,h,hq=>by
  simp only[qMb]at h;split at h
  .rename_i i d hi hd;split at h
   .rename_i hcond;simp only[Option.map_eq_some_iff]at h;obtain⟨rs',hrs,rfl⟩:=h;simp only[rsQ]at hq;obtain⟨v,hv,hq⟩:=qH hq;obtain⟨⟨u,W⟩,l0,l3,hl,hq,_⟩:=qS hq;obtain⟨us,l1,l2,hu,hq,_⟩:=qS hq;obtain⟨rfl,_⟩:=qE hq;obtain⟨x,h1,h2⟩:=R.fr t v hv;obtain⟨xs,h3,h4⟩:=qL5 R hrs hu;have hx:a.eval (.tmp t)=x:=by simp[Act.eval,h1]
    have han:qRz cx.P ty (.tmp t)=some (.load i.size (vV d),[.tmp t]):=by simp[qRz,hi,hd,hcond]
    obtain⟨_,y,h5,h6⟩:=zT1 (nb:=0) R han (vs:=[v]) (.cons (by rw[hx];exact h2) .nil) (by simpa [sem]using hl);rw[hx]at h5;have hptr:∃ad,x=.pointer (some ad):=by
     cases v<;>simp only[qSo]at hl<;>(try(cases hl;done))
     .cases h2;exact⟨_,rfl⟩
     .cases h2;exact⟨_,rfl⟩
    obtain⟨ad,rfl⟩:=hptr;refine⟨y::xs,?_,.cons h6 h4⟩;rw[mapM_cons,Sem.run_bind];have e:(jD3 a.tmps (.cell t ty)).run cx.P w=.ok y w:=by
     have e0:a.tmps.getD t undef=.pointer (some ad):=by simp[h1]
     rw[<-h5];simp only[jD3,e0,Instr.loadAt,Instr.sureAddr,asAddr]
    rw[e,Result.andThen];simp only[Sem.run_bind,h3,Result.andThen];simp
   .cases h
  .cases h
theorem qIo {P:Program}{fn:Func}{tmps:Array Value}{w:World}{xs:List Value}(h:(fn.results.toList.mapM (jD3 tmps)).run P w=.ok xs w):(results fn tmps).run P w=.ok (zFm xs) w:=by
 have e:results fn tmps=(do
   let vs <-fn.results.mapM (jD3 tmps)
   pure (if h:vs.size=1 then vs[0] else .tuple vs)):=by
  unfold results;congr 1
 rw[e,Array.mapM_eq_mapM_toList,Sem.run_bind];have k2:(Functor.map List.toArray (fn.results.toList.mapM (jD3 tmps))).run P w=.ok xs.toArray w:=by
  rw[map_eq_pure_bind,Sem.run_bind,h,Result.andThen];simp
 rw[k2,Result.andThen];cases xs with
 |nil=>simp[zFm]
 |cons t r=>cases r with
  |nil=>simp[zFm]
  |cons t2 r=>simp[zFm]
theorem qQy {β:Nat->Option BI}{F:Nat->Prop}{w:World}{vs:List V}{us:List Value}(h:xU (qR β F w) vs us):qR β F w (jD4 vs) (zFm us):=by
 have tup:qR β F w (.tup vs) (.tuple us.toArray):=by
  refine .tup vs _ (by simpa using h.length.symm) (λi c u hc hu=>?_);obtain⟨y,h1,h2⟩:=h.get' i c hc;have:us[i]?=some u:=by simpa using hu
  rw[this]at h1;cases h1;exact h2
 cases h with
 |nil=>exact tup
 |cons h1 t=>cases t with
  |nil=>exact h1
  |cons h2 t=>exact tup
theorem zUs {P:Program}{G:Gl}{tab:Tab}{f:FuncId}{fn:Func}{c:Code}{ac:AC}{hints:List (Nat×List Nat)}{rs:List (Nat×Option (Nat×Bool))}(hf:P.funcs[f]?=some fn)(hb:fn.body=some c)(hann:ann P fn.ntmps hints c=some ac)(hmx:P.follows .mixedOrders=true)
  (ht:xQ P G tab) (hrs:qMb P fn.results.toList=some rs) {aS:List V} {ins:List Ob} {r:V} {outs:List Ob} (hn:aS.length<=fn.ntmps) (hi:ins.length<=100)
  (h:ac.wp tab G (qD 0 aS) (qD 0 ins) (qZ rs ins.length (λr' outs'=>r'=r/\outs'=outs))):zJz P G f aS ins r outs:=by
 intro w β F vals env fits hargs;have hd0:∀k bi,β k=some bi->k<100:=by
  intro k bi h;rcases Nat.lt_or_ge k ins.length with h1|h1
  .omega
  .rw[fits.dom k h1]at h;cases h
 let cx:Cx := { P,w0:=w,F0:=F,inb:=λb=>∃k bi,β k=some bi/\bi.blk=some b,nt:=fn.ntmps,gl:=G,β0:=β,d0:=hd0 }
 have hlen:aS.length=vals.size:=by simpa using hargs.length
 have lookAs:∀t v,jB (qD 0 aS) t=some v->aS[t]?=some v:=by
  intro t v h;simpa [wI]using h
 have lookIns:∀t v,jB (qD 0 ins) t=some v->ins[t]?=some v:=by
  intro t v h;simpa [wI]using h
 have R0:Rel cx β F (jB (qD 0 aS)) (jB (qD 0 ins)) { tmps:=vals++Array.replicate (fn.ntmps-vals.size) undef,defers:=[] } w:=by
  refine⟨by simp[cx];omega,rfl,λt v hv=>?_,λid o ho=>?_,λid hn=>?_,λi j bi bj b oi oj h1 h2 h3 h4 _ _ _ _=>fits.inj i j bi bj b h1 h2 h3 h4,rfl,rfl,rfl,Nat.le_refl _,λ_ _ _=>rfl,λid z es full bi b h1 h2 h3=>.inr ⟨?_,id,bi,h2,h3⟩,λb hb=>?_,λb hb=>?_,env.Fw,λ_ _=>Iff.rfl,λid bi b h1 h2=>(fits.blt id bi b h1 h2).1,λg cs hg=>?_,λ_ _ h=>h,env.gs⟩
  .obtain⟨x,h1,h2⟩:=hargs.get' t v (lookAs t v hv);refine⟨x,?_,h2⟩;have hlt:t<vals.size:=by
    have:=(List.getElem?_eq_some_iff.1 (lookAs t v hv)).1;omega
   rw[Array.getElem?_append_left hlt];simpa using h1
  .obtain⟨bi,h1,h2,_⟩:=fits.ok id o (lookIns id o ho);exact⟨bi,h1,h2⟩
  .refine fits.dom id ?_;rcases Nat.lt_or_ge id ins.length with h1|h1
   .rw[wI]at hn;simp[h1]at hn
   .exact h1
  .have:=(List.getElem?_eq_some_iff.1 (lookIns id _ h1)).1;omega
  .obtain⟨k,bi,h1,h2⟩:=hb;exact(fits.blt k bi b h1 h2).2
  .obtain⟨k,bi,h1,h2⟩:=hb;exact(fits.blt k bi b h1 h2).1
  .exact(env.gl g cs hg).mono (λ_ _ h=>by cases h) (λ_ h=>h) (λ_ _=>rfl)
 refine calls_of_wp hf hb (AC.sound (cx:=cx) ht hmx hann h R0 (λe fs hs βR FR a w' hq R=>?_));have fin:((rsQ fs rs).bind λvs=>jJ6 ins.length vs).wp hs (λp _=>p.1=r/\p.2=outs)->a.defers=[]/\∃v,(results fn a.tmps).run P w'=.ok v w'/\∃x β' F',Ending.returned v=.returned x/\qLw w β F ins r outs x β' F' w':=by
  intro hq;rw[Q.wp_bind]at hq;obtain⟨vs,l0,hvs,⟨r',outs'⟩,l,hrun,e1,e2⟩:=hq;obtain⟨xs,hxs,hall⟩:=qL5 (cx:=cx) R hrs hvs;refine⟨R.dfr,_,qIo hxs,?_⟩
  .simp only at e1 e2;subst e1 e2;unfold jJ6 at hrun;obtain⟨p,l1,l2,hp,hrun,_⟩:=qS hrun;obtain⟨q,l3,l4,hqq,hrun,_⟩:=qS hrun;obtain⟨hdis,hrun⟩:=qM hrun;obtain⟨fw,l5,l6,hfw,hrun,_⟩:=qS hrun;obtain⟨e,_⟩:=qE hrun;simp only[Prod.mk.injEq]at e;obtain⟨rfl,rfl⟩:=e;obtain⟨ids,obs,fzq⟩:=q;obtain⟨t,htt⟩:=qLh (s:=0) (m:=ins.length) (n:=12+ins.length) (rest:=qA4 p.1) (by simpa [range_eq_range']using hqq);have hidk:∀k,k<ins.length->ids[k]?=some k:=by
    intro k hk;rw[htt,getElem?_append_left (by simpa using hk)];simp[hk]
   obtain⟨F1,R1,hFF,hnd,hlo,hfwl,hlive,fits',hres⟩:=qVe R (qR0 R) hp hqq (λr h=>by simp[h]) hdis hfw hall;have hβk:∀k bi,β k=some bi->βR k=some bi:=R1.ext0;have hklt:∀k bi,β k=some bi->k<ins.length:=by
    intro k bi h;rcases Nat.lt_or_ge k ins.length with h1|h1
    .exact h1
    .rw[fits.dom k h1]at h;cases h
   refine⟨_,qDv ids βR,F1,rfl,fits',qQy hres,λk hk=>?_,λk bi b hk h1 h2=>?_,λb hb=>R1.F0 b hb,R1.Fw,R1.os,R1.tape,R1.output,R1.size,λb hb hk=>R1.ext b hb (λ⟨k,bi,h1,h2⟩=>hk k bi h1 h2)⟩
   .obtain⟨bi,h1,_⟩:=fits.ok k ins[k] (by simp[hk]);simp[qDv,hidk k hk,hβk k bi h1,h1]
   .unfold qDv at h1;rw[Option.bind_eq_some_iff]at h1;obtain⟨id,hid,h1⟩:=h1;obtain⟨z,es,full,_,hl⟩:=hlive k id hid;rcases R1.old id z es full bi b hl h1 h2 with h|⟨_,k0,bi0,g1,g2⟩
    .exact h
    .exfalso;have hk0:=hklt k0 bi0 g1;obtain⟨z0,es0,full0,_,hl0⟩:=hlive k0 k0 (hidk k0 hk0);have e:=R1.inj id k0 bi bi0 b _ _ h1 (hβk k0 bi0 g1) h2 g2 hl hl0 sM sM;subst e;have hi1:k<ids.length:=(List.getElem?_eq_some_iff.1 hid).1;have hi2:id<ids.length:=(List.getElem?_eq_some_iff.1 (hidk id hk0)).1;have:=qAi hnd hi1 hi2 (by
      have a1:=hid;have a2:=hidk id hk0;rw[getElem?_eq_getElem hi1]at a1;rw[getElem?_eq_getElem hi2]at a2;rw[Option.some.inj a1,Option.some.inj a2])
     omega
 cases e with
 |normal=>exact fin hq
 |ret=>exact fin hq
 |exit id=>exact hq.elim
end Go.Eng
end
section
namespace Go.Eng
open List
variable {tab:Tab}{gl:Gl}{fs:Fs}{hs:Hs}{Qx:xV}
theorem jRw:AC.skip.wp tab gl fs hs Qx=Qx .normal fs hs:=eR
theorem jX6:AC.ret.wp tab gl fs hs Qx=Qx .ret fs hs:=eR
theorem jRu {id:Nat}:(AC.exit id).wp tab gl fs hs Qx=Qx (.exit id) fs hs:=eR
def jS8 (tab:Tab)(gl:Gl)(b:AC)(Qx:xV):xV:=λe fs' hs'=>match e with|.normal=>b.wp tab gl fs' hs' Qx|e=>Qx e fs' hs'
def zKd (id:Nat)(Qx:xV):xV:=λe fs' hs'=>match e with|.exit id'=>(if id'=id then Qx .normal fs' hs' else Qx (.exit id') fs' hs')|e=>Qx e fs' hs'
theorem jX7 {a b:AC}:(AC.seq a b).wp tab gl fs hs Qx=a.wp tab gl fs hs (jS8 tab gl b Qx):=eR
theorem zIr {b:AC}:jS8 tab gl b Qx .normal fs hs=b.wp tab gl fs hs Qx:=eR
theorem zUc {b:AC}{id:Nat}:jS8 tab gl b Qx (.exit id) fs hs=Qx (.exit id) fs hs:=eR
theorem jAs {b:AC}:jS8 tab gl b Qx .ret fs hs=Qx .ret fs hs:=eR
theorem jJu {id:Nat}{a:AC}:(AC.block id a).wp tab gl fs hs Qx=a.wp tab gl fs hs (zKd id Qx):=eR
theorem zBb {id:Nat}:zKd id Qx .normal fs hs=Qx .normal fs hs:=eR
theorem zMz {id:Nat}:zKd id Qx .ret fs hs=Qx .ret fs hs:=eR
theorem zHi {id id':Nat}:zKd id Qx (.exit id') fs hs=if id'=id then Qx .normal fs hs else Qx (.exit id') fs hs:=eR
theorem jRt {c:qHb}{a b:AC}:(AC.cond c a b).wp tab gl fs hs Qx=qJw (c.val gl (jB fs)) (a.wp tab gl fs hs Qx) (b.wp tab gl fs hs Qx):=eR
theorem jJv {c:qHb}{a b:AC}:(AC.condb c a b).wp tab gl fs hs Qx=qT2 (c.val gl (jB fs)) (a.wp tab gl fs hs Qx) (b.wp tab gl fs hs Qx):=eR
def qYv (tab:Tab)(gl:Gl)(a:AC)(fs:Fs)(hs:Hs)(Qx:xV):Prop:=zPl (λfs hs K=>a.wp tab gl fs hs K) fs hs Qx
theorem jRv {a:AC}:(AC.loop a).wp tab gl fs hs Qx=qYv tab gl a fs hs Qx:=eR
@[congr] theorem jGp {a:AC}{fs':Fs}{hs':Hs}(h1:fs=fs')(h2:hs=hs'):qYv tab gl a fs hs Qx=qYv tab gl a fs' hs' Qx:=by rw[h1,h2]
def jO8 (anc:Option (List Nat))(Qx:xV):Fs->Hs->List (List Nat×List Nat)->Prop:=λfs' hs' acc=>(match anc with|none=>True|some l=>chk l acc=true)/\Qx .normal fs' hs'
theorem zTe {acc:List (List Nat×List Nat)}:jO8 none Qx fs hs acc=Qx .normal fs hs:=by simp[jO8]
theorem zTf {l:List Nat}{acc:List (List Nat×List Nat)}:jO8 (some l) Qx fs hs acc=(chk l acc=true/\Qx .normal fs hs):=eR
def opK (tab:Tab)(gl:Gl)(r:List zU)(nb:Nat)(fs:Fs)(d:Option Nat)(hs:Hs)(acc:List (List Nat×List Nat))(K:Fs->Hs->List (List Nat×List Nat)->Prop):V×Wr->List Nat->Prop:=
 λp l=>zD2 tab gl r nb (jEg fs d p.1) (zAv hs p.2) (acc++[(wT p.2,l)]) K
theorem jG3 {r:List zU}{nb:Nat}{d:Option Nat}{acc:List (List Nat×List Nat)}{K:Fs->Hs->List (List Nat×List Nat)->Prop}{v:V}{W:Wr}{l:List Nat} :
  opK tab gl r nb fs d hs acc K (v,W) l=zD2 tab gl r nb (jEg fs d v) (zAv hs W) (acc++[(wT W,l)]) K:=eR
def jV7 {α:Type}(id:Nat)(K:α->List Nat->Prop):α->List Nat->Prop:=λx l=>K x (id::l)
theorem zYf {α:Type}{id:Nat}{K:α->List Nat->Prop}{x:α}{l:List Nat}:jV7 id K x l=K x (id::l):=eR
def jTj {α:Type}(l:List Nat)(K:α->List Nat->Prop):α->List Nat->Prop:=λx l'=>K x (l++l')
theorem zWa {α:Type}{l l':List Nat}{K:α->List Nat->Prop}{x:α}:jTj l K x l'=K x (l++l'):=eR
def jTr {α γ:Type}(hs:Hs)(f:γ->Q α)(K:α->List Nat->Prop):γ->List Nat->Prop:=λx l=>(f x).wp hs (jTj l K)
theorem zP6 {α γ:Type}{f:γ->Q α}{K:α->List Nat->Prop}{x:γ}{l:List Nat}:jTr hs f K x l=(f x).wp hs (jTj l K):=eR
theorem zJu {α:Type}{o:Ob}{id:Nat}{k:Ob->Q α}{K:α->List Nat->Prop}:zO7 hs (some o) id k K=(k o).wp hs (jV7 id K):=eR
theorem zGr {α:Type}{id:Nat}{k:Q α}{K:α->List Nat->Prop}:zAw hs none id k K=k.wp hs (jV7 id K):=eR
theorem jX5 {nb:Nat}{anc:Option (List Nat)}{o:zU}{os:List zU}:(AC.reg nb anc (o::os)).wp tab gl fs hs Qx =
  (o.q tab gl (jB fs) nb).wp hs (opK tab gl os (nb+16) fs o.dst hs [] (jO8 anc Qx)):=eR
theorem zVc {nb:Nat}{anc:Option (List Nat)}:(AC.reg nb anc []).wp tab gl fs hs Qx=jO8 anc Qx fs hs []:=eR
theorem jBj {nb:Nat}{acc:List (List Nat×List Nat)}{K:Fs->Hs->List (List Nat×List Nat)->Prop}:zD2 tab gl [] nb fs hs acc K=K fs hs acc:=eR
theorem zVa {o:zU}{r:List zU}{nb:Nat}{acc:List (List Nat×List Nat)}{K:Fs->Hs->List (List Nat×List Nat)->Prop} :
  zD2 tab gl (o::r) nb fs hs acc K=(o.q tab gl (jB fs) nb).wp hs (opK tab gl r (nb+16) fs o.dst hs acc K):=eR
theorem zR6:wT []=[]:=eR
theorem zNn {p:Nat×Ob}{r:Wr}:wT (p::r)=p.1::wT r:=eR
theorem zYg {α:Type}{t:Nat}:jB ([]:List (Nat×α)) t=none:=eR
theorem zSc {α:Type}{k t:Nat}{v:α}{r:List (Nat×α)}:jB ((k,v)::r) t=if k=t then some v else jB r t:=eR
theorem jAv {α:Type}{k:Nat}{v:α}:jS9 [] k v=[(k,v)]:=eR
theorem zUf {α:Type}{k k':Nat}{v v':α}{r:List (Nat×α)}:jS9 ((k',v')::r) k v=if k'=k then(k,v)::r else(k',v')::jS9 r k v:=eR
theorem zUh {d:Nat}{v:V}:jEg fs (some d) v=(d,v)::fs:=eR
theorem zUg {v:V}:jEg fs none v=fs:=eR
theorem jBc:zAv hs []=hs:=eR
theorem zU2 {i:Nat}{o:Ob}{r:Wr}:zAv hs ((i,o)::r)=zAv ((i,o)::hs) r:=eR
theorem jBz {α:Type}{i:Nat}:qD i ([]:List α)=[]:=eR
theorem zVo {α:Type}{i:Nat}{x:α}{r:List α}:qD i (x::r)=(i,x)::qD (i+1) r:=eR
variable {K:V×Wr->List Nat->Prop}{nb:Nat}{fm:Nat->Option V}
theorem jHi {d:Option Nat}{k:AK}{xs:List qHb}:((⟨d,k,xs,none⟩:zU).q tab gl fm nb).wp hs K=zGs hs (qB1 gl fm xs) (λvs=>k.q tab nb vs) K:=by
 simp only[zU.q,qG3,Q.wp_of_bind,qYl,if_true,zU.go]
def qTt (g:Option Bool)(A B:Prop):Prop:=
 match g with
 |some true=>A
 |some false=>B
 |none=>False
@[congr] theorem jC7 {g g':Option Bool}{A B:Prop}(h:g=g'):qTt g A B=qTt g' A B:=by rw[h]
theorem zH6 {A B:Prop}:qTt (some true) A B=A:=eR
theorem zEt {A B:Prop}:qTt (some false) A B=B:=eR
theorem vO {b:Bool}{A B:Prop}:qTt (some b) A B=((b=true->A)/\(b=false->B)):=by
 cases b<;>simp[qTt]
theorem jHh {d:Option Nat}{k:AK}{xs:List qHb}{t:Nat}{b:Bool}:((⟨d,k,xs,some (t,b)⟩:zU).q tab gl fm nb).wp hs K =
  qTt (qG3 fm (some (t,b))) (zGs hs (qB1 gl fm xs) (λvs=>k.q tab nb vs) K) (K (.tup [],[]) []):=by
 simp only[zU.q,Q.wp_of_bind];cases h:qG3 fm (some (t,b)) with
 |none=>rfl
 |some g=>cases g<;>simp[qTt,qYl,zU.go,Q.wp_of_bind,Q.wp_ret]
theorem zEs {t:Nat}{b:Bool}:qG3 fm (some (t,b))=match fm t with
  |some (.t (.bool c))=>some (c==b)
  |some (.tup [])=>some false
  |_=>none:=eR
theorem jBh:qB1 gl fm []=some []:=eR
theorem jBi {t:Nat}{r:List qHb}:qB1 gl fm (.tmp t::r)=(fm t).bind λv=>(qB1 gl fm r).map (v :: ·):=eR
theorem jBg {v:V}{r:List qHb}:qB1 gl fm (.cst v::r)=(qB1 gl fm r).map (v :: ·):=eR
theorem zU8 {g:Nat}{r:List qHb}:qB1 gl fm (.glob g::r)=((gl g).map V.ro).bind λv=>(qB1 gl fm r).map (v :: ·):=eR
theorem jJi {t:Nat}:(qHb.tmp t).val gl fm=fm t:=eR
theorem jJh {v:V}:(qHb.cst v).val gl fm=some v:=eR
theorem jV4 {ao:AO}{vs:List V}:(AK.op ao).q tab nb vs=sem ao vs nb:=eR
theorem jGl {f:FuncId}{keep:Bool}{vs:List V}:(AK.call f keep).q tab nb vs=qYq tab f keep vs nb:=eR
theorem zYc {f:FuncId}{keep:Bool}{caps rest:List V}:(AK.callv keep).q tab nb (.fn f caps::rest)=qYq tab f keep (rest++caps) nb:=eR
theorem zYa {g id i f:Nat}{keep:Bool}{rest:List V}:(AK.callv keep).q tab nb (.bd g id i f::rest)=qYq tab g keep (.ref id i f::rest) nb:=eR
attribute [go_sem] zYa
theorem zYb {f:FuncId}{vs:List V}:(AK.calll f).q tab nb vs=zAb tab f vs nb:=eR
attribute [go_sem ↓] zYb
theorem qF1 {α β γ:Type}{q:Q α}{f:α->Q β}{g:β->Q γ}:(q.bind f).bind g=q.bind λx=>(f x).bind g:=by
 induction q with
 |ret a=>rfl
 |fail=>rfl
 |get id k ih=>simp only[Q.bind,ih]
 |free id k ih=>simp only[Q.bind,ih]
theorem zJw {α γ:Type}{x:γ}{f:γ->Q α}{K:α->List Nat->Prop}:((Q.ret x).bind f).wp hs K=(f x).wp hs K:=eR
theorem zGv {α γ:Type}{f:γ->Q α}{K:α->List Nat->Prop}:((Q.fail).bind f).wp hs K=False:=Q.wp_fail
theorem zGt {α β γ:Type}{q:Q α}{f:α->Q β}{g:β->Q γ}{K:γ->List Nat->Prop}:((q.bind f).bind g).wp hs K=(q.bind λx=>(f x).bind g).wp hs K:=by rw[qF1]
theorem zJv {α γ:Type}{id:Nat}{k:Ob->Q γ}{f:γ->Q α}{K:α->List Nat->Prop}:((Q.get id k).bind f).wp hs K=zO7 hs (jB hs id) id (λo=>(k o).bind f) K:=Q.wp_get
theorem zGw {α γ:Type}{id:Nat}{k:Q γ}{f:γ->Q α}{K:α->List Nat->Prop}:((Q.free id k).bind f).wp hs K=zAw hs (jB hs id) id (k.bind f) K:=Q.wp_free
theorem qZ2 {α γ:Type}{b:Prop}[Decidable b]{q:Q γ}{f:γ->Q α}{K:α->List Nat->Prop}:((Q.assert b q).bind f).wp hs K=(b/\(q.bind f).wp hs K):=by
 rw[<-Q.wp_assert];unfold Q.assert;split<;>rfl
def wpA (b P:Prop):Prop:=b/\P
@[congr] theorem jR1 {b b' P:Prop}(h:b=b'):wpA b P=wpA b' P:=by rw[h]
theorem jBm {P:Prop}:wpA True P=P:=by simp[wpA]
theorem jX8 {b P:Prop}(h:b):wpA b P=P:=by simp[wpA,h]
theorem jJw {a b P:Prop}:wpA (a/\b) P=wpA a (wpA b P):=by simp[wpA,and_assoc]
theorem zPa {α:Type}{b:Prop}[Decidable b]{q:Q α}{K:α->List Nat->Prop}:(Q.assert b q).wp hs K=wpA b (q.wp hs K):=Q.wp_assert
theorem qYm {α γ:Type}{b:Prop}[Decidable b]{q:Q γ}{f:γ->Q α}{K:α->List Nat->Prop}:((Q.assert b q).bind f).wp hs K=wpA b ((q.bind f).wp hs K):=qZ2
theorem zVh {α γ:Type}{b:Prop}[Decidable b]{o:Option γ}{f:γ->Q α}{K:α->List Nat->Prop}:zGs hs (if b then o else none) f K=wpA b (zGs hs o f K):=jBn
theorem zO9 {α γ:Type}{b:Prop}[Decidable b]{o:Option γ}{f:γ->Q α}{K:α->List Nat->Prop}:zGs hs (if b then none else o) f K=wpA (¬ b) (zGs hs o f K):=zVg
theorem kC {b:Bool}{A B:Prop}:qJw (some (.t (.bool b))) A B=((b=true->A)/\(b=false->B)):=eR
theorem qU5 {α γ:Type}{x:γ}{f:γ->Q α}:(Q.ret x).bind f=f x:=eR
theorem jIv {vs:List V}:sem .mov vs nb=zMe vs:=eR
theorem jAr {vs:List V}:sem .smov vs nb=zCo vs:=eR
theorem jAp {vs:List V}:sem .pick vs nb=qXl vs:=eR
theorem jIq {vs:List V}:sem .box vs nb=zFu nb vs:=eR
theorem zN3 {vs:List V}:sem .boxArr vs nb=qLp nb vs:=eR
theorem jIx {vs:List V}:sem .s2b vs nb=zAt nb vs:=eR
theorem jIn {vs:List V}:sem .b2s vs nb=zMa vs:=eR
theorem zN6 {vs:List V}:sem .sindex vs nb=qFg vs:=eR
theorem jIs {vs:List V}:sem .len vs nb=zFw vs:=eR
theorem jAq {vs:List V}:sem .slen vs nb=qSp vs:=eR
theorem zN1 {vs:List V}:sem .appstr vs nb=qC1 nb vs:=eR
theorem jIu {vs:List V}:sem .min vs nb=zMd vs:=eR
theorem jIt {vs:List V}:sem .max vs nb=zMc vs:=eR
theorem jIm {n:Nat}{k:IntKind}{neg:Bool}{vs:List V}:sem (.aeq n k neg) vs nb=qXi n k neg vs:=eR
theorem zN5 {vs:List V}:sem .nilchk vs nb=qLq vs:=eR
theorem jIw {z:Nat}{es vs:List V}:sem (.new z es) vs nb=zFx z es nb vs:=eR
theorem zT3 {z:List V}{pl:List (Nat×Nat)}{vs:List V}:sem (.build z pl) vs nb=qQ4 z pl vs:=eR
theorem zN4 {z len:Nat}{zero:V}{ix:List Nat}{vs:List V}:sem (.bslice z len zero ix) vs nb=qQ3 z len zero ix nb vs:=eR
theorem jAm {n:Nat}{agg:Bool}{vs:List V}:sem (.load n agg) vs nb=qSo n agg vs:=eR
theorem zUa {n:Nat}{vs:List V}:sem (.store n) vs nb=qQ8 n vs:=eR
theorem jIp {op:BinOp}{vs:List V}:sem (.bin op) vs nb=zMb op vs:=eR
theorem jIo {neg:Bool}{vs:List V}:sem (.beq neg) vs nb=zFt neg vs:=eR
theorem jPz {op:UnOp}{vs:List V}:sem (.un op) vs nb=jAh op vs:=eR
theorem jAi {k:IntKind}{vs:List V}:sem (.conv k) vs nb=qIq k vs:=eR
theorem zIq {z by_:Nat}{zero:V}{vs:List V}:sem (.mkslice z by_ zero) vs nb=jAg z by_ zero nb vs:=eR
theorem zN7 {lo hi mx:Bool}{vs:List V}:sem (.sslice lo hi mx) vs nb=qQ7 lo hi mx vs:=eR
theorem zT9 {z:Nat}{lo hi mx:Bool}{vs:List V}:sem (.slice z lo hi mx) vs nb=qVk z lo hi mx vs:=eR
theorem zN2 {n z:Nat}{lo hi mx:Bool}{vs:List V}:sem (.aslice n z lo hi mx) vs nb=qQ2 n z lo hi mx vs:=eR
theorem zT4 {off:Nat}{vs:List V}:sem (.faddr off) vs nb=qVh off vs:=eR
theorem zT5 {off n:Nat}{agg:Bool}{vs:List V}:sem (.field off n agg) vs nb=qVi off n agg vs:=eR
theorem zT6 {z:Nat}{vs:List V}:sem (.iaddr z) vs nb=qQ5 z vs:=eR
theorem zT2 {n z:Nat}{vs:List V}:sem (.aaddr n z) vs nb=qQ1 n z vs:=eR
theorem zT7 {n z:Nat}{agg:Bool}{vs:List V}:sem (.index n z agg) vs nb=qVj n z agg vs:=eR
theorem zIp {i:Nat}{vs:List V}:sem (.extract i) vs nb=qHi i vs:=eR
theorem jAl {n:Nat}{vs:List V}:sem (.lenc n) vs nb=qXk n vs:=eR
theorem zN0 {z by_:Nat}{vs:List V}:sem (.append z by_) vs nb=qHh z by_ nb vs:=eR
theorem zIo {z by_:Nat}{vs:List V}:sem (.appendt z by_) vs nb=qL6 z by_ nb vs:=eR
theorem jAn {f:FuncId}{vs:List V}:sem (.mkbd f) vs nb=zCm f vs:=eR
theorem jAk {vs:List V}:sem .idsl vs nb=zCl vs:=eR
theorem zT8 {neg:Bool}{vs:List V}:sem (.nileq neg) vs nb=qQ6 neg vs:=eR
attribute [go_sem] zT8 qQ6
attribute [go_sem] zIo jAn jAk
theorem jIr {z:Nat}{vs:List V}:sem (.clr z) vs nb=zFv z vs:=eR
attribute [go_sem] jIr zFv
theorem jAj {z:Nat}{vs:List V}:sem (.copy z) vs nb=qXj z vs:=eR
theorem jAo {f:FuncId}{vs:List V}:sem (.mkfn f) vs nb=zCn f vs:=eR
theorem jQk {k:IntKind}{n:Int}:(T.int k n).cells=[T.int k n]:=eR
theorem jI7 {b:Bool}:(T.bool b).cells=[T.bool b]:=eR
theorem jQl {s:ByteArray}:(T.str s).cells=[T.str s]:=eR
theorem jI8  : T.fnil.cells=[T.fnil]:=eR
theorem jI9  : T.pnil.cells=[T.pnil]:=eR
theorem jQj {cs:List T}:(T.agg cs).cells=cs:=eR
theorem jXg {cs:List T}:(T.sl cs).cells=[T.sl cs]:=eR
theorem jRc {k:IntKind}{n:Int}:(V.t (T.int k n)).cells=[V.t (T.int k n)]:=eR
theorem jJj {b:Bool}:(V.t (T.bool b)).cells=[V.t (T.bool b)]:=eR
theorem jRf {s:ByteArray}:(V.t (T.str s)).cells=[V.t (T.str s)]:=eR
theorem jJk  : (V.t T.fnil).cells=[V.t T.fnil]:=eR
theorem jJl  : (V.t T.pnil).cells=[V.t T.pnil]:=eR
theorem jJn {cs:List T}:(V.t (T.agg cs)).cells=cs.map V.t:=eR
theorem jRg {cs:List T}:(V.t (T.sl cs)).cells=[V.t (T.sl cs)]:=eR
theorem jRd  : V.nil.cells=[V.nil]:=eR
theorem jRe {id i f:Nat}:(V.ref id i f).cells=[V.ref id i f]:=eR
theorem jXq {g id i f:Nat}:(V.bd g id i f).cells=[V.bd g id i f]:=eR
theorem jXr:V.bq.cells=[V.bq]:=eR
attribute [go_sem] jXr
attribute [go_sem] jXq
theorem jXt {cs:List T}:(V.ro cs).cells=[V.ro cs]:=eR
theorem jXu {id i f:Nat}:(V.sl id i f).cells=[V.sl id i f]:=eR
theorem jRb {cs:List V}:(V.agg cs).cells=cs:=eR
theorem jXs {f:FuncId}{cs:List V}:(V.fn f cs).cells=[V.fn f cs]:=eR
theorem jRj {k:IntKind}{n:Int}:(V.t (T.int k n)).plain=true:=eR
theorem jJo {b:Bool}:(V.t (T.bool b)).plain=true:=eR
theorem jRm {s:ByteArray}:(V.t (T.str s)).plain=true:=eR
theorem jJq  : (V.t T.fnil).plain=true:=eR
theorem jJr  : (V.t T.pnil).plain=true:=eR
theorem jJt {cs:List T}:(V.t (T.agg cs)).plain=true:=eR
theorem jRn {cs:List T}:(V.t (T.sl cs)).plain=true:=eR
theorem jRk  : V.nil.plain=true:=eR
theorem jRl {id i f:Nat}:(V.ref id i f).plain=true:=eR
theorem jXv {g id i f:Nat}:(V.bd g id i f).plain=true:=eR
theorem jXw:V.bq.plain=true:=eR
attribute [go_sem] jXw
attribute [go_sem] jXv
theorem jXy {cs:List T}:(V.ro cs).plain=true:=eR
theorem jXz {id i f:Nat}:(V.sl id i f).plain=true:=eR
theorem jRi {cs:List V}:(V.agg cs).plain=true:=eR
theorem jXx {f:FuncId}{cs:List V}:(V.fn f cs).plain=true:=eR
theorem jK0 {op:BinOp}{k k':IntKind}{x y:Int}:qJu op (.int k x) (.int k' y)=qLz op k x k' y:=eR
theorem jFf {x y:ByteArray}:qJu .add (.str x) (.str y)=if x.size+y.size<=maxLen then some (.str (x++y)) else none:=eR
theorem jK1 {x y:ByteArray}:qJu .eql (.str x) (.str y)=some (.bool (x.toList==y.toList)):=eR
theorem jK2 {x y:ByteArray}:qJu .neq (.str x) (.str y)=some (.bool !(x.toList==y.toList)):=eR
theorem jQr {b:Bool}:unT .not (.bool b)=some (.bool !b):=eR
theorem jQq {k:IntKind}{n:Int}:unT .neg (.int k n)=some (.int k (k.wrap (0-n))):=eR
theorem jMl {k:IntKind}{n:Int}:vY (.t (.int k n))=some n:=eR
theorem jPy {k k':IntKind}{n:Int}:qIq k [.t (.int k' n)]=.ret (.t (.int k (k.wrap n)),[]):=eR
attribute [go_sem] jQk jI7 jQl jI8 jI9 jQj jXg jRc jJj jRf jJk jJl jJn jRg jRd jRe jXt jXu jRb jXs jRj jJo jRm jJq jJr jJt jRn jRk jRl jXy jXz jRi jXx jK0 jFf jK1 jK2 jQr jQq jMl jPy
attribute [go_sem ↓] jRw jX6 jRu jX7 jJu jRv jRt jJv jX5 zVc zIr zUc jAs zBb zMz zHi zTe zTf jHi jHh jV4 jGl zYc
 jG3 zYf zWa zP6 Q.wp_of_bind Q.wp_ret Q.wp_fail Q.wp_get Q.wp_free zPa zJw zGv zGt zJv zGw qYm
attribute [go_sem] zWs jFi
attribute [go_sem] jBm jJw jBj zVa jBh jBi jBg zU8 jJi jJh zYg zSc jAv zUf zUh zUg jBc zU2 jBz zVo zR6 zNn
 qYl zVi zVh zO9 zJu zO8 zJt zGr Q.wp_ite zM4 zHo zH6 zEt zEs
attribute [go_sem] Option.bind_some Option.map_some Option.bind_none Option.map_none true_and and_true nil_append cons_append append_nil
attribute [go_sem] jIm qXi jIv jAr jAp jIq zN3 jIx jIn zN6 jIs jAq zN1 jIu jIt zN5 jIw zT3 zN4 jAm zUa jIp jIo jPz jAi zIq zN7 zT9 zN2 zT4 zT5 zT6 zT2 zT7 zIp jAl zN0 jAj jAo
attribute [go_sem] zMe zCo qXl zFx zFu qLp qQ4 qQ3 qSo qQ8 zMb zFt jAh zAt zMa jAg qQ7 qVk qQ2 qVh qVi qQ5 qQ1 qVj qFg qHi qSp zFw qXk qHh qC1 qXj zMd zMc zCn zCm zCl qL6 qLq
 qLz qUb qDs qRt qZ rsQ
end Go.Eng
end
section
namespace Go.Eng
open List
mutual
def V.ids:V->List Nat
 |.ref id _ _=>[id]
 |.bd _ id _ _=>[id]
 |.sl id _ _=>[id]
 |.agg cs=>qPh cs
 |.tup cs=>qPh cs
 |.fn _ cs=>qPh cs
 |_=>[]
def qPh:List V->List Nat
 |[]=>[]
 |c::r=>c.ids++qPh r
end
theorem kU:∀{cs:List V}{c:V}{r:Nat},c∈cs->r∈c.ids->r∈qPh cs
 |x::cs,c,r,hc,hr=>by
  simp only[qPh,mem_append];simp only[mem_cons]at hc;rcases hc with rfl|hc
  .exact .inl hr
  .exact .inr (kU hc hr)
theorem jDa (ts:List T):qPh (ts.map .t)=[]:=by
 induction ts with
 |nil=>rfl
 |cons x r ih=>simp[qPh,V.ids,ih]
theorem qR.sub {β β':Nat->Option BI}{F:Nat->Prop}{w:World}{v:V}{x:Value}(h:qR β F w v x):(∀i∈v.ids,∀bi,β i=some bi->β' i=some bi)->qR β' F w v x:=by
 induction h with
 |t h=>intro _;exact .t h
 |nil=>intro _;exact .nil
 |ref id i f b sz room hb=>intro hs;exact .ref id i f b sz room (hs id (by simp[V.ids]) _ hb)
 |bd g id i f b sz room hb=>intro hs;exact .bd g id i f b sz room (hs id (by simp[V.ids]) _ hb)
 |bq b=>intro _;exact .bq b
 |ro cs a news ha hn h1 hF hw h=>intro _;exact .ro cs a news ha hn h1 hF hw h
 |sl id off len cap b sz room a hb hlc hr ha hs=>intro hsub;exact .sl id off len cap b sz room a (hsub id (by simp[V.ids]) _ hb) hlc hr ha hs
 |slv id sz room hb=>intro hsub;exact .slv id sz room (hsub id (by simp[V.ids]) _ hb)
 |agg cs vs hl h1 _ ih=>intro hs;exact .agg cs vs hl h1 (λi c u hc hu=>ih i c u hc hu (λk hk=>hs k (by simp only[V.ids];exact kU (mem_of_getElem? hc) hk)))
 |tup cs vs hl _ ih=>intro hs;exact .tup cs vs hl (λi c u hc hu=>ih i c u hc hu (λk hk=>hs k (by simp only[V.ids];exact kU (mem_of_getElem? hc) hk)))
 |fn f cs vs hl _ ih=>intro hs;exact .fn f cs vs hl (λi c u hc hu=>ih i c u hc hu (λk hk=>hs k (by simp only[V.ids];exact kU (mem_of_getElem? hc) hk)))
def Cv (hs:Hs)(ρ:Nat->Nat)(vt ks:List Nat)(v v':V):Prop:=
 ((v=v'.ren ρ\/∃l,(zN 4 v).run (jB hs)=some ((v'.ren ρ,[]),l))/\∀i∈v'.ids,i∈ks)\/(v=.nil/\∃id,id∈vt/\v'=.sl id 0 0)
def CvO (hs:Hs)(ρ:Nat->Nat)(ks:List Nat):Ob->Ob->Prop
 |.live z es wr full,.live z' es' wr' full'=>z=z'/\wr=wr'/\(full'=true->full=true)/\(es=qFn ρ es'\/∃l,(qE3 es).run (jB hs)=some ((qFn ρ es',[]),l))/\∀i∈qPh es',i∈ks
 |_,.dead=>True
 |_,_=>False
def qZ5 (fs:Fs)(hs:Hs)(ρ:Nat->Nat)(vt ks:List Nat):Fs->Prop
 |[]=>True
 |(t,v')::r=>(∃v,jB fs t=some v/\Cv hs ρ vt ks v v')/\qZ5 fs hs ρ vt ks r
def jJ2 (hs:Hs)(ρ:Nat->Nat)(ks:List Nat):Hs->Prop
 |[]=>True
 |(i,o')::r=>((∃o,jB hs (ρ i)=some o/\CvO hs ρ ks o o')/\(i<100->ρ i=i)/\(100<=i->100<=ρ i))/\jJ2 hs ρ ks r
def VtW:Hs->Prop
 |[]=>True
 |(i,o')::r=>((∃z full,o'=.live z [] true full)/\100<=i)/\VtW r
theorem qZ5.get {fs:Fs}{hs:Hs}{ρ:Nat->Nat}{vt ks:List Nat}:∀{fs':Fs},qZ5 fs hs ρ vt ks fs'->∀t v',jB fs' t=some v'->∃v,jB fs t=some v/\Cv hs ρ vt ks v v'
 |[],_,t,v',h=>by cases h
 |(k,u)::r,hw,t,v',h=>by
  simp only[jB]at h;split at h
  .cases h;subst_vars;exact hw.1
  .exact qZ5.get hw.2 t v' h
theorem jJ2.get {hs:Hs}{ρ:Nat->Nat}{ks:List Nat}:∀{hs':Hs},jJ2 hs ρ ks hs'->∀i o',jB hs' i=some o'->(∃o,jB hs (ρ i)=some o/\CvO hs ρ ks o o')/\(i<100->ρ i=i)/\(100<=i->100<=ρ i)
 |[],_,t,v',h=>by cases h
 |(k,u)::r,hw,t,v',h=>by
  simp only[jB]at h;split at h
  .cases h;subst_vars;exact hw.1
  .exact jJ2.get hw.2 t v' h
theorem VtW.get:∀{hs':Hs},VtW hs'->∀i o',jB hs' i=some o'->(∃z full,o'=.live z [] true full)/\100<=i
 |[],_,t,v',h=>by cases h
 |(k,u)::r,hw,t,v',h=>by
  simp only[jB]at h;split at h
  .cases h;subst_vars;exact hw.1
  .exact VtW.get hw.2 t v' h
def Ob.z:Ob->Nat
 |.live z _ _ _=>z
 |.dead=>0
theorem qHe {α:Type}:∀{l:List (Nat×α)}{i:Nat},i∈l.map (·.1)->∃o,jB l i=some o
 |(k,u)::r,i,h=>by
  simp only[jB];split
  .exact⟨_,rfl⟩
  .rename_i hne;simp only[map_cons,mem_cons]at h;rcases h with h|h
   .exact absurd h.symm hne
   .exact qHe h
theorem qBt {α:Type}:∀{l:List (Nat×α)}{i:Nat}{o:α},jB l i=some o->i∈l.map (·.1)
 |(k,u)::r,i,o,h=>by
  simp only[jB]at h;split at h
  .subst_vars;simp
  .simp[qBt h]
theorem qQu {α:Type}:∀{l r:List (Nat×α)}{i:Nat},jB (l++r) i=match jB l i with|some o=>some o|none=>jB r i
 |[],r,i=>rfl
 |(k,u)::l,r,i=>by
  simp only[cons_append,jB];split
  .rfl
  .exact qQu
theorem zB1 {β:Nat->Option BI}{F:Nat->Prop}:qT1 β F []=F:=by
 funext b;apply propext;constructor
 .intro h;rcases h with h|⟨i,hi,_⟩
  .exact h
  .simp at hi
 .exact .inl
variable {cx:Cx}{β:Nat->Option BI}{F:Nat->Prop}{a:Act}{w:World}
theorem zNk {fm:Nat->Option V}{hm:Nat->Option Ob}(R:Rel cx β F fm hm a w){es es':List V}{l:List Nat}(h:(qE3 es).run hm=some ((es',[]),l)){sz:Nat}{c:Array Value}(hh:vB β F w es sz c):es'.length=es.length/\vB β F w es' sz c:=by
 unfold qE3 at h;split at h
 .obtain⟨e,_⟩:=qE h;cases e;exact⟨rfl,hh⟩
 .obtain⟨g1,g2⟩:=vF h;refine⟨g1,λi x hx=>?_⟩;have hi:i<es.length:=by rw[<-g1];exact(List.getElem?_eq_some_iff.1 hx).1
  obtain⟨fzi,li,m1,m2⟩:=g2 i es[i] x (by simp[hi]) hx;obtain⟨k1,k2⟩:=hh i es[i] (by simp[hi]);by_cases hz:es[i].cells=[]
  ·
   have:x.cells=[]:=by
    cases hx0:es[i] with
    |t y=>
     rw[hx0]at m1 hz;obtain⟨e,_⟩:=qE (x:=(V.t y,([]:List Nat))) m1;cases e;exact hz
    |agg cs=>
     rw[hx0]at m1 hz;simp only[zN]at m1;obtain⟨p,l1,l2,hp,m1,_⟩:=qS m1;obtain⟨e,_⟩:=qE m1;cases e;have hcs:cs=[]:=hz;subst hcs;have:=(vF hp).1;rw[qVc];exact eq_nil_of_length_eq_zero this
    |_=>rw[hx0]at hz;simp[V.cells]at hz
   rw[this];rw[hz]at k1;exact⟨k1,by intro j y hy;simp at hy⟩
  .obtain⟨q1,q2⟩:=zEc R m1 (fz':=[]) m2 hz (λj y hy=>let ⟨u,_,b,d⟩:=k2 j y hy;⟨u,b,d⟩);refine⟨q1.trans k1,λj y' hy'=>?_⟩;have hj:j<es[i].cells.length:=by rw[<-q1];exact(List.getElem?_eq_some_iff.1 hy').1
   obtain⟨u,hu,hr,ho⟩:=k2 j (es[i].cells[j]'hj) (by simp[hj]);obtain⟨s1,_,_⟩:=q2 j (es[i].cells[j]'hj) y' u (by simp[hj]) hy' hr ho;rw[zB1]at s1;exact⟨u,hu,s1,ho⟩
theorem qL.of {fs fs':Fs}{hs hv ho:Hs}(ρ:Nat->Nat)(h1:qZ5 fs hs ρ (hv.map (·.1)) (ho.map (·.1)) fs')(h2:jJ2 hs ρ (ho.map (·.1)) ho)(h3:VtW hv)(hdis:∀i∈hv.map (·.1),i ∉ ho.map (·.1))
  (hinj:((ho.map (·.1)).map ρ).Nodup) (hkeep:∀k∈hs.map (·.1),k<100->k∈ho.map (·.1)):qL fs hs fs' (hv++ho):=by
 intro cx β F a w R
 let β':Nat->Option BI:=λi=>match jB hv i with
  |some o=>some ⟨none,o.z,0⟩
  |none=>match jB ho i with
   |some _=>β (ρ i)
   |none=>none
 have bv:∀i o,jB hv i=some o->β' i=some ⟨none,o.z,0⟩:=λi o h=>by simp[β',h]
 have hvo:∀i,i∈ho.map (·.1)->jB hv i=none:=by
  intro i hi;cases h:jB hv i with
  |none=>rfl
  |some o=>exact absurd hi (hdis i (qBt h))
 have bo:∀i,i∈ho.map (·.1)->β' i=β (ρ i):=by
  intro i hi;obtain⟨o,h⟩:=qHe hi;simp[β',hvo i hi,h]
 have inj:∀i j,i∈ho.map (·.1)->j∈ho.map (·.1)->ρ i=ρ j->i=j:=by
  intro i j hi hj e;obtain⟨m,hm⟩:=getElem?_of_mem hi;obtain⟨n,hn⟩:=getElem?_of_mem hj;have hml:m<(ho.map (·.1)).length:=(List.getElem?_eq_some_iff.1 hm).1;have hnl:n<(ho.map (·.1)).length:=(List.getElem?_eq_some_iff.1 hn).1;have:=qAi hinj (i:=m) (j:=n) (by simpa using hml) (by simpa using hnl) (by
   have a1:(ho.map (·.1))[m]=i:=by rw[getElem?_eq_getElem hml]at hm;exact Option.some.inj hm
   have a2:(ho.map (·.1))[n]=j:=by rw[getElem?_eq_getElem hnl]at hn;exact Option.some.inj hn
   simp only[getElem_map]at a1 a2⊢;rw[a1,a2];exact e)
  subst this;rw[hm]at hn;exact Option.some.inj hn
 have val:∀{v v':V}{x:Value},qR β F w v x->Cv hs ρ (hv.map (·.1)) (ho.map (·.1)) v v'->qR β' F w v' x:=by
  intro v v' x hx hc;rcases hc with⟨hc,hids⟩|⟨rfl,id,hid,rfl⟩
  .have h0:qR β F w (v'.ren ρ) x:=by
    rcases hc with hc|⟨l,hc⟩
    .rw[<-hc];exact hx
    .have:=wG R hc hx (fz':=[]) sM;rw[zB1]at this;exact this
   have h1:=h0.unren (ρ:=ρ) rfl;exact h1.sub (λi hi bi hb=>by rw[bo i (hids i hi)];exact hb)
  .obtain⟨o,ho'⟩:=qHe hid;cases hx;exact .slv id _ _ (bv id o ho')
 have ob:∀{bi:BI}{o o':Ob},qG9 β F w bi o->CvO hs ρ (ho.map (·.1)) o o'->qG9 β' F w bi o':=by
  intro bi o o' hok hc;cases o' with
  |dead=>trivial
  |live z' es' wr' full'=>
   cases o with
   |dead=>exact hc.elim
   |live z es wr full=>
    obtain⟨rfl,rfl,hfull,hes,hids⟩:=hc;have hren:∀{c:Array Value}{sz:Nat},vB β F w (qFn ρ es') sz c->vB β' F w es' sz c:=by
     intro c sz hh;have h1:=hh.unren;intro i x hx;obtain⟨k1,k2⟩:=h1 i x hx;refine⟨k1,λj y hy=>?_⟩;obtain⟨u,g1,g2,g3⟩:=k2 j y hy;refine⟨u,g1,g2.sub (λr hr bi hb=>?_),g3⟩;have hrx:r∈x.ids:=by
      cases x with
      |agg cs=>simp only[V.ids];exact kU (mem_of_getElem? hy) hr
      |t t=>
       obtain⟨c,_,rfl⟩:=qA0 hy;simp[V.ids]at hr
      |_=>
       simp only[V.cells]at hy;cases j with
       |zero=>simp at hy;subst hy;exact hr
       |succ j=>simp at hy
     rw[bo r (hids r (kU (mem_of_getElem? hx) hrx))];exact hb
    unfold qG9 at hok⊢;obtain⟨g1,g2,g3⟩:=hok;have hlen:es'.length=es.length/\∀{c:Array Value},vB β F w es bi.sz c->vB β' F w es' bi.sz c:=by
     rcases hes with rfl|⟨l,hes⟩
     .exact⟨by rw[zJ];simp,λhh=>hren hh⟩
     .refine⟨?_,λhh=>hren (zNk R hes hh).2⟩;have:(qFn ρ es').length=es.length:=by
       unfold qE3 at hes;split at hes
       .obtain⟨e,_⟩:=qE hes;simp only[Prod.mk.injEq]at e;rw[e.1]
       .exact(vF hes).1
      rw[zJ,length_map]at this;exact this
    refine⟨g1,λh=>by rw[hlen.1];exact g2 (hfull h),?_⟩;cases hb:bi.blk with
    |none=>
     simp only[hb]at g3⊢;refine⟨?_,g3.2⟩;have:=hlen.1;rw[g3.1]at this;exact eq_nil_of_length_eq_zero this
    |some b=>
     simp only[hb]at g3⊢;obtain⟨c,e,fz,k1,k2,k3,k4,k5,k6,k7⟩:=g3;exact⟨c,e,fz,k1,k2,k3,by rw[hlen.1];exact k4,k5,hlen.2 k6,k7⟩
 have cases_:∀id o',jB (hv++ho) id=some o'->(∃z full,o'=.live z [] true full/\β' id=some ⟨none,z,0⟩/\100<=id)\/(id∈ho.map (·.1)/\∃o,jB hs (ρ id)=some o/\CvO hs ρ (ho.map (·.1)) o o'/\(id<100->ρ id=id)/\(100<=id->100<=ρ id)):=by
  intro id o' h;rw[qQu]at h;split at h
  .rename_i o hvl;cases h;obtain⟨⟨z,full,rfl⟩,h100⟩:=h3.get id o' hvl;exact .inl ⟨z,full,rfl,bv id _ hvl,h100⟩
  .obtain⟨⟨o,g1,g2⟩,g3,g4⟩:=h2.get id o' h;exact .inr ⟨qBt h,o,g1,g2,g3,g4⟩
 have notdead:∀{o o':Ob},CvO hs ρ (ho.map (·.1)) o o'->o'≠ .dead->o≠ .dead:=by
  intro o o' hc hd hd';subst hd';cases o' with
  |dead=>exact hd rfl
  |live _ _ _ _=>exact hc
 refine⟨β',F,R.tsz,R.dfr,λt v' hv'=>?_,λid o' ho'=>?_,λid hn=>?_,λi j bi bj b oi oj e1 e2 e3 e4 e5 e6 e7 e8=>?_,R.os,R.tape,R.output,R.size,R.ext,λid z es full bi b e1 e2 e3=>?_,R.inF,R.inw,R.Fw,R.F0,λid bi b e1 e2=>?_,λg cs hg=>?_,λk bi hk=>?_,R.gs⟩
 .obtain⟨v,g1,g2⟩:=h1.get t v' hv';obtain⟨x,g3,g4⟩:=R.fr t v g1;exact⟨x,g3,val g4 g2⟩
 .rcases cases_ id o' ho' with⟨z,full,rfl,hb,_⟩|⟨hm,o,g1,g2,_⟩
  .exact⟨_,hb,rfl,λ_=>rfl,rfl,rfl⟩
  .obtain⟨bi,g3,g4⟩:=R.hp _ o g1;exact⟨bi,by rw[bo id hm];exact g3,ob g4 g2⟩
 .rw[qQu]at hn;split at hn
  .cases hn
  .rename_i hv0;simp[β',hv0,hn]
 .rcases cases_ i oi e5 with⟨z,full,rfl,hb,_⟩|⟨hm,o,g1,g2,_⟩
  .rw[hb]at e1;cases e1;cases e3
  .rcases cases_ j oj e6 with⟨z,full,rfl,hb,_⟩|⟨hm',o',g1',g2',_⟩
   .rw[hb]at e2;cases e2;cases e4
   .rw[bo i hm]at e1;rw[bo j hm']at e2;exact inj i j hm hm' (R.inj _ _ bi bj b o o' e1 e2 e3 e4 g1 g1' (notdead g2 e7) (notdead g2' e8))
 .rcases cases_ id _ e1 with⟨z',full',_,hb,_⟩|⟨hm,o,g1,g2,g3,g4⟩
  .rw[hb]at e2;cases e2;cases e3
  .rw[bo id hm]at e2;cases o with
   |dead=>exact g2.elim
   |live z0 es0 wr0 full0=>
    obtain⟨_,rfl,_⟩:=g2;rcases R.old _ z0 es0 full0 bi b g1 e2 e3 with h|⟨h,h'⟩
    .exact .inl h
    .refine .inr ⟨?_,h'⟩;rcases Nat.lt_or_ge id 100 with h7|h7
     .exact h7
     .have:=g4 h7;omega
 .cases hl:jB hv id with
  |some o=>rw[bv id o hl]at e1;cases e1;cases e2
  |none=>
   cases hl2:jB ho id with
   |none=>simp[β',hl,hl2]at e1
   |some o=>
    rw[bo id (qBt hl2)]at e1;exact R.blt _ bi b e1 e2
 .have:=R.gl g cs hg;cases this with
  |ro _ ad news ha hn h1' hF hw h=>exact .ro cs _ news ha hn h1' hF hw h
 .have hβ:=R.ext0 k bi hk;cases hl:jB hs k with
  |none=>rw[R.dom k hl]at hβ;cases hβ
  |some o=>
   have hk100:=cx.d0 k bi hk;have hm:=hkeep k (qBt hl) hk100;rw[bo k hm];obtain⟨o',ho'⟩:=qHe hm;rw[(h2.get k o' ho').2.1 hk100];exact hβ
end Go.Eng
end
