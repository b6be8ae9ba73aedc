/- A part of an abstract machine, its walks, their tie. -/
import Derived.Test.YteglhhgmfnbalaaGreatDoorK28
set_option linter.all false
section
set_option maxHeartbeats 64000000
set_option maxRecDepth 20000
namespace Go.Eng
open List
variable (tab:Tab)(gl:Gl)
variable {vv:V}{oo:List Ob}
def zKo (n:Nat):Ct where
 α:=List Ix×Int
 aS x:=[.sl 0 0 x.1.length,.fn n [.ref 1 0 0]]
 ins x:=[lOb x.1,nOb x.2]
 pre x:=x.1=[]\/∃y:Ix,x.1=[y]/\y.n=x.2
 r _:= .sl 0 0 0
 outs x:=[lOb [],nOb x.2]
 inj:=by
  rintro⟨a,b⟩ ⟨c,d⟩ h h2;simp only[List.cons.injEq,and_true]at h h2;obtain rfl:=zR8 h2.1;obtain rfl:=qWv h2.2;exact⟨rfl,rfl⟩
theorem jCq {n:Nat}{l:List Ix}{m:Int}(h:l=[]\/∃y:Ix,l=[y]/\y.n=m):(zKo n).fs [.sl 0 0 l.length,.fn n [.ref 1 0 0]] [lOb l,nOb m]=some (.sl 0 0 0,[lOb [],nOb m]):=(zKo n).eq (l,m) h
theorem qLu (a n:Nat)(h1:tab.look 260=some (zKs a n).fs)(l:List Ix)(m:Int)(h:l=[]\/∃y:Ix,l=[y]/\y.n=m):zH.1.wp tab gl (qD 0 [.sl 0 0 l.length,.fn n [.ref 1 0 0]]) (qD 0 [lOb l,nOb m]) (xO [] [(4,none)] 2 (λr o=>r=.sl 0 0 0/\o=[lOb [],nOb m])):=by
 rcases h with rfl|⟨y,rfl,hy⟩
 .have e:=@zR0 a n [] m (Nat.zero_le _);simp only[lOb,nOb,map_nil,length_nil,fnI]at e;simp(disch:=omega)only[go_sem,zH,lOb,nOb,map_nil,length_nil,h1,e];repeat refine aiG ?_
  all_goals rfl
 .have e:=@zR0 a n [y] m (Nat.le_refl _);simp only[lOb,nOb,mcn,length_cons,length_nil,fnI,if_pos hy,ixA]at e;simp(disch:=omega)only[go_sem,zH,lOb,nOb,mcn,length_cons,length_nil,h1,e,ixA];refine jZ (σ:=Unit) (λ_=>True) (λ_=>0) (λ_=>[(0,.sl 0 0 1),(1,.fn n [.ref 1 0 0]),(5,.t (.int .i64 0)),(6,.t (.int .i64 1))]) (λ_=>[(0,.live 8 [.t (ixA y)] true false),(1,.live 1 [.t (.int .i64 m)] true true)]) () trivial (qL.rd id ?_ ?_ rfl) ?_
  .simp(disch:=omega)only[go_sem,id]
  .simp(disch:=omega)only[go_sem,id,ixA]
  rintro⟨⟩ -;simp(disch:=omega)only[go_sem,ixA];repeat refine aiG ?_
  all_goals rfl
def dfS (s:St):St := { s with a := { s.a with ix:=[ctI 0] } }
def icS (s:St):St := { s with a := { s.a with mc:=s.a.mc+1,ix:=[ctI (s.a.mc+1)] } }
def ixO (l:List Ix):Prop:=l=[]\/∃y,l=[y]/\y.n=1
def dfR (s:St):St×Rs:=if s.a.ix.length=0 then(dfS s,⟨0,[],[],[]⟩) else(s,⟨21,[],[],[]⟩)
def qH7:ECt where
 α:=St×Rq
 β:=St×Rs
 aS:=λ(s,q)=>[.t (stA s),.t (rqA q)]
 pre:=λ(s,q)=>q=qC .df/\ixO s.a.ix
 r:=λ(t,r)=>.tup [.t (stA t),.t (rsA r)]
 R:=λ(s,q)(t,r)=>(t,r)=dfR s
theorem jNp {g:EF qH7}{s:St}{q:Rq}(hp:q=qC .df/\ixO s.a.ix):∃(t:St)(r:Rs),((t,r)=dfR s)/\qH7.fs g [.t (stA s),.t (rqA q)] []=some (.tup [.t (stA t),.t (rsA r)],[]):=by
 obtain⟨y,h1,h2⟩:=qH7.eq g (s,q) hp;exact⟨y.1,y.2,h1,h2⟩
theorem jNo {s:St}{q:Rq}(t:St)(r:Rs)(hR:(t,r)=dfR s)(hV:vv=.tup [.t (stA t),.t (rsA r)])(hO:oo=[]):qH7.K (s,q) vv oo:=⟨(t,r),hR,hV,hO⟩
theorem qX3 {g1}(h1:LkE tab 209 qJ9 g1){g2}(h2:LkE tab 114 qE8 g2)(h4:tab.look 210=some (zKj 211).fs)(h5:tab.look 212=some zEe.fs)(s:St)(q:Rq)(hp:q=qC .df/\ixO s.a.ix) :
  qAm.1.wp tab gl (qD 0 [.t (stA s),.t (rqA q)]) (qD 0 []) (qZ [(4,(some (30,true))),(5,(some (4,true)))] 0 (qH7.K (s,q))):=by
 obtain⟨rfl,hix⟩:=hp;obtain⟨x,e,⟨rfl,rfl⟩,e1⟩:=jMh (g:=g1) (n:=1) (k:=2) (t:=48) (z:=8) (au:=[]) (po:=[]) ⟨rfl,rfl,rfl,rfl,rfl,rfl⟩;rcases hix with hix|⟨y,hix,hy⟩
 .have e4:=@jCg 211 [] (ctI 0) (Nat.zero_le _);rw[show decide (0<=fnI [] (ctI 0).n)=false from rfl,map_nil]at e4;have e5:=jCi;have hK:∀vv,vv=.tup [.t (stA (dfS s)),.t (rsA ⟨0,[],[],[]⟩)]->qH7.K (s,qC .df) vv []:=λvv h=>jNo (dfS s) ⟨0,[],[],[]⟩ (by rw[dfR,hix];rfl) h rfl
  have hz:qZ3 8 [ixA (ctI 0)]=true:=yDk (l:=[ctI 0]);simp only[dfS,stA,rsA,iT,mcn]at hK;simp only[map_nil]at e1;simp only[ixA]at e1 e4 hz hK;generalize ctI 0=X at *;simp(maxSteps:=9^9)(disch:=try exact dS)only[go_sem,qAm,stA,rqA,qC,azA,iT,hix,mcn,qG,h1,e1,h4,e4,h5,e5,hz];repeat refine aiG ?_
  exact hK _ rfl
 .have e4:=@jCg 211 [y] (ctI 0) (Nat.le_refl _);rw[show decide (0<=fnI [y] (ctI 0).n)=true by rw[fnI,if_pos (by rw[hy];rfl)];rfl]at e4;obtain⟨t2,r2,⟨rfl,rfl⟩,e2⟩:=qMv (g:=g2) (s:=s) (e:=21);have hK:∀vv,vv=.tup [.t (stA t2),.t (rsA ⟨21,[],[],[]⟩)]->qH7.K (t2,qC .df) vv []:=λvv h=>jNo t2 ⟨21,[],[],[]⟩ (by rw[dfR,hix];rfl) h rfl
  simp only[stA,rsA,iT,hix,mcn]at hK e2;simp only[map_nil]at e1;simp only[ixA,mcn]at e1 e4 e2 hK;generalize ctI 0=X at *;simp(maxSteps:=9^9)(disch:=try exact dS)only[go_sem,qAm,stA,rqA,qC,azA,iT,ixA,hix,mcn,qG,h1,e1,h2,e2,h4,e4];repeat refine aiG ?_
  exact hK _ rfl
def udS (s:St):St := { s with a := { s.a with ix:=[] } }
def udR (s:St):St×Rs:=if s.a.ix.length=0 then(s,⟨7,[],[],[]⟩) else(udS s,⟨0,[],[],[]⟩)
theorem qU1:vI.1.wp tab gl (qD 0 [.t (.sl [])]) (qD 0 []) (qZ [(2,none)] 0 (λr o=>r=.t (.sl [])/\o=[])):=by
 simp(disch:=omega)only[go_sem,vI];repeat refine aiG ?_
 all_goals rfl
def zKn:Ct where
 α:=Unit
 aS _:=[.t (.sl [])]
 ins _:=[]
 pre _:=True
 r _:= .t (.sl [])
 outs _:=[]
 inj:=λ_ _ _ _=>⟨rfl,rfl⟩
theorem jLd:zKn.fs [.t (.sl [])] []=some (.t (.sl []),[]):=zKn.eq () trivial
def zKq (n:Nat):Ct where
 α:=Int
 aS _:=[.t (.sl []),.fn n [.ref 0 0 0]]
 ins x:=[nOb x]
 pre _:=True
 r _:= .t (.int .i64 (-1))
 outs x:=[nOb x]
 inj:=by
  intro a b _ h2;simp only[List.cons.injEq,and_true]at h2;obtain rfl:=qWv h2;exact⟨rfl,rfl⟩
theorem jMy {n:Nat}{m:Int}:(zKq n).fs [.t (.sl []),.fn n [.ref 0 0 0]] [nOb m]=some (.t (.int .i64 (-1)),[nOb m]):=(zKq n).eq m trivial
theorem qMo (n:Nat)(m:Int):yK.1.wp tab gl (qD 0 [.t (.sl []),.fn n [.ref 0 0 0]]) (qD 0 [nOb m]) (qZ [(4,none)] 1 (λr o=>r=.t (.int .i64 (-1))/\o=[nOb m])):=by
 simp(disch:=omega)only[go_sem,yK,nOb];refine jZ (σ:=Unit) (λ_=>True) (λ_=>0) (λ_=>[(0,.t (.sl [])),(1,.fn n [.ref 0 0 0]),(7,.t (.int .i64 0)),(8,.t (.int .i64 0))]) (λ_=>[(0,.live 1 [.t (.int .i64 m)] true true)]) () trivial (qL.rd id ?_ ?_ rfl) ?_
 .simp(disch:=omega)only[go_sem,id]
 .simp(disch:=omega)only[go_sem,id]
 rintro⟨⟩ -;simp(disch:=omega)only[go_sem]
def zKp (n:Nat):Ct where
 α:=Int
 aS _:=[.t (.sl []),.fn n [.ref 0 0 0]]
 ins x:=[nOb x]
 pre _:=True
 r _:= .t (.sl [])
 outs x:=[nOb x]
 inj:=by
  intro a b _ h2;simp only[List.cons.injEq,and_true]at h2;obtain rfl:=qWv h2;exact⟨rfl,rfl⟩
theorem jLq {n:Nat}{m:Int}:(zKp n).fs [.t (.sl []),.fn n [.ref 0 0 0]] [nOb m]=some (.t (.sl []),[nOb m]):=(zKp n).eq m trivial
theorem qLv (n:Nat)(h1:tab.look 295=some (zKq n).fs)(m:Int):yE.1.wp tab gl (qD 0 [.t (.sl []),.fn n [.ref 0 0 0]]) (qD 0 [nOb m]) (qZ [(4,none)] 1 (λr o=>r=.t (.sl [])/\o=[nOb m])):=by
 have e:=@jMy n m;simp only[nOb]at e;simp(disch:=omega)only[go_sem,yE,nOb,h1,e]
def qOz:ECt where
 α:=List Int×Int
 β:=List Int
 aS:=λ(l,v)=>[.t (.sl (l.map iT)),.t (.int .i64 v)]
 pre:=λ(l,v)=>l=[]
 r:=λr'=>.t (.sl (r'.map iT))
 R:=λ(l,v) r'=>r'=[]
theorem jR6 {g:EF qOz}{l:List Int}{v:Int}(hp:l=[]):qOz.fs g [.t (.sl (l.map iT)),.t (.int .i64 v)] []=some (.t (.sl (([]).map iT)),[]):=fnQ qOz (l,v) hp
theorem jBr {l:List Int}{v:Int}(hV:vv=.t (.sl (([]).map iT)))(hO:oo=[]):qOz.K (l,v) vv oo:=⟨_,rfl,hV,hO⟩
theorem qUn (h1:LkC tab 262 zKn)(h3:tab.look 261=some (zKp 263).fs)(l:List Int)(v:Int)(hp:l=[]) :
  qB8.1.wp tab gl (qD 0 [.t (.sl (l.map iT)),.t (.int .i64 v)]) (qD 0 []) (qZ [(4,none)] 0 (qOz.K (l,v))):=by
 subst hp;have e1:=jLd;have e3:=@jLq 263 v;simp only[nOb]at e3;simp(disch:=omega)only[go_sem,qB8,map_nil,h1,e1,h3,e3];.repeat first|exact(jBr rfl rfl)|refine⟨rfl,?_⟩
def qH8:ECt where
 α:=St×Int
 β:=St×Rs
 aS:=λ(s,n)=>[.t (stA s),.t (.int .i64 n)]
 pre:=λ(s,n)=>n=1/\ixO s.a.ix/\s.rl=[]/\s.wl=[]
 r:=λ(t,r)=>.tup [.t (stA t),.t (rsA r)]
 R:=λ(s,n)(t,r)=>(t,r)=udR s
theorem jNw {g:EF qH8}{s:St}{n:Int}(hp:n=1/\ixO s.a.ix/\s.rl=[]/\s.wl=[]):∃(t:St)(r:Rs),((t,r)=udR s)/\qH8.fs g [.t (stA s),.t (.int .i64 n)] []=some (.tup [.t (stA t),.t (rsA r)],[]):=by
 obtain⟨y,h1,h2⟩:=qH8.eq g (s,n) hp;exact⟨y.1,y.2,h1,h2⟩
theorem jNv {s:St}{n:Int}(t:St)(r:Rs)(hR:(t,r)=udR s)(hV:vv=.tup [.t (stA t),.t (rsA r)])(hO:oo=[]):qH8.K (s,n) vv oo:=⟨(t,r),hR,hV,hO⟩
theorem qS3 (h1:tab.look 212=some zEe.fs)(h3:tab.look 213=some (zKo 214).fs){g4}(h4:LkE tab 114 qE8 g4){g5}(h5:LkE tab 215 qOz g5)(s:St)(n:Int)(hp:n=1/\ixO s.a.ix/\s.rl=[]/\s.wl=[]) :
  kR.1.wp tab gl (qD 0 [.t (stA s),.t (.int .i64 n)]) (qD 0 []) (qZ [(4,(some (30,true))),(5,(some (4,true)))] 0 (qH8.K (s,n))):=by
 obtain⟨rfl,hix,hrl,hwl⟩:=hp;have e5:=jR6 (g:=g5) (l:=[]) (v:=1) rfl;rw[map_nil]at e5;rcases hix with hix|⟨y,hix,hy⟩
 .have e1:=jCi;have e3:=@jCq 214 [] 1 (.inl rfl);simp only[lOb,nOb,map_nil,length_nil]at e3;obtain⟨t2,r2,⟨rfl,rfl⟩,e4⟩:=qMv (g:=g4) (s:=s) (e:=7);have hK:∀vv,vv=.tup [.t (stA t2),.t (rsA ⟨7,[],[],[]⟩)]->qH8.K (t2,1) vv []:=λvv h=>jNv t2 ⟨7,[],[],[]⟩ (by rw[udR,hix];rfl) h rfl
  simp only[stA,rsA,iT,hix,map_nil]at hK e4;simp(maxSteps:=9^9)(disch:=try exact dS)only[go_sem,kR,stA,rsA,iT,hix,map_nil,h1,e1,h3,e3,h4,e4];repeat refine aiG ?_
  exact hK _ rfl
 .have e1:=@jCj y;have e3:=@jCq 214 [y] 1 (.inr ⟨y,rfl,hy⟩);simp only[lOb,nOb,mcn,length_cons,length_nil]at e3;have hK:∀vv,vv=.tup [.t (stA (udS s)),.t (rsA ⟨0,[],[],[]⟩)]->qH8.K (s,1) vv []:=λvv h=>jNv (udS s) ⟨0,[],[],[]⟩ (by rw[udR,hix];rfl) h rfl
  simp only[udS,stA,rsA,iT,hrl,hwl,map_nil]at hK;simp only[ixA]at e1 e3;simp(maxSteps:=9^9)(disch:=try exact dS)only[go_sem,kR,stA,rsA,iT,ixA,hix,hrl,hwl,mcn,h1,e1,h3,e3,h5,e5];repeat refine aiG ?_
  exact hK _ rfl
def rdR (v:Int):Rs:=if v=0 then ⟨22,[],[],[]⟩ else ⟨0,[],[beI 8 v 8],[]⟩
theorem jFp {v w:Int}(hv:0<=v/\v<=1000)(hw:0<=w/\w<=1000)(h:ctI v=ctI w):v=w:=by
 unfold ctI cnI at h;simp only[Ix.mk.injEq,true_and]at h;exact zWe oM oM h.2
def qGy:ECt where
 α:=St×Rq
 β:=St×Rs
 aS:=λ(s,q)=>[.t (stA s),.t (rqA q)]
 pre:=λ(s,q)=>(q=qC .ic\/q=qC .rd)/\(s.wl=[]/\s.rl=[])/\(0<=s.a.mc/\s.a.mc<=1000)/\(s.a.ix=[ctI 0]\/s.a.ix=[ctI s.a.mc])
 r:=λ(t,r)=>.tup [.t (stA t),.t (rsA r)]
 R:=λ(s,q)(t,r)=>(q=qC .ic->t=icS s/\r=⟨0,[],[],[]⟩)/\∀v,q=qC .rd->s.a.ix=[ctI v]->(0<=v/\v<=1000)->t=s/\r=rdR v
theorem jDm {g:EF qGy}{s:St}{q:Rq}(hp:(q=qC .ic\/q=qC .rd)/\(s.wl=[]/\s.rl=[])/\(0<=s.a.mc/\s.a.mc<=1000)/\(s.a.ix=[ctI 0]\/s.a.ix=[ctI s.a.mc])):∃(t:St)(r:Rs),((q=qC .ic->t=icS s/\r=⟨0,[],[],[]⟩)/\∀v,q=qC .rd->s.a.ix=[ctI v]->(0<=v/\v<=1000)->t=s/\r=rdR v)/\qGy.fs g [.t (stA s),.t (rqA q)] []=some (.tup [.t (stA t),.t (rsA r)],[]):=by
 obtain⟨y,h1,h2⟩:=qGy.eq g (s,q) hp;exact⟨y.1,y.2,h1,h2⟩
theorem jGs {s:St}{q:Rq}(t:St)(r:Rs)(hR:(q=qC .ic->t=icS s/\r=⟨0,[],[],[]⟩)/\∀v,q=qC .rd->s.a.ix=[ctI v]->(0<=v/\v<=1000)->t=s/\r=rdR v)(hV:vv=.tup [.t (stA t),.t (rsA r)])(hO:oo=[]):qGy.K (s,q) vv oo:=⟨(t,r),hR,hV,hO⟩
theorem qUm {g1}(h1:LkE tab 133 qE7 g1){g2}(h2:LkE tab 114 qE8 g2){g4}(h4:LkE tab 220 qK0 g4){g5}(h5:LkE tab 221 qKa g5){g7}(h7:LkE tab 223 qJ8 g7)(h10:tab.look 212=some zEe.fs)(s:St)(q:Rq)(hp:(q=qC .ic\/q=qC .rd)/\(s.wl=[]/\s.rl=[])/\(0<=s.a.mc/\s.a.mc<=1000)/\(s.a.ix=[ctI 0]\/s.a.ix=[ctI s.a.mc])) :
  wE.1.wp tab gl (qD 0 [.t (stA s),.t (rqA q)]) (qD 0 []) (qZ [(4,(some (30,true))),(5,(some (4,true)))] 0 (qGy.K (s,q))):=by
 obtain⟨hq,⟨hwl,hrl⟩,hm,hix0⟩:=hp;obtain⟨v,hv,hix,hv2⟩:∃v,(0<=v/\v<=1000)/\s.a.ix=[ctI v]/\(ctI v=ctI 0\/ctI v=ctI s.a.mc):=by
  rcases hix0 with h|h
  .exact⟨0,oM,h,.inl rfl⟩
  .exact⟨s.a.mc,oM,h,.inr rfl⟩
 clear hix0;obtain⟨i,e,q1,e1⟩:=zEn (g:=g1) (s:=s) (h:=257) ⟨by rw[hix];simp,by rw[hix];simp[ctI,cnI],by unfold tmI;omega⟩;obtain⟨rfl,rfl⟩:i=0/\e=0:=by
  have hx:ixP s.a.ix 257 0=0:=by rw[hix];simp[ixP,ctI,cnI]
  rw[qRw,hx]at q1;exact⟨congrArg (·.1) q1,congrArg (·.2) q1⟩
 clear q1;have e4:=jEp (g:=g4) (l:=[]) (v:=1) rfl;rcases hq with rfl|rfl
 .obtain⟨y,k,e,⟨rfl,rfl,rfl⟩,e7⟩:=jMf (g:=g7) (x:=ctI v) (m:=s.a.mc) ⟨hm,hv2⟩;have e10:=@jCj (ctI v);have hK:∀vv,vv=.tup [.t (stA (icS s)),.t (rsA ⟨0,[],[],[]⟩)]->qGy.K (s,qC .ic) vv []:=λvv h=>jGs (icS s) ⟨0,[],[],[]⟩ ⟨λ_=>⟨rfl,rfl⟩,λ_ g=>by simp[qC]at g⟩ h rfl
  simp only[icS,stA,rsA,iT,hwl,hrl,mcn]at hK;have hn:(ctI v).n=1:=rfl;clear hv2;generalize ctI (s.a.mc+1)=Y at *;generalize ctI v=X at *;generalize s.a.mc+1=m1 at *;simp only[stA,hix,hwl,hrl,mcn]at e1 e4;simp only[ixA,hn]at e1 e7 e10 hK;simp(maxSteps:=9^9)(disch:=try exact dS)only[go_sem,wE,stA,rqA,qC,azA,iT,ixA,hix,hwl,hrl,hn,mcn,qG,h1,e1,h4,e4,h7,e7,h10,e10];repeat refine aiG ?_
  exact hK _ rfl
 .obtain⟨d,e,hR,e5⟩:=jMi (g:=g5) (x:=ctI v) (o:=0) (z:=8) ⟨⟨v,rfl⟩,rfl,rfl⟩;obtain⟨rfl,rfl⟩:=hR v rfl;have hn:(ctI v).n=1:=rfl;have hS:∀w,qC .rd=qC .rd->s.a.ix=[ctI w]->(0<=w/\w<=1000)->s=s/\rdR v=rdR w:=by
   intro w _ h2 h3;rw[hix]at h2;simp only[List.cons.injEq,and_true]at h2;rw[jFp hv h3 h2];exact⟨rfl,rfl⟩
  by_cases c:v=0
  .have r1:rdD v=[]:=if_pos c;have r2:rdE v=22:=if_pos c;have r3:rdR v=⟨22,[],[],[]⟩:=if_pos c;rw[r1,r2]at e5;obtain⟨t2,r2',⟨rfl,rfl⟩,e2⟩:=qMv (g:=g2) (s:=s) (e:=22);have hK:∀vv,vv=.tup [.t (stA t2),.t (rsA ⟨22,[],[],[]⟩)]->qGy.K (t2,qC .rd) vv []:=λvv h=>jGs t2 ⟨22,[],[],[]⟩ ⟨λg=>by simp[qC]at g,λw a b d=>by rw[<-r3];exact hS w a b d⟩ h rfl
   clear hS r1 r2 r3 hv2 hR;generalize ctI v=X at *;simp only[stA,rsA,iT,hix,hwl,hrl,mcn]at e1 e2 e4 hK;simp only[ixA,hn,map_nil]at e1 e2 e5 hK;simp(maxSteps:=9^9)(disch:=try exact dS)only[go_sem,wE,stA,rsA,rqA,qC,azA,iT,ixA,hix,hwl,hrl,hn,mcn,qG,h1,e1,h2,e2,h4,e4,h5,e5];repeat refine aiG ?_
   exact hK _ rfl
  .have r1:rdD v=beI 8 v 8:=if_neg c;have r2:rdE v=0:=if_neg c;have r3:rdR v=⟨0,[],[beI 8 v 8],[]⟩:=if_neg c;rw[r1,r2]at e5;have hK:∀vv,vv=.tup [.t (stA s),.t (rsA ⟨0,[],[beI 8 v 8],[]⟩)]->qGy.K (s,qC .rd) vv []:=λvv h=>jGs s ⟨0,[],[beI 8 v 8],[]⟩ ⟨λg=>by simp[qC]at g,λw a b d=>by rw[<-r3];exact hS w a b d⟩ h rfl
   clear hS r1 r2 r3 hv2 hR;generalize beI 8 v 8=B at *;generalize ctI v=X at *;simp only[stA,rsA,iT,hix,hwl,hrl,mcn,qG]at e1 e4 hK;simp only[ixA,hn,map_nil]at e1 e5 hK;simp(maxSteps:=9^9)(disch:=try exact dS)only[go_sem,wE,stA,rsA,rqA,qC,azA,iT,ixA,hix,hwl,hrl,hn,mcn,qG,h1,e1,h4,e4,h5,e5];repeat refine aiG ?_
   exact hK _ rfl
def ixv (s:St):Int:=if(s.a.ix.getD 0 default).wr=true then s.a.mc else 0
def icR (s:St):St×Rs:=if s.a.ix.length=0 then(s,⟨7,[],[],[]⟩) else(icS s,⟨0,[],[],[]⟩)
def zL5 (s:St):St×Rs:=if s.a.ix.length=0 then(s,⟨7,[],[],[]⟩) else(s,rdR (ixv s))
theorem jM7 {s:St}(h:s.a.ix=[ctI 0]\/s.a.ix=[ctI s.a.mc]):s.a.ix=[ctI (ixv s)]:=by
 unfold ixv;rcases h with h|h
 .rw[h];rfl
 .rw[h];by_cases c:s.a.mc=0
  .rw[c];rfl
  .have:(List.getD [ctI s.a.mc] 0 default).wr=true:=decide_eq_true c;rw[if_pos this]
def zNm (s:St):Prop:=(s.wl=[]/\s.rl=[])/\(0<=s.a.mc/\s.a.mc<=1000)/\(s.a.ix=[ctI 0]\/s.a.ix=[ctI s.a.mc])
theorem zNm.n {s:St}(h:zNm s):s.a.ix.length≠0:=by
 rcases h.2.2 with h|h<;>rw[h]<;>simp
theorem zNm.v {s:St}(h:zNm s):0<=ixv s/\ixv s<=1000:=by
 have:=h.2.1;unfold ixv;split<;>omega
theorem zMx {a:UInt8}:qJu .shr (qA a) (.int .u64 4)=some (qA (a >>> 4)):=by
 change (if(4:Int)<0 then none else some (T.int .u8 ((a.toNat:Int).fdiv (2^min (4:Int).toNat 8))))=_;rw[if_neg (by decide)];unfold qA;rw[UInt8.toNat_shiftRight,Nat.shiftRight_eq_div_pow];congr 2;rw[Int.fdiv_eq_ediv_of_nonneg _ (by decide)];rfl
theorem zUl {a:UInt8}:(a >>> 4).toNat<=15:=by
 have:=a.toNat_lt;rw[UInt8.toNat_shiftRight];simp[Nat.shiftRight_eq_div_pow];omega
theorem zJ2 {a:UInt8}:(a &&& 15).toNat<=15:=by
 rw[UInt8.toNat_and];exact Nat.and_le_right
def xo (i:Nat):Nat:=if i%2=0 then i+1 else i-1
def qYu (t:Nat)(fs:List (List UInt8)):List UInt8:=(kX t fs).take 16
theorem qIk {t:Nat}{fs:List (List UInt8)}:(qYu t fs).length=16:=by simp[qYu,kX,qO]
theorem zEv {t:Nat}{fs:List (List UInt8)}:List.take 16 (kX t fs)=qYu t fs:=rfl
theorem qTu {t:Nat}{fs:List (List UInt8)}:(kX t fs).length=32:=qO
theorem jUl {t:Nat}{fs:List (List UInt8)}(h:∀x∈fs,x.length<=1000)(hl:fs.length<=10):(zB t fs).length<1000000000:=by
 have h1:=qSc (t:=t) h;omega
theorem jC8 {t:Nat}{fs:List (List UInt8)}(ht:t<256)(h:∀x∈fs,x.length<=1000)(hl:fs.length<=10):yP.fs [.t (.int .i64 t),.t (.sl (fs.map bsT))] []=some (.sl 0 0 32,[.live 1 (((kX t fs).map qA).map V.t) true false]):=yP.eq (t,fs) ⟨ht,jUl h hl⟩
def dgS (s:List Int×Int)(b:UInt8):List Int×Int:=(s.1++[((b >>> 4).toNat:Int),((b &&& 15).toNat:Int)],s.2+(30-((b >>> 4).toNat:Int)-((b &&& 15).toNat:Int)))
def dgW (w:List UInt8):List Int×Int:=w.foldl dgS ([],0)
def dgX (s:List Int×Int):List Int:=s.1++[s.2/256,s.2/16%16,s.2%16]
def dgF (m:List UInt8):List Int:=dgX (dgW (qYu 4 [m]))
structure DgP (n:Nat)(s:List Int×Int):Prop where
 l:s.1.length=2*n
 d:∀x∈s.1,0<=x/\x<=15
 n0:0<=s.2
 n1:s.2<=30*n
theorem zW5 {w:List UInt8}{k:Nat}{x:UInt8}(h:w[k]?=some x):dgW (w.take (k+1))=dgS (dgW (w.take k)) x:=by
 unfold dgW;rw[take_add_one,h,foldl_append];rfl
theorem jUd {n:Nat}{s:List Int×Int}{b:UInt8}(h:DgP n s):DgP (n+1) (dgS s b):=by
 have b1:=@zUl b;have b2:=@zJ2 b;obtain⟨hl,hd,h0,h1⟩:=h;refine⟨by simp[dgS,hl];omega,?_,by simp only[dgS];omega,by simp only[dgS];omega⟩;intro x hx;simp only[dgS,mem_append,mem_cons,not_mem_nil,or_false]at hx;rcases hx with hx|rfl|rfl
 .exact hd x hx
 .omega
 .omega
theorem zK7:∀{w:List UInt8}{n:Nat}{s:List Int×Int},DgP n s->DgP (n+w.length) (w.foldl dgS s)
 |[],n,s,h=>h
 |b::w,n,s,h=>by
  have:=zK7 (w:=w) (jUd (b:=b) h);rw[show n+1+w.length=n+(b::w).length by simp;omega]at this;exact this
theorem jFw {w:List UInt8}:DgP w.length (dgW w):=by
 have:=zK7 (w:=w) (n:=0) (s:=([],0)) ⟨rfl,sM,Int.le_refl _,sM⟩;rw[Nat.zero_add]at this;exact this
theorem jUe {s:List Int×Int}(h:DgP 16 s):(dgX s).length=35/\∀x∈dgX s,0<=x/\x<=15:=by
 obtain⟨hl,hd,h0,h1⟩:=h;refine⟨by simp[dgX,hl],?_⟩;intro x hx;simp only[dgX,mem_append,mem_cons,not_mem_nil,or_false]at hx;rcases hx with hx|rfl|rfl|rfl
 .exact hd x hx
 all_goals omega
theorem jUc (m:List UInt8):(dgF m).length=35/\∀x∈dgF m,0<=x/\x<=15:=by
 have:=jFw (w:=qYu 4 [m]);rw[qIk]at this;exact jUe this
def qK9:ECt where
 α:=List UInt8
 β:=List Int
 aS:=λm=>[.t (.sl (m.map qA))]
 pre:=λm=>m.length<=1000
 r:=λr'=>.t (.sl (r'.map iT))
 R:=λm r'=>r'=dgF m
theorem jSk {g:EF qK9}{m:List UInt8}(hp:m.length<=1000):qK9.fs g [.t (.sl (m.map qA))] []=some (.t (.sl ((dgF m).map iT)),[]):=fnQ qK9 m hp
theorem jYm {m:List UInt8}(hV:vv=.t (.sl ((dgF m).map iT)))(hO:oo=[]):qK9.K m vv oo:=⟨_,rfl,hV,hO⟩
theorem jLs {m:List UInt8}(h:m.length<=1000):yP.fs [.t (.int .i64 4),.t (.sl [.sl (m.map qA)])] []=some (.sl 0 0 32,[.live 1 (((kX 4 [m]).map qA).map V.t) true false]):=by
 have hH:=jC8 (t:=4) (fs:=[m]) oM soM sM;simp only[mcn,qG]at hH;exact hH
def adI (a b:Int):Int:=IntKind.i64.wrap ((BitVec.ofInt 64 a &&& BitVec.ofInt 64 b).toNat:Int)
theorem yDv {a b:Int}:qLz .and .i64 a .i64 b=some (.int .i64 (adI a b)):=rfl
theorem yEg:∀n:Fin 481,adI ((n.val:Int)/16) 15=(n.val:Int)/16%16/\adI (n.val:Int) 15=(n.val:Int)%16:=by decide +kernel
theorem jUg {n:Int}:qLz .shr .i64 n .u64 8=some (.int .i64 (n/256)):=by
 change (if(8:Int)<0 then none else some (T.int .i64 (n.fdiv (2^min (8:Int).toNat 64))))=_;rw[if_neg (by decide),Int.fdiv_eq_ediv_of_nonneg _ (by decide)];rfl
theorem jUf {n:Int}:qLz .shr .i64 n .u64 4=some (.int .i64 (n/16)):=by
 change (if(4:Int)<0 then none else some (T.int .i64 (n.fdiv (2^min (4:Int).toNat 64))))=_;rw[if_neg (by decide),Int.fdiv_eq_ediv_of_nonneg _ (by decide)];rfl
def dgJ (n u v:Int):Nat->Int
 |0=>n
 |1=>n+(15-u)
 |_=>n+(15-u)+(15-v)
theorem qUp (h1:LkC tab 102 yP)(m:List UInt8)(hp:m.length<=1000) :
  qCa.1.wp tab gl (qD 0 [.t (.sl (m.map qA))]) (qD 0 []) (qZ [(2,none)] 0 (qK9.K m)):=by
 have hH:=jLs hp;have lH:=qTu (t:=4) (fs:=[m]);have tH:=zEv (t:=4) (fs:=[m]);have lW:=qIk (t:=4) (fs:=[m]);have hF:dgF m=dgX (dgW (qYu 4 [m])):=rfl;have hK:∀vv,vv=.t (.sl ((dgX (dgW (qYu 4 [m]))).map iT))->qK9.K m vv []:=λvv h=>jYm (by rw[h,hF]) rfl
 generalize qYu 4 [m]=w at *;have lt:List.take 16 (List.map qA (kX 4 [m]))=w.map qA:=by rw[<-map_take,tH]
 generalize kX 4 [m]=y at *;clear hF hp;simp(disch:=omega)only[go_sem,qCa,h1,hH,lH,tH];refine qB 16 (λk=>[(3,.sl 9000 0 (dgW (w.take k)).1.length),(4,.t (.int .i64 (dgW (w.take k)).2)),(12,.t (.sl (w.map qA))),(13,.t (.int .i64 16)),(14,.t (.int .i64 k))]) (λk=>[(9000,.live 1 (((dgW (w.take k)).1.map iT).map V.t) true false)]) ?_ (λk hk=>?_)
 .refine qL.cv (hv:=[(9000,.live 1 [] true false)]) (ho:=[]) [16416] id ?_ rfl;simp(disch:=omega)only[go_sem,id,lH];all_goals exact⟨by rw[tH];first|exact⟨rfl,rfl,rfl⟩|exact⟨rfl,rfl⟩,rfl⟩
 .by_cases hlt:k<16
  .obtain⟨x,hg,_,_⟩:=qX (l:=w) (k:=k) oM;have hx:w.getD k 0=x:=by rw[getD_eq_getElem?_getD,hg];rfl
   have hf:=zW5 hg;have hP:=jFw (w:=w.take k);rw[length_take,Nat.min_eq_left oM]at hP;generalize dgW (w.take k)=s at *;obtain⟨d,n⟩:=s;obtain⟨hl,hd,h0,h1'⟩:=hP;simp only at hl hd h0 h1';have b1:=@zUl x;have b2:=@zJ2 x;simp only[dgS]at hf;simp(disch:=omega)only[go_sem,hlt,lW,hl,hx,zMx,zP2];generalize (x >>> 4).toNat=u at *;generalize (x &&& 15).toNat=v at *;refine qB 2 (λj=>[(3,.sl 9000 0 (2*k+j)),(4,.t (.int .i64 (dgJ n u v j))),(12,.t (.sl (w.map qA))),(13,.t (.int .i64 16)),(14,.t (.int .i64 k)),(24,.t (.agg [.int .i64 u,.int .i64 v])),(25,.t (.int .i64 (j:Nat)))]) (λj=>[(9000,.live 1 (((d++[(u:Int),(v:Int)].take j).map iT).map V.t) true false)]) ?_ (λj hj=>?_)
   .refine qL.rd id ?_ ?_ rfl;all_goals simp(disch:=omega)only[go_sem,id,take_zero,append_nil]
    all_goals rfl
   .have hs0:dgJ n u v 0=n:=rfl;have hs1:dgJ n u v 1=n+(15-u):=rfl;have hs2:dgJ n u v 2=n+(15-u)+(15-v):=rfl;have hs3:n+(30-(u:Int)-(v:Int))=n+(15-u)+(15-v):=oM;rcases(by omega:j=0\/j=1\/j=2)with rfl|rfl|rfl
    .simp(disch:=omega)only[go_sem,hl,mcn,take_zero,append_nil,hs0];repeat refine aiG ?_
     refine qL.rd (λj=>if j=9000 then 41008 else j) ?_ ?_ rfl
     .simp(disch:=omega)only[go_sem,id,hs1]
     .simp(disch:=omega)only[go_sem,id,iT];simp[iT]
    .simp(disch:=omega)only[go_sem,hl,mcn,hs1];repeat refine aiG ?_
     refine qL.rd (λj=>if j=9000 then 41008 else j) ?_ ?_ rfl
     .simp(disch:=omega)only[go_sem,id,hs2]
     .simp(disch:=omega)only[go_sem,id,iT];simp[iT]
    .simp(disch:=omega)only[go_sem,hl,hs2];repeat refine aiG ?_
     refine qL.rd id ?_ ?_ rfl;all_goals simp(disch:=omega)only[go_sem,id,hf,hs3]
     all_goals first|rfl|(simp[hl];done)|(simp[hl];omega)
  .have e:k=16:=oM;subst e;rw[take_of_length_le oM];have hP:=jFw (w:=w);rw[lW]at hP;generalize dgW w=s at *;obtain⟨d,n⟩:=s;obtain⟨hl,hd,h0,h1'⟩:=hP;simp only at hl hd h0 h1';obtain⟨q3,q4⟩:=yEg ⟨n.toNat,oM⟩;simp only[show((n.toNat:Nat):Int)=n by omega]at q3 q4;simp(disch:=omega)only[go_sem,lW,hl,↓jUg,↓jUf,↓yDv,q3,q4];refine hK _ ?_;simp only[dgX,iT,map_append,mcn,append_assoc,cons_append,nil_append];rw[take_of_length_le (by simp[hl])]
def stF (l c a:Int)(x:List UInt8):Nat->List UInt8
 |0=>x
 |p+1=>qYu 1 [[u8I l,u8I c,u8I (a+(p:Nat))],stF l c a x p]
theorem zAu {l c a:Int}{x:List UInt8}(h:x.length=16):∀{n:Nat},(stF l c a x n).length=16
 |0=>h
 |n+1=>qIk
def qWi:ECt where
 α:=Int×Int×Int×List UInt8
 β:=List UInt8
 aS:=λ(l,c,p,x)=>[.t (.int .i64 l),.t (.int .i64 c),.t (.int .i64 p),.t (.sl (x.map qA))]
 pre:=λ(l,c,p,x)=>x.length=16
 r:=λr'=>.t (.sl (r'.map qA))
 R:=λ(l,c,p,x) r'=>r'=qYu 1 [[u8I l,u8I c,u8I p],x]
theorem jSl {g:EF qWi}{l c p:Int}{x:List UInt8}(hp:x.length=16):qWi.fs g [.t (.int .i64 l),.t (.int .i64 c),.t (.int .i64 p),.t (.sl (x.map qA))] []=some (.t (.sl ((qYu 1 [[u8I l,u8I c,u8I p],x]).map qA)),[]):=fnQ qWi (l,c,p,x) hp
def qLc:ECt where
 α:=Int×List UInt8
 β:=List UInt8
 aS:=λ(l,e)=>[.t (.int .i64 l),.t (.sl (e.map qA))]
 pre:=λ(l,e)=>e.length<=1000
 r:=λr'=>.t (.sl (r'.map qA))
 R:=λ(l,e) r'=>r'=qYu 2 [[u8I l],e]
theorem jSu {g:EF qLc}{l:Int}{e:List UInt8}(hp:e.length<=1000):qLc.fs g [.t (.int .i64 l),.t (.sl (e.map qA))] []=some (.t (.sl ((qYu 2 [[u8I l],e]).map qA)),[]):=fnQ qLc (l,e) hp
theorem jYs {l:Int}{e:List UInt8}(hV:vv=.t (.sl ((qYu 2 [[u8I l],e]).map qA)))(hO:oo=[]):qLc.K (l,e) vv oo:=⟨_,rfl,hV,hO⟩
theorem jRh {a:UInt8}{x:List UInt8}(h:x.length<=1000):yP.fs [.t (.int .i64 2),.t (.sl [.sl [qA a],.sl (x.map qA)])] []=some (.sl 0 0 32,[.live 1 (((kX 2 [[a],x]).map qA).map V.t) true false]):=by
 have hH:=jC8 (t:=2) (fs:=[[a],x]) oM (by intro x hx;simp only[mem_cons,not_mem_nil,or_false]at hx;rcases hx with rfl|rfl;simp;omega) sM;simp only[mcn,qG]at hH;exact hH
theorem qX7 (h1:LkC tab 102 yP)(l:Int)(e:List UInt8)(hp:e.length<=1000) :
  qDh.1.wp tab gl (qD 0 [.t (.int .i64 l),.t (.sl (e.map qA))]) (qD 0 []) (qZ [(4,none)] 0 (qLc.K (l,e))):=by
 have h:=jRh (a:=u8I l) hp;have lH:=qTu (t:=2) (fs:=[[u8I l],e]);have tH:=zEv (t:=2) (fs:=[[u8I l],e]);have hK:∀vv,vv=.t (.sl ((qYu 2 [[u8I l],e]).map qA))->qLc.K (l,e) vv []:=λvv h=>jYs h rfl
 generalize qYu 2 [[u8I l],e]=z at *;generalize kX 2 [[u8I l],e]=y at *;simp(disch:=omega)only[go_sem,qDh,h1,h,lH,u8w,tH];.repeat first|exact(hK _ rfl)|refine⟨rfl,?_⟩
def rcX (d:List Int)(sg:List UInt8)(c:Nat):List UInt8:=stF 0 c (d.getD c 0) ((sg.drop (16*c)).take 16) (15-d.getD c 0).toNat
def rcE (d:List Int)(sg:List UInt8):Nat->List UInt8
 |0=>[]
 |c+1=>rcE d sg c++rcX d sg c
def rcF (m sg:List UInt8):List UInt8:=qYu 2 [[0],rcE (dgF m) sg 35]
theorem zAo {d:List Int}{sg:List UInt8}{c:Nat}(h:sg.length=560)(hc:c<35):(rcX d sg c).length=16:=zAu soM
theorem qSj {d:List Int}{sg:List UInt8}(h:sg.length=560):∀{c:Nat},c<=35->(rcE d sg c).length=16*c
 |0,_=>rfl
 |c+1,hc=>by rw[rcE,length_append,qSj h oM,zAo h oM];omega
def qLa:ECt where
 α:=Int×List UInt8×List UInt8
 β:=List UInt8×Bool
 aS:=λ(l,m,sg)=>[.t (.int .i64 l),.t (.sl (m.map qA)),.t (.sl (sg.map qA))]
 pre:=λ(l,m,sg)=>l=0/\m.length<=1000/\sg.length=560
 r:=λ(r,ok)=>.tup [.t (.sl (r.map qA)),.t (.bool ok)]
 R:=λ(l,m,sg)(r,ok)=>r=rcF m sg/\ok=true
theorem jSp {g:EF qLa}{l:Int}{m sg:List UInt8}(hp:l=0/\m.length<=1000/\sg.length=560):∃(r:List UInt8)(ok:Bool),(r=rcF m sg/\ok=true)/\qLa.fs g [.t (.int .i64 l),.t (.sl (m.map qA)),.t (.sl (sg.map qA))] []=some (.tup [.t (.sl (r.map qA)),.t (.bool ok)],[]):=by
 obtain⟨y,h1,h2⟩:=qLa.eq g (l,m,sg) hp;exact⟨y.1,y.2,h1,h2⟩
theorem jYq {l:Int}{m sg:List UInt8}(r:List UInt8)(ok:Bool)(hR:r=rcF m sg/\ok=true)(hV:vv=.tup [.t (.sl (r.map qA)),.t (.bool ok)])(hO:oo=[]):qLa.K (l,m,sg) vv oo:=⟨(r,ok),hR,hV,hO⟩
def bSg (sg:List UInt8):Ob:= .live 1 [.t (.sl (sg.map qA))] true true
def bDg (d:List Int):Ob:= .live 1 [.t (.sl (d.map iT))] true true
theorem zPx {a b:List UInt8}(h:bSg a=bSg b):a=b:=by
 simp only[bSg,Ob.live.injEq,List.cons.injEq,V.t.injEq,T.sl.injEq,jC,true_and,and_true]at h;exact h
theorem zNl {a b:List Int}(h:a.map iT=b.map iT):a=b:=by
 have:=congrArg (List.map (λt=>match t with|T.int _ n=>n|_=>0)) h;simpa [map_map,Function.comp_def,iT]using this
theorem zPw {a b:List Int}(h:bDg a=bDg b):a=b:=by
 simp only[bDg,Ob.live.injEq,List.cons.injEq,V.t.injEq,T.sl.injEq,true_and,and_true]at h;exact zNl h
def zKx:Ct where
 α:=Nat×List UInt8
 aS x:=[.t (.int .i64 x.1),.ref 0 0 0]
 ins x:=[bSg x.2]
 pre x:=x.1<35/\x.2.length=560
 r x:= .t (.sl (((x.2.drop (16*x.1)).take 16).map qA))
 outs x:=[bSg x.2]
 inj:=by
  rintro⟨a,b⟩ ⟨c,d⟩ h h2;simp only[List.cons.injEq,V.t.injEq,T.int.injEq,Int.natCast_inj,true_and,and_true]at h h2;obtain rfl:=h;obtain rfl:=zPx h2;exact⟨rfl,rfl⟩
def zKy:Ct where
 α:=Nat×List Int
 aS x:=[.t (.int .i64 x.1),.ref 0 0 0]
 ins x:=[bDg x.2]
 pre x:=x.1<35/\x.2.length=35
 r x:= .t (.int .i64 (x.2.getD x.1 0))
 outs x:=[bDg x.2]
 inj:=by
  rintro⟨a,b⟩ ⟨c,d⟩ h h2;simp only[List.cons.injEq,V.t.injEq,T.int.injEq,Int.natCast_inj,true_and,and_true]at h h2;obtain rfl:=h;obtain rfl:=zPw h2;exact⟨rfl,rfl⟩
def zKz:Ct where
 α:=Nat
 aS x:=[.t (.int .i64 x)]
 ins _:=[]
 pre _:=True
 r _:= .t (.int .i64 15)
 outs _:=[]
 inj:=λ_ _ _ _=>⟨rfl,rfl⟩
theorem jPj {c:Nat}{sg:List UInt8}(h:c<35/\sg.length=560):zKx.fs [.t (.int .i64 c),.ref 0 0 0] [.live 1 [.t (.sl (sg.map qA))] true true]=some (.t (.sl (((sg.drop (16*c)).take 16).map qA)),[.live 1 [.t (.sl (sg.map qA))] true true]):=zKx.eq (c,sg) h
theorem jPk {c:Nat}{d:List Int}(h:c<35/\d.length=35):zKy.fs [.t (.int .i64 c),.ref 0 0 0] [.live 1 [.t (.sl (d.map iT))] true true]=some (.t (.int .i64 (d.getD c 0)),[.live 1 [.t (.sl (d.map iT))] true true]):=zKy.eq (c,d) h
theorem jD9 {c:Nat}:zKz.fs [.t (.int .i64 c)] []=some (.t (.int .i64 15),[]):=zKz.eq c trivial
theorem qPx (c:Nat)(sg:List UInt8)(h:c<35/\sg.length=560):xY.1.wp tab gl (qD 0 [.t (.int .i64 c),.ref 0 0 0]) (qD 0 [bSg sg]) (qZ [(3,none)] 1 (λr o=>r=.t (.sl (((sg.drop (16*c)).take 16).map qA))/\o=[bSg sg])):=by
 obtain⟨hc,hs⟩:=h;simp(disch:=omega)only[go_sem,xY,bSg,hs];rw[show(c+1)*16-c*16=16 by omega,Nat.mul_comm c 16]
theorem qPy (c:Nat)(d:List Int)(h:c<35/\d.length=35):xZ.1.wp tab gl (qD 0 [.t (.int .i64 c),.ref 0 0 0]) (qD 0 [bDg d]) (qZ [(3,none)] 1 (λr o=>r=.t (.int .i64 (d.getD c 0))/\o=[bDg d])):=by
 obtain⟨hc,hd⟩:=h;obtain⟨v,hg,_,_⟩:=qX (l:=d) (k:=c) oM;have hgd:d.getD c 0=v:=by rw[getD_eq_getElem?_getD,hg];rfl
 simp(disch:=omega)only[go_sem,xZ,bDg,hd,hg,oms,iT,hgd]
theorem qPz (c:Nat):qAa.1.wp tab gl (qD 0 [.t (.int .i64 c)]) (qD 0 []) (qZ [(2,none)] 0 (λr o=>r=.t (.int .i64 15)/\o=[])):=by
 simp(disch:=omega)only[go_sem,qAa]
def zK2 (n1 n2 n3:Nat):Ct where
 α:=List UInt8×List Int
 aS _:=[.t (.int .i64 0),.fn n1 [.ref 0 0 0],.fn n2 [.ref 1 0 0],.fn n3 []]
 ins x:=[bSg x.1,bDg x.2]
 pre x:=x.1.length=560/\x.2.length=35/\∀v∈x.2,0<=v/\v<=15
 r x:= .t (.sl ((rcE x.2 x.1 35).map qA))
 outs x:=[bSg x.1,bDg x.2]
 inj:=by
  rintro⟨a,b⟩ ⟨c,d⟩ h h2;simp only[List.cons.injEq,and_true]at h2;obtain⟨h3,h4⟩:=h2;obtain rfl:=zPx h3;obtain rfl:=zPw h4;exact⟨rfl,rfl⟩
theorem jRy {n1 n2 n3:Nat}{sg:List UInt8}{d:List Int}(h:sg.length=560/\d.length=35/\∀v∈d,0<=v/\v<=15):(zK2 n1 n2 n3).fs [.t (.int .i64 0),.fn n1 [.ref 0 0 0],.fn n2 [.ref 1 0 0],.fn n3 []] [.live 1 [.t (.sl (sg.map qA))] true true,.live 1 [.t (.sl (d.map iT))] true true]=some (.t (.sl ((rcE d sg 35).map qA)),[.live 1 [.t (.sl (sg.map qA))] true true,.live 1 [.t (.sl (d.map iT))] true true]):=(zK2 n1 n2 n3).eq (sg,d) h
theorem qZv (m1 m2 m3:Nat){g:EF qWi}(hn:tab.look 300=some (qWi.fs g))(k1:tab.look m1=some zKx.fs)(k2:tab.look m2=some zKy.fs)(k3:tab.look m3=some zKz.fs)(sg:List UInt8)(d:List Int)(h:sg.length=560/\d.length=35/\∀v∈d,0<=v/\v<=15) :
  qEr.1.wp tab gl (qD 0 [.t (.int .i64 0),.fn m1 [.ref 0 0 0],.fn m2 [.ref 1 0 0],.fn m3 []]) (qD 0 [bSg sg,bDg d]) (qZ [(8,none)] 2 (λr o=>r=.t (.sl ((rcE d sg 35).map qA))/\o=[bSg sg,bDg d])):=by
 obtain⟨hs,ld,hd⟩:=h;simp(disch:=omega)only[go_sem,qEr,bSg,bDg];refine qB 35 (λc=>[(0,.t (.int .i64 0)),(1,.fn m1 [.ref 0 0 0]),(2,.fn m2 [.ref 1 0 0]),(3,.fn m3 []),(9,.sl 9000 0 (rcE d sg c).length),(13,.t (.int .i64 (c:Nat)))]) (λc=>[(9000,.live 1 (((rcE d sg c).map qA).map V.t) true false),(0,.live 1 [.t (.sl (sg.map qA))] true true),(1,.live 1 [.t (.sl (d.map iT))] true true)]) ?_ (λc hc=>?_)
 .refine qL.cv0 (hv:=[(9000,.live 1 [] true false)]) (ho:=[(0,.live 1 [.t (.sl (sg.map qA))] true true),(1,.live 1 [.t (.sl (d.map iT))] true true)]) id ?_ ?_ rfl rfl;all_goals simp(disch:=omega)only[go_sem,id]
  all_goals rfl
 .have lr:=qSj (d:=d) hs hc;by_cases hlt:c<35
  .obtain⟨v,hg,hm',_⟩:=qX (l:=d) (k:=c) oM;have hv:=hd v hm';have hgd:d.getD c 0=v:=by rw[getD_eq_getElem?_getD,hg];rfl
   have hX:rcX d sg c=stF 0 c v ((sg.drop (16*c)).take 16) (15-v).toNat:=by rw[rcX,hgd]
   have lX:=zAo (d:=d) hs hlt;have f1:=jPj (c:=c) (sg:=sg) ⟨hlt,hs⟩;have f2:=jPk (c:=c) (d:=d) ⟨hlt,ld⟩;rw[hgd]at f2;obtain⟨x,hx⟩:∃x,(sg.drop (16*c)).take 16=x:=⟨_,rfl⟩;have lx:x.length=16:=by rw[<-hx];simp;omega
   rw[hx]at hX f1;have hE:rcE d sg (c+1)=rcE d sg c++rcX d sg c:=rfl;simp(disch:=omega)only[go_sem,hlt,k1,k2,f1,f2];refine qB (15-v).toNat (λp=>[(0,.t (.int .i64 0)),(1,.fn m1 [.ref 0 0 0]),(2,.fn m2 [.ref 1 0 0]),(3,.fn m3 []),(9,.sl 9000 0 (rcE d sg c).length),(10,.t (.int .i64 (c:Nat))),(11,.t (.sl ((stF 0 c v x p).map qA))),(12,.t (.int .i64 (v+(p:Nat)))),(13,.t (.int .i64 (c:Nat)))]) (λ_=>[(9000,.live 1 (((rcE d sg c).map qA).map V.t) true false),(0,.live 1 [.t (.sl (sg.map qA))] true true),(1,.live 1 [.t (.sl (d.map iT))] true true)]) ?_ (λp hp=>?_)
   .refine qL.rd id ?_ ?_ rfl;all_goals simp(disch:=omega)only[go_sem,id,stF]
    all_goals simp
   .by_cases hp':p<(15-v).toNat
    .have e:=jSl (g:=g) (l:=0) (c:=c) (p:=v+(p:Nat)) (x:=stF 0 c v x p) (zAu lx);have hN:stF 0 c v x (p+1)=qYu 1 [[u8I 0,u8I c,u8I (v+(p:Nat))],stF 0 c v x p]:=rfl;have c1:v+(p:Nat)<15:=oM;have hk':v+(p:Nat)+1=v+((p+1:Nat):Int):=oM;rw[<-hN]at e;generalize stF 0 c v x p=z at *;have f3:=@jD9 c;simp(disch:=omega)only[go_sem,k3,f3,c1,hn,e];repeat refine aiG ?_
     refine qL.rd id ?_ ?_ rfl;all_goals simp(disch:=omega)only[go_sem,id,hk']
    .have e:p=(15-v).toNat:=oM;subst e;have c1:¬ v+((15-v).toNat:Nat)<15:=oM;rw[<-hX];have f3:=@jD9 c;generalize rcX d sg c=y at *;simp(disch:=omega)only[go_sem,k3,f3,c1,lX,lr];repeat refine aiG ?_
     refine qL.rd (λj=>if j=9000 then 45088 else j) ?_ ?_ rfl;all_goals simp(disch:=omega)only[go_sem,id,hE,lr,lX,length_append]
     all_goals rfl
  .obtain rfl:c=35:=oM;simp(disch:=omega)only[go_sem]
def qO6:ECt where
 α:=Int
 β:=Bool
 aS:=λl=>[.t (.int .i64 l)]
 pre:=λl=>l=0
 r:=λr'=>.t (.bool r')
 R:=λl r'=>r'=true
theorem jSs {g:EF qO6}{l:Int}(hp:l=0):qO6.fs g [.t (.int .i64 l)] []=some (.t (.bool (true)),[]):=fnQ qO6 l hp
theorem jBy {l:Int}(hV:vv=.t (.bool (true)))(hO:oo=[]):qO6.K l vv oo:=⟨_,rfl,hV,hO⟩
theorem qX6  (l:Int)(hp:l=0) :
  qDg.1.wp tab gl (qD 0 [.t (.int .i64 l)]) (qD 0 []) (qZ [(2,none)] 0 (qO6.K l)):=by
 subst hp;simp(disch:=omega)only[go_sem,qDg];.repeat first|exact(jBy rfl rfl)|refine⟨rfl,?_⟩
theorem qS5 {g1}(h1:LkE tab 275 qO6 g1){g2}(h2:LkE tab 276 qK9 g2)(h5:tab.look 279=some (zK2 277 280 281).fs){g7}(h7:LkE tab 278 qLc g7)(l:Int)(m sg:List UInt8)(hp:l=0/\m.length<=1000/\sg.length=560) :
  qBi.1.wp tab gl (qD 0 [.t (.int .i64 l),.t (.sl (m.map qA)),.t (.sl (sg.map qA))]) (qD 0 []) (qZ [(6,none),(7,none)] 0 (qLa.K (l,m,sg))):=by
 obtain⟨rfl,hm,hs⟩:=hp;have e0:=jSs (g:=g1) (l:=0) rfl;have e1:=jSk (g:=g2) (m:=m) hm;obtain⟨ld,hd⟩:=jUc m;have hF:rcF m sg=qYu 2 [[u8I 0],rcE (dgF m) sg 35]:=rfl;have hK:∀vv,vv=.tup [.t (.sl ((qYu 2 [[u8I 0],rcE (dgF m) sg 35]).map qA)),.t (.bool true)]->qLa.K (0,m,sg) vv []:=λvv h=>jYq _ true ⟨hF.symm,rfl⟩ h rfl
 clear hF;generalize dgF m=d at *;have e2:=@jRy 277 280 281 sg d ⟨hs,ld,hd⟩;have lr:=qSj (d:=d) hs (Nat.le_refl 35);have e3:=jSu (g:=g7) (l:=0) (e:=rcE d sg 35) oM;generalize qYu 2 [[u8I 0],rcE d sg 35]=z at *;generalize rcE d sg 35=r at *;simp(disch:=omega)only[go_sem,qBi,h1,e0,hs,h2,e1,h5,e2,h7,e3];repeat refine aiG ?_
 exact hK _ rfl
def qO2:ECt where
 α:=List UInt8×Int×List (List UInt8)
 β:=List UInt8
 aS:=λ(x,i,p)=>[.t (.sl (x.map qA)),.t (.int .i64 i),.t (.sl (p.map bsT))]
 pre:=λ(x,i,p)=>x.length=16/\i=0/\p=[]
 r:=λr'=>.t (.sl (r'.map qA))
 R:=λ(x,i,p) r'=>r'=x
theorem jSi {g:EF qO2}{x:List UInt8}{i:Int}{p:List (List UInt8)}(hp:x.length=16/\i=0/\p=[]):qO2.fs g [.t (.sl (x.map qA)),.t (.int .i64 i),.t (.sl (p.map bsT))] []=some (.t (.sl ((x).map qA)),[]):=fnQ qO2 (x,i,p) hp
theorem jBu {x:List UInt8}{i:Int}{p:List (List UInt8)}(hV:vv=.t (.sl ((x).map qA)))(hO:oo=[]):qO2.K (x,i,p) vv oo:=⟨_,rfl,hV,hO⟩
theorem zGe  (x:List UInt8)(i:Int)(p:List (List UInt8))(hp:x.length=16/\i=0/\p=[]) :
  qHx.1.wp tab gl (qD 0 [.t (.sl (x.map qA)),.t (.int .i64 i),.t (.sl (p.map bsT))]) (qD 0 []) (qZ [(6,none)] 0 (qO2.K (x,i,p))):=by
 obtain⟨hx,rfl,rfl⟩:=hp;have t:List.take 16 x=x:=take_of_length_le oM;simp(disch:=omega)only[go_sem,qHx,map_nil];refine qJ 1 ?_;simp(disch:=omega)only[go_sem,qF,hx,t];.repeat first|exact(jBu rfl rfl)|refine⟨rfl,?_⟩
def qO4:ECt where
 α:=Int
 β:=Bool
 aS:=λh=>[.t (.int .i64 h)]
 pre:=λh=>True
 r:=λr'=>.t (.bool r')
 R:=λh r'=>r'=decide (0<=h/\h<=3)
theorem jSr {g:EF qO4}{h:Int}:qO4.fs g [.t (.int .i64 h)] []=some (.t (.bool (decide (0<=h/\h<=3))),[]):=fnQ qO4 h trivial
theorem jJ0 {h:Int}(hV:vv=.t (.bool (decide (0<=h/\h<=3))))(hO:oo=[]):qO4.K h vv oo:=⟨_,rfl,hV,hO⟩
theorem qZl  (h:Int) :
  xJ.1.wp tab gl (qD 0 [.t (.int .i64 h)]) (qD 0 []) (qZ [(2,none)] 0 (qO4.K h)):=by
 by_cases c:0<=h
 .by_cases d:h<=3
  .simp(disch:=omega)only[go_sem,xJ,c,d];exact jJ0 (by simp[c,d]) rfl
  .simp(disch:=omega)only[go_sem,xJ,c,d];exact jJ0 (by simp[c,d]) rfl
 .simp(disch:=omega)only[go_sem,xJ,c];exact jJ0 (by simp[c]) rfl
def vrF (u m sg:List UInt8):Bool:=decide (sg.length=561/\sg.getD 0 0=0/\rcF m (sg.drop 1)=u)
def qLb:ECt where
 α:=List UInt8×List UInt8×List UInt8
 β:=Int×Bool
 aS:=λ(p,m,sg)=>[.t (.sl (p.map qA)),.t (.sl (m.map qA)),.t (.sl (sg.map qA))]
 pre:=λ(p,m,sg)=>(∃u:List UInt8,p=0::u/\u.length=16)/\m.length<=1000/\sg.length<=100000
 r:=λ(l,ok)=>.tup [.t (.int .i64 l),.t (.bool ok)]
 R:=λ(p,m,sg)(l,ok)=>l=0/\ok=vrF (p.drop 1) m sg
theorem jSt {g:EF qLb}{p m sg:List UInt8}(hp:(∃u:List UInt8,p=0::u/\u.length=16)/\m.length<=1000/\sg.length<=100000):∃(l:Int)(ok:Bool),(l=0/\ok=vrF (p.drop 1) m sg)/\qLb.fs g [.t (.sl (p.map qA)),.t (.sl (m.map qA)),.t (.sl (sg.map qA))] []=some (.tup [.t (.int .i64 l),.t (.bool ok)],[]):=by
 obtain⟨y,h1,h2⟩:=qLb.eq g (p,m,sg) hp;exact⟨y.1,y.2,h1,h2⟩
theorem jYr {p m sg:List UInt8}(l:Int)(ok:Bool)(hR:l=0/\ok=vrF (p.drop 1) m sg)(hV:vv=.tup [.t (.int .i64 l),.t (.bool ok)])(hO:oo=[]):qLb.K (p,m,sg) vv oo:=⟨(l,ok),hR,hV,hO⟩
theorem qYc {g1}(h1:LkE tab 238 qO4 g1){g2}(h2:LkE tab 239 qLa g2){g3}(h3:LkE tab 240 qO2 g3)(p m sg:List UInt8)(hp:(∃u:List UInt8,p=0::u/\u.length=16)/\m.length<=1000/\sg.length<=100000) :
  kB.1.wp tab gl (qD 0 [.t (.sl (p.map qA)),.t (.sl (m.map qA)),.t (.sl (sg.map qA))]) (qD 0 []) (qZ [(6,none),(7,none)] 0 (qLb.K (p,m,sg))):=by
 obtain⟨⟨u,rfl,hu⟩,hm,hs⟩:=hp;have hK:∀b vv,b=vrF u m sg->vv=.tup [.t (.int .i64 0),.t (.bool b)]->qLb.K (0::u,m,sg) vv []:=λb vv h g=>jYr 0 b ⟨rfl,h⟩ g rfl
 have k0:(0:UInt8).toNat=0:=rfl;have e0:=@jSr g1 0;rw[decide_eq_true oM]at e0;by_cases c3:sg.length=561
 rotate_left
 .have hv:false=vrF u m sg:=by simp[vrF,c3]
  simp(disch:=omega)only[go_sem,kB,hu,k0,h1,e0,c3];exact hK false _ hv rfl
 obtain⟨b,w,rfl⟩:∃b w,sg=b::w:=by cases sg with|nil=>simp at c3|cons a p=>exact⟨a,p,rfl⟩
 have lw:w.length=560:=by simp at c3;exact c3
 by_cases c4:b=0
 rotate_left
 .have hv:false=vrF u m (b::w):=by simp[vrF,c4]
  have c5:1<=b.toNat:=by
   have:b.toNat≠0:=λh=>c4 (by rw[<-UInt8.ofNat_toNat (x:=b),h];rfl)
   omega
  simp(disch:=omega)only[go_sem,kB,hu,k0,h1,e0,lw,c5];exact hK false _ hv rfl
 subst c4;obtain⟨x,ok,⟨q1,q2⟩,e1⟩:=jSp (g:=g2) (l:=0) (m:=m) (sg:=w) ⟨rfl,hm,lw⟩;subst q2;have hv:vrF u m (0::w)=decide (x=u):=by
  rw[q1];simp[vrF,lw]
 have lx:x.length=16:=by rw[q1];exact qIk
 rw[hv]at hK;clear q1 hv;have e2:=jSi (g:=g3) (x:=x) (i:=0) (p:=[]) ⟨lx,rfl,rfl⟩;have t:List.take 560 w=w:=take_of_length_le oM;simp only[map_nil]at e2;simp(disch:=omega)only[go_sem,kB,hu,k0,h1,e0,lw,h2,e1,t];refine qJ 1 ?_;by_cases c6:x=u
 .rw[decide_eq_true c6]at hK;subst c6;simp(disch:=omega)only[go_sem,qF,h3,e2];repeat refine aiG ?_
  exact hK true _ rfl rfl
 .rw[decide_eq_false c6]at hK;simp(disch:=omega)only[go_sem,qF,h3,e2,c6];repeat refine aiG ?_
  exact hK false _ rfl rfl
def zJ6 (d r:List UInt8):List UInt8:=kX 9 [d,r]
theorem qVy {d r:List UInt8}:(zJ6 d r).length=32:=qO
def qK8:ECt where
 α:=List UInt8×List UInt8
 β:=List UInt8
 aS:=λ(d,r)=>[.t (.sl (d.map qA)),.t (.sl (r.map qA))]
 pre:=λ(d,r)=>d.length<=100/\r.length<=200
 r:=λr'=>.t (.sl (r'.map qA))
 R:=λ(d,r) r'=>r'=zJ6 d r
theorem jSh {g:EF qK8}{d r:List UInt8}(hp:d.length<=100/\r.length<=200):qK8.fs g [.t (.sl (d.map qA)),.t (.sl (r.map qA))] []=some (.t (.sl ((zJ6 d r).map qA)),[]):=fnQ qK8 (d,r) hp
theorem jYk {d r:List UInt8}(hV:vv=.t (.sl ((zJ6 d r).map qA)))(hO:oo=[]):qK8.K (d,r) vv oo:=⟨_,rfl,hV,hO⟩
theorem qRg (h1:LkC tab 102 yP)(d r:List UInt8)(hp:d.length<=100/\r.length<=200) :
  qAw.1.wp tab gl (qD 0 [.t (.sl (d.map qA)),.t (.sl (r.map qA))]) (qD 0 []) (qZ [(4,none)] 0 (qK8.K (d,r))):=by
 have e:=zEu (t:=9) (fs:=[d,r]) ⟨oM,by simp[zB,qBq];omega⟩;have k9:((9:Nat):Int)=9:=rfl;rw[show kX 9 [d,r]=zJ6 d r from rfl]at e;have l:(zJ6 d r).length=32:=qVy;have t:List.take 32 (zJ6 d r)=zJ6 d r:=take_of_length_le oM;have hK:∀vv,vv=.t (.sl ((zJ6 d r).map qA))->qK8.K (d,r) vv []:=λvv h=>jYk h rfl
 generalize zJ6 d r=m at *;simp only[mcn,qG,k9]at e;simp(disch:=omega)only[go_sem,qAw,h1,e,t];.repeat first|exact(hK _ rfl)|refine⟨rfl,?_⟩
def apF (s:St)(h:Int)(u r g:List UInt8):St×Int:=
 if vrF u (zJ6 (qFm s h).2.1.dg r) g=true then(exS s (qFm s h).1 (qFm s h).2.1 (.apr (zG1 (qFk (0::u))) r),0) else(default,17)
def apP (s:St)(h:Int)(r g:List UInt8):Prop:=(s.ses.length=3/\tmI h)/\(qFm s h).2.2=true/\(qFm s h).2.1.kd=2/\(qFm s h).2.1.dg.length=32/\r.length<=60/\g.length<=1000
def qOl:ECt where
 α:=St×Int×Pu×List UInt8×List UInt8
 β:=St×Int
 aS:=λ(s,h,x,r,w)=>[.t (stA s),.t (.int .i64 h),.t (puA x),.t (.sl (r.map qA)),.t (.sl (w.map qA))]
 pre:=λ(s,h,x,r,w)=>apP s h r w/\∃u:List UInt8,x=qFk (0::u)/\u.length=16
 r:=λ(t,e)=>.tup [.t (stA t),.t (.int .i64 e)]
 R:=λ(s,h,x,r,w)(t,e)=>∀u,x=qFk (0::u)->(t,e)=apF s h u r w
theorem jPm {g:EF qOl}{s:St}{h:Int}{x:Pu}{r w:List UInt8}(hp:apP s h r w/\∃u:List UInt8,x=qFk (0::u)/\u.length=16):∃(t:St)(e:Int),(∀u,x=qFk (0::u)->(t,e)=apF s h u r w)/\qOl.fs g [.t (stA s),.t (.int .i64 h),.t (puA x),.t (.sl (r.map qA)),.t (.sl (w.map qA))] []=some (.tup [.t (stA t),.t (.int .i64 e)],[]):=by
 obtain⟨y,h1,h2⟩:=qOl.eq g (s,h,x,r,w) hp;exact⟨y.1,y.2,h1,h2⟩
theorem jPl {s:St}{h:Int}{x:Pu}{r w:List UInt8}(t:St)(e:Int)(hR:∀u,x=qFk (0::u)->(t,e)=apF s h u r w)(hV:vv=.tup [.t (stA t),.t (.int .i64 e)])(hO:oo=[]):qOl.K (s,h,x,r,w) vv oo:=⟨(t,e),hR,hV,hO⟩
theorem qS6 {g1}(h1:LkE tab 179 qKp g1){g2}(h2:LkE tab 178 qIg g2){g3}(h3:LkE tab 181 qK8 g3){g4}(h4:LkE tab 180 qLb g4){g5}(h5:LkE tab 183 qG2 g5){g6}(h6:LkE tab 182 qIb g6)(s:St)(h:Int)(x:Pu)(r w:List UInt8)(hp:apP s h r w/\∃u:List UInt8,x=qFk (0::u)/\u.length=16) :
  kT.1.wp tab gl (qD 0 [.t (stA s),.t (.int .i64 h),.t (puA x),.t (.sl (r.map qA)),.t (.sl (w.map qA))]) (qD 0 []) (qZ [(10,(some (30,true))),(11,none)] 0 (qOl.K (s,h,x,r,w))):=by
 obtain⟨⟨hl,hb,hk2,hd,hr,hg⟩,u,rfl,hu⟩:=hp;obtain⟨k,x,b,e,e1⟩:=jEc (g:=g1) (s:=s) (h:=h) hl;have hx:(qFm s h).2.1=x:=by rw[<-e]
 have hb':b=true:=by rw[<-e]at hb;exact hb
 subst hb';obtain⟨k1,k2,k3,k4,k5⟩:=jDv e;rw[hx]at hd hk2;have hK2:(qFk (0::u)).K2:= .inr ⟨_,rfl,by simp[hu]⟩;have e2:=zVl (g:=g2) hK2;have e3:=jSh (g:=g3) (d:=x.dg) (r:=r) ⟨oM,oM⟩;obtain⟨l,ok,⟨rfl,hok⟩,e4⟩:=jSt (g:=g4) (p:=0::u) (m:=zJ6 x.dg r) (sg:=w) ⟨⟨u,rfl,hu⟩,by rw[qVy];omega,oM⟩;have e5:=zVm (g:=g5) hK2;have e6:=jEb (g:=g6) (s:=s) (k:=k) (x:=x) (a:= .apr (zG1 (qFk (0::u))) r) ⟨hl.1,⟨k2,k3⟩,hd,⟨qPj,oM⟩⟩;have lN:(zG1 (qFk (0::u))).length=32:=qPj;have hok:ok=vrF u (zJ6 x.dg r) w:=hok;have hK:∀t e',(t,e')=(if ok=true then(exS s k x (.apr (zG1 (qFk (0::u))) r),0) else(default,17))->∀u',qFk (0::u)=qFk (0::u')->(t,e')=apF s h u' r w:=by
  intro t e' h' u' hu';obtain rfl:u=u':=by simpa [qFk]using hu'
  have h1:(qFm s h).1=k:=by rw[<-e]
  rw[h',apF,hx,h1,<-hok]
 clear hok e hb hx;generalize zG1 (qFk (0::u))=N at *;generalize zJ6 x.dg r=M at *;have hE:∀t,exS s k x (.apr N r)=t->stA (exS s k x (.apr N r))=stA t:=λt h=>by rw[h]
 obtain⟨t,ht⟩:∃t,exS s k x (.apr N r)=t:=⟨_,rfl⟩;rw[ht]at hK e6;obtain⟨kd,no,dg,up,lo,cm,dl,av⟩:=x;simp only at hk2 hd e3 e4;subst hk2;simp only[stA,jS,puA,qFk,avA,avL,mcn]at e1 e2 e4 e5 e6;cases ok
 .simp(maxSteps:=9^9)(disch:=try exact dS)only[go_sem,kT,stA,jS,puA,qFk,mcn,h1,e1,h2,e2,hr,h3,e3,h4,e4];repeat refine aiG ?_
  exact jPl default 17 (hK _ _ rfl) rfl rfl
 .simp(maxSteps:=9^9)(disch:=try exact dS)only[go_sem,kT,stA,jS,puA,qFk,mcn,h1,e1,h2,e2,hr,h3,e3,h4,e4,h5,e5,h6,e6];repeat refine aiG ?_
  exact jPl t 0 (hK _ _ rfl) rfl rfl
def jD (s:St):Cm->St×Rs
 |.up=>(qSr s,⟨0,[],[],[]⟩)
 |.ev i d=>(evS s i d,⟨0,[],[[],jF d],[]⟩)
 |.op k=>((qVd s k).1,⟨0,[768+frS s.ses 0],[qY1 s 16],[]⟩)
 |.po h a=>asR s h a
 |.px h d=>asR s h (ixV s d)
 |.pd h=>(s,⟨0,[],[(qCu s h).2.1.dg],[]⟩)
 |.pr h po au da=>qPm s h po au da
 |.un h ss _=>if ckE s h ss=0 then(zG0 s ss,⟨0,[],[(qBb s h).1.s.da],[]⟩) else(s,⟨ckE s h ss,[],[],[]⟩)
 |.df=>dfR s
 |.ic=>icR s
 |.ud=>udR s
 |.rd=>zL5 s
 |.ap h k r w=>if(apF s h (k.drop 8) r w).2=0 then((apF s h (k.drop 8) r w).1,⟨0,[],[],[]⟩) else(s,⟨(apF s h (k.drop 8) r w).2,[],[],[]⟩)
def CmP (s:St)(lo:Int):Cm->Prop
 |.up=>s.a.Ok/\s.cn 1000000/\s.on=false/\s.off=false
 |.ev i d=>EvP s/\lo=4/\(0<=i/\i<=15)/\d.length<=100
 |.op k=>OpP s/\2<=k/\k<=3
 |.po h a=>((RV s.bk/\0<=s.u)/\s.ses.length=3)/\tmI h/\(qFm s h).2.2=true/\fmP a/\ckP s (qFm s h).2.1 a/\(qFm s h).2.1.dg.length=32
 |.px h d=>((RV s.bk/\0<=s.u)/\s.ses.length=3)/\tmI h/\pxP s h d
 |.pd h=>s.ses.length=3/\tmI h/\(qCu s h).2.2=true/\(qCu s h).2.1.kd≠1
 |.pr h po au da=>PrP s h po au da
 |.un h ss v=>CkP s (qC (.un h ss v))/\(ckE s h ss=0->(qCu s ss).2.1.kd=2)/\s.En/\tmI h/\(qBb s h).2=0
 |.df=>CkP s (qC .df)/\s.En/\ixO s.a.ix
 |.ud=>CkP s (qC .ud)/\s.En/\ixO s.a.ix/\s.rl=[]/\s.wl=[]
 |.ic=>s.En/\(s.a.ix=[]\/CkP s (qC .ic)/\zNm s)
 |.rd=>s.En/\(s.a.ix=[]\/CkP s (qC .rd)/\zNm s)
 |.ap h k r w=>apP s h r w/\∃u:List UInt8,k=qO7 (qFk (0::u))/\u.length=16
theorem jOu {s:St}{lo:Int}{c d:Cm}(hc:CmP s lo c)(hd:CmP s lo d)(e:qC c=qC d):c=d:=by
 cases c<;>cases d<;>simp only[CmP]at hc hd
 case po.po h a h' a'=>
  obtain⟨rfl,rfl⟩:=zS5 hc.2.2.2.1 hd.2.2.2.1 e;rfl
 case po.px=>exact absurd e (zLu hc.2.2.2.1)
 case px.po=>exact absurd e.symm (zLu hd.2.2.2.1)
 all_goals(simp[qC]at e)
 all_goals first|rfl|(subst e;rfl)|(obtain⟨rfl,rfl⟩:=e;rfl)|(obtain⟨rfl,rfl,rfl⟩:=e;rfl)|(obtain⟨rfl,rfl,rfl,rfl⟩:=e;rfl)
theorem qQ9 {s:St}{lo:Int}{c:Cm}(hc:CmP s lo c){t:St}{r:Rs}(h:(t,r)=jD s c):∀d,CmP s lo d->qC c=qC d->(t,r)=jD s d:=by
 intro d hd e;rw[<-jOu hc hd e];exact h
def qN9:ECt where
 α:=St×Int×Rq
 β:=St×Rs
 aS:=λ(s,lo,q)=>[.t (stA s),.t (.int .i64 lo),.t (rqA q)]
 pre:=λ(s,lo,q)=>∃c,q=qC c/\CmP s lo c/\(c=.up\/(∃i d,c=.ev i d)\/(∃k,c=.op k)\/(∃h a,c=.po h a)\/(∃h d,c=.px h d)\/(∃h,c=.pd h)\/∃h k r w,c=.ap h k r w)
 r:=λ(t,r)=>.tup [.t (stA t),.t (rsA r)]
 R:=λ(s,lo,q)(t,r)=>∀d,CmP s lo d->q=qC d->(t,r)=jD s d
theorem jNs {g:EF qN9}{s:St}{lo:Int}{q:Rq}(hp:∃c,q=qC c/\CmP s lo c/\(c=.up\/(∃i d,c=.ev i d)\/(∃k,c=.op k)\/(∃h a,c=.po h a)\/(∃h d,c=.px h d)\/(∃h,c=.pd h)\/∃h k r w,c=.ap h k r w)):∃(t:St)(r:Rs),(∀d,CmP s lo d->q=qC d->(t,r)=jD s d)/\qN9.fs g [.t (stA s),.t (.int .i64 lo),.t (rqA q)] []=some (.tup [.t (stA t),.t (rsA r)],[]):=by
 obtain⟨y,h1,h2⟩:=qN9.eq g (s,lo,q) hp;exact⟨y.1,y.2,h1,h2⟩
theorem qBz {s:St}{lo:Int}{q:Rq}(t:St)(r:Rs)(hR:∀d,CmP s lo d->q=qC d->(t,r)=jD s d)(hV:vv=.tup [.t (stA t),.t (rsA r)])(hO:oo=[]):qN9.K (s,lo,q) vv oo:=⟨(t,r),hR,hV,hO⟩
theorem qZc {g1}(h1:LkE tab 134 qOr g1){g2}(h2:LkE tab 135 qKj g2){g4}(h4:LkE tab 137 qOa g4){g6}(h6:LkE tab 139 qN8 g6){g7}(h7:LkE tab 140 qN5 g7){g8}(h8:LkE tab 141 qO3 g8){g10}(h10:LkE tab 142 qOl g10){g11}(h11:LkE tab 143 qG0 g11)(s:St)(lo:Int)(q:Rq)(hp:∃c,q=qC c/\CmP s lo c/\(c=.up\/(∃i d,c=.ev i d)\/(∃k,c=.op k)\/(∃h a,c=.po h a)\/(∃h d,c=.px h d)\/(∃h,c=.pd h)\/∃h k r w,c=.ap h k r w)) :
  jU.1.wp tab gl (qD 0 [.t (stA s),.t (.int .i64 lo),.t (rqA q)]) (qD 0 []) (qZ [(6,(some (30,true))),(7,(some (4,true)))] 0 (qN9.K (s,lo,q))):=by
 obtain⟨c,rfl,hc,hk⟩:=hp;have hS:=λt r=>@qQ9 s lo c hc t r
 rcases hk with rfl|⟨i,d,rfl⟩|⟨k,rfl⟩|⟨h,a,rfl⟩|⟨h,d,rfl⟩|⟨h,rfl⟩|⟨h,k,r,w,rfl⟩
 .obtain⟨ok,cn,on,off⟩:=hc;obtain⟨y,e,⟨q1,q2⟩,e1⟩:=jP9 (g:=g1) (s:=s) (m:=0) ⟨ok,cn⟩;have hs:zG5 s 0=(qSr s,0):=by simp[zG5,on,off]
  rw[hs]at q1 q2;subst q1 q2;obtain⟨t,r,q3,e2⟩:=zLj (g:=g2) (s:=s) (c:=qSr s) (e:=0);rw[if_pos rfl]at q3;have hK:=hS t r q3;clear hS q3 hs;simp only at e1;generalize qSr s=y at *;simp only[stA,rsA]at e1 e2;simp(maxSteps:=9^9)(disch:=try exact dS)only[go_sem,jU,stA,rsA,rqA,qC,iT,mcn,h1,h2,e1,e2];.repeat first|exact(qBz t r hK rfl rfl)|refine⟨rfl,?_⟩
 .obtain⟨t,r,q,e1⟩:=jNt (g:=g4) (s:=s) (lo:=lo) (q:=qC (.ev i d)) ⟨hc.1,hc.2.1,i,d,rfl,hc.2.2⟩;obtain⟨rfl,rfl⟩:=q i d rfl;have hK:=hS _ _ rfl;simp only[jD]at hK;clear hS q;generalize evS s i d=y at *;simp only[stA,rsA,rqA,qC,iT,mcn,qG]at e1;simp(maxSteps:=9^9)(disch:=try exact dS)only[go_sem,jU,stA,rsA,rqA,qC,iT,mcn,qG,h4,e1];.repeat first|exact(qBz _ _ hK rfl rfl)|refine⟨rfl,?_⟩
 .obtain⟨t,r,q,e1⟩:=jNr (g:=g6) (s:=s) (q:=qC (.op k)) ⟨hc.1,k,rfl,hc.2⟩;obtain⟨rfl,rfl⟩:=q k rfl;have hK:=hS _ _ rfl;simp only[jD]at hK;clear hS q;generalize (qVd s k).1=y at *;simp only[stA,rsA,rqA,qC,iT,mcn,qG]at e1;simp(maxSteps:=9^9)(disch:=try exact dS)only[go_sem,jU,stA,rsA,rqA,qC,iT,mcn,qG,h6,e1];.repeat first|exact(qBz _ _ hK rfl rfl)|refine⟨rfl,?_⟩
 .obtain⟨t,r,q,e1⟩:=jDl (g:=g7) (s:=s) (q:=qC (.po h a)) ⟨hc.1,.inl ⟨h,a,rfl,hc.2⟩⟩;have hK:=hS t r (q.1 h a hc.2.2.2.1 rfl);clear hS q;simp only[stA,rsA,rqA,qC,iT,mcn]at e1;simp(maxSteps:=9^9)(disch:=try exact dS)only[go_sem,jU,stA,rsA,rqA,qC,iT,mcn,h7,e1];.repeat first|exact(qBz t r hK rfl rfl)|refine⟨rfl,?_⟩
 .obtain⟨t,r,q,e1⟩:=jDl (g:=g7) (s:=s) (q:=qC (.px h d)) ⟨hc.1,.inr ⟨h,d,rfl,hc.2⟩⟩;have hK:=hS t r (q.2 h d rfl);clear hS q hc;simp only[stA,rsA,rqA,qC,iT,mcn,qG]at e1;simp(maxSteps:=9^9)(disch:=try exact dS)only[go_sem,jU,stA,rsA,rqA,qC,iT,mcn,qG,h7,e1];.repeat first|exact(qBz t r hK rfl rfl)|refine⟨rfl,?_⟩
 .obtain⟨x,ex,q,e1⟩:=zL8 (g:=g11) (s:=s) (h:=h) ⟨hc.1,hc.2.1⟩;rw[if_pos hc.2.2.1]at q;cases q;have hk:=hc.2.2.2;have hK:=hS s ⟨0,[],[(qCu s h).2.1.dg],[]⟩ rfl;clear hS hc;generalize (qCu s h).2.1=x at *;simp only[stA,jS]at e1;simp(maxSteps:=9^9)(disch:=try exact dS)only[go_sem,jU,stA,rsA,rqA,qC,iT,mcn,qG,h11,e1,hk];.repeat first|exact(qBz s ⟨0,[],[x.dg],[]⟩ hK rfl rfl)|refine⟨rfl,?_⟩
 .obtain⟨ha,u,hk,hu⟩:=hc;obtain⟨x,e0,⟨rfl,rfl⟩,c1⟩:=jSj (g:=g8) (b:=k) ⟨0::u,hk,by simp[hu]⟩;have h7:k.drop 7=0::u:=by rw[hk,qMt (by simp[hu])];rfl
  have h8':k.drop 8=u:=by rw[hk,qMt (by simp[hu])];rfl
  rw[h7]at c1;obtain⟨t,e,q,c2⟩:=jPm (g:=g10) (s:=s) (h:=h) (x:=qFk (0::u)) (r:=r) (w:=w) ⟨ha,u,rfl,hu⟩;obtain⟨t',r',q2,c3⟩:=zLj (g:=g2) (s:=s) (c:=t) (e:=e);have hK:=hS t' r' (by rw[q2,jD,h8',<-q u rfl]);clear hS q q2 ha hk h7 h8';simp only[stA,rsA,puA,qFk,mcn]at c1 c2 c3;simp(maxSteps:=9^9)(disch:=try exact dS)only[go_sem,jU,stA,rsA,rqA,qC,iT,mcn,qG,h2,h8,h10,c1,c2,c3];.repeat first|exact(qBz t' r' hK rfl rfl)|refine⟨rfl,?_⟩
end Go.Eng
end
